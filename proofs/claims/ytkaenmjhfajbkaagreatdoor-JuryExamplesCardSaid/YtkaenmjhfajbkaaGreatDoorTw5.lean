/-
 The statement juryExamples_said, part 5 of 7: Fresh, Rep, ExJ, JHits, JMore, JMem, SeqO, JSeq, Win6, JWin, JTop, JAlv, JRep, JPut, JMor, JFeeL, JPutL, ExJ2, DrawB, MapD, Bits, BoolC, B1, Rc1, B4, B2, B3, B5, B6, Frozen, MarkD, Marks, Follow, OpenM, V2, V1, V4, V3, V5.
 Conditions: none.
-/
import Derived.Test.YtkaenmjhfajbkaaGreatDoorTw1
import Derived.Test.YtkaenmjhfajbkaaGreatDoorTw2
import Derived.Test.YtkaenmjhfajbkaaGreatDoorTw3
import Derived.Test.YtkaenmjhfajbkaaGreatDoorTw4
import Derived.KernelRfl
namespace Go.Proofs.YtkaenmjhfajbkaaGreatDoor
set_option maxRecDepth 100000
set_option maxHeartbeats 4000000
set_option linter.unusedVariables false
section
open Go.RowKit
def mq (m:aq) (a:RA):List au:=[own a.1 a.2 xB 2 (m.ba.aj.map aG.cells)]
def jC (m:List aq) (a:cg):List au:=own a.1.1 a.1.2 xQ 7 (List.zipWith aq.cells m a.2)::aX mq m a.2
theorem I9: ∀ (m:aq) (a:RA) (w:World),(∀ X∈mq m a,X.holds w)→ ∀ X∈aq.gQ m a,X.holds w:=fun m a w h X hX=>by
 simp only [aq.gQ,bW] at hX
 subst hX
 have:=oU (h _ (bW.2 rfl))
 simpa using this
theorem nN {m:List aq} {asl:List RA} (h:asl.length=m.length):(List.zipWith aq.cells m asl).length=m.length:=by simp [h]
theorem dq {m:List (List aq)} {asl:List cg} (h:asl.length=m.length):(List.zipWith cc m asl).length=m.length:=by simp [h]
theorem Hm {m:List aq} {asl:List RA}:(aX mq m asl).all (·.wr)=true:=by
 rw [cm]
 intro X hX
 obtain ⟨k,d,a,_,_,h⟩:=iw hX
 simp only [mq,bW] at h
 subst h; rfl
theorem sX {m:List (List aq)} {asl:List cg}:(bx (aX jC m asl)).wr=true:=by
 show (aX jC m asl).all (·.wr)=true
 rw [cm]
 intro X hX
 obtain ⟨k,d,a,_,_,h⟩:=iw hX
 rcases bB.1 h with rfl|h
 ·rfl
 ·exact cm.1 Hm X h
theorem G4 (l:List aq) (az:List RA): ∀ v∈(List.zipWith aq.cells l az).flatten,v.oneCell'=true:=by
 induction l generalizing az with
 |nil=>intro v hv; simp at hv
 |cons x l ih=>
  cases az with
  |nil=>intro v hv; simp at hv
  |cons a az=>
   intro v hv
   rw [List.zipWith_cons_cons,List.flatten_cons,gn] at hv
   rcases hv with hv|hv
   ·simp [aq.cells,aJ.cells,cS.cells,ab.cells] at hv
    rcases hv with rfl|rfl|rfl|rfl|rfl|rfl|rfl<;>rfl
   ·exact ih az v hv
theorem BD (l:List (List aq)) (az:List cg): ∀ v∈(List.zipWith cc l az).flatten,v.oneCell'=true:=by
 induction l generalizing az with
 |nil=>intro v hv; simp at hv
 |cons x l ih=>
  cases az with
  |nil=>intro v hv; simp at hv
  |cons a az=>
   intro v hv
   rw [List.zipWith_cons_cons,List.flatten_cons,gn] at hv
   rcases hv with hv|hv
   ·simp [cc] at hv; subst hv; rfl
   ·exact ih az v hv
/-- every heat has as many places as descents -/
def rn (H:List (List aq)) (hz:List cg):Prop:=hz.length=H.length∧ ∀ (k:Nat) h (a:cg),H[k]? =some h→hz[k]? =some a→a.2.length=h.length
theorem GU {a:OA} {c e sz n:Nat} {es:List (List Value)} {w:World} (h:(own a c e sz es).holds w) (hn:es.length=n):(rd a n sz es).holds w:=by subst hn; exact oU h
theorem ed {C:List au} {H:List (List aq)} {hz:List cg} (i:Nat) (hC:C[i]? =some (bx (aX jC H hz))) (hh:rn H hz):iE C (dw (aX ep H hz)).holds:=fun w hw X hX=>by
 have hb:=hw _ (aP hC)
 obtain ⟨k,m,a,A,B,D⟩:=iw hX
 rcases bB.1 D with rfl|D
 ·exact GU (hb.1 _ (bM A B cf)) (nN (hh.2 k m a A B))
 ·obtain ⟨q,d,b,E,F,G⟩:=iw D
  exact I9 d b w (fun Y hY=>hb.1 Y (bM A B (db _ (bM E F hY)))) X G
section
variable {α:Type}
def iT (bz az:List α) (i:Nat):List α:=bz++az.drop i
variable {bz az:List α} {i:Nat} {a b:α}
theorem gG (hb:bz.length=i) (hi:i≤az.length):(iT bz az i).length=az.length:=by simp [iT,hb]; omega
theorem sE (h:az.length≤i):iT bz az i=bz:=by unfold iT; rw [List.drop_eq_nil_of_le h,List.append_nil]
theorem vD (hb:bz.length=i) (h:az[i]? =some a):(iT bz az i)[i]? =some a:=by
 unfold iT
 rw [List.getElem?_append_right om,hb,Nat.sub_self,List.getElem?_drop]
 simpa using h
theorem CU (hb:bz.length=i):(iT (bz++[b]) az (i+1))[i]? =some b:=by
 unfold iT
 rw [List.getElem?_append_left (by simp; omega),List.getElem?_append_right om,hb,Nat.sub_self]; rfl
theorem DS (hb:bz.length=i) (h:az[i]? =some a):(iT bz az i).set i b=iT (bz++[b]) az (i+1):=by
 unfold iT
 have hi:=(bg.1 h).1
 rw [List.set_append_right _ _ om,hb,Nat.sub_self,List.drop_eq_getElem_cons hi,List.set_cons_zero]
 simp
theorem sT {M β:Type} {c:M→α→β} {l:List M} {x:M} (hx:l[i]? =some x) (hb:bz.length=i) (h:az[i]? =some a):(List.zipWith c l (iT bz az i)).set i (c x b)=List.zipWith c l (iT (bz++[b]) az (i+1)):=by
 rw [td,DS hb h]
 congr 1
 obtain ⟨hi,rfl⟩:=bg.1 hx
 exact List.set_getElem_self hi
theorem oY {M:Type} {f:M→α→List au} {l:List M} {x:M} (hx:l[i]? =some x) (hb:bz.length=i):aX f (l.take i) bz++f x b=aX f (l.take (i+1)) (bz++[b]):=by
 have hi:=(bg.1 hx).1
 rw [List.take_add_one,hx,Option.toList_some,kf (by rw [List.length_take,hb]; omega)]
 simp [aX]
end
theorem wD: ∀ {l:List (List aq)} {u v:List cg},u.map (·.1)=v.map (·.1)→List.zipWith cc l u=List.zipWith cc l v
 |[],u,v,_=>by simp
 |x::l,[],[],_=>rfl
 |x::l,[],b::v,h=>by simp at h
 |x::l,a::u,[],h=>by simp at h
 |x::l,a::u,b::v,h=>by
  simp only [List.map_cons,List.cons.injEq] at h
  rw [List.zipWith_cons_cons,List.zipWith_cons_cons,wD h.2]
  have e:cc x a=cc x b:=by simp only [cc,h.1]
  rw [e]
theorem DD {l:List (List aq)} {hz ha:List cg} {p:RA} {x y:List RA} {i:Nat}:List.zipWith cc l (iT (hz++[(p,x)]) ha i)=List.zipWith cc l (iT (hz++[(p,y)]) ha i):=wD (by simp [iT])
theorem F9 {H:List (List aq)} {hz:List cg} {i:Nat} {x:List aq} {b:cg} (hx:H[i]? =some x) (h: ∀ (k:Nat) y (a:cg),H[k]? =some y→hz[k]? =some a→a.2.length=y.length) (hb:hz.length=i) (hl:b.2.length=x.length): ∀ (k:Nat) y (a:cg),H[k]? =some y→(hz++[b])[k]? =some a→a.2.length=y.length:=fun k y a hy ha=>by
 by_cases e:k<hz.length
 ·rw [List.getElem?_append_left e] at ha
  exact h k y a hy ha
 ·rw [List.getElem?_append_right om] at ha
  have hk:k-hz.length=0:=by
   rcases Nat.eq_zero_or_pos (k-hz.length) with A|A
   ·exact A
   ·rw [List.getElem?_eq_none (by simp; omega)] at ha; cases ha
  rw [hk] at ha
  simp at ha
  have:k=i:=by omega
  subst this
  rw [hx] at hy; cases hy
  subst ha; exact hl
theorem zB {S:BS} {w0 w:World} {C:List au} {A:au} {Y Z:List au} (h:St S w0 (A::bx Y::bx Z::C) w):St S w0 (bx (Z++A::Y)::C) w:=by
 have D:St S w0 (bx Y::A::bx Z::C) w:=h.perm (List.Perm.swap _ _ _)
 have E:St S w0 (Y++(A::bx Z::C)) w:=D.iA
 have F:St S w0 (bx Z::(A::Y)++C) w:=E.perm (by
  have B:(Y++(A::bx Z::C)).Perm ((A::bx Z::C)++Y):=List.perm_append_comm
  refine B.trans ?_
  show (A::bx Z::(C++Y)).Perm (bx Z::A::(Y++C))
  exact (List.Perm.swap _ _ _).trans (((List.perm_append_comm (l₁:=C) (l₂:=Y)).cons A).cons _))
 have G:St S w0 (Z++((A::Y)++C)) w:=F.iA
 have H:St S w0 ((Z++A::Y)++C) w:=by simpa using G
 exact H.tied
theorem CA {S:BS} {w0 w:World} {C:List au} {A:au} {Y Z:List au} (h:St S w0 (bx (A::Y++Z)::C) w):St S w0 (A::bx Y::bx Z::C) w:=by
 have D:St S w0 ((A::Y++Z)++C) w:=h.iA
 have E:St S w0 (Z++(A::(Y++C))) w:=D.perm (by
  show (A::(Y++Z)++C).Perm (Z++(A::(Y++C)))
  have B:(A::(Y++Z)++C).Perm (A::(Z++(Y++C))):=by
   show (A::((Y++Z)++C)).Perm _
   refine List.Perm.cons A ?_
   rw [← List.append_assoc]
   exact List.perm_append_comm.append_right C
  exact B.trans (List.perm_middle (a:=A) (l₁:=Z) (l₂:=Y++C)).symm)
 have F:=E.tied
 have G:St S w0 (Y++(A::bx Z::C)) w:=F.perm (by
  show (bx Z::A::(Y++C)).Perm (Y++(A::bx Z::C))
  have B:(Y++(A::bx Z::C)).Perm (A::bx Z::(Y++C)):=by
   have:=List.perm_append_comm (l₁:=Y) (l₂:=A::bx Z::C)
   refine this.trans ?_
   show (A::bx Z::(C++Y)).Perm _
   exact (List.perm_append_comm.cons _).cons _
  exact (B.trans (List.Perm.swap _ _ _)).symm)
 have H:=G.tied
 exact H.perm (List.Perm.swap _ _ _)
theorem sj {H:List (List aq)} {hz:List cg} {k:Nat} {h:List aq} {a:cg} (hh:H[k]? =some h) (ha:hz[k]? =some a):(aX jC H hz).Perm (own a.1.1 a.1.2 xQ 7 (List.zipWith aq.cells h a.2)::aX mq h a.2++eF jC H hz k):=jT hh ha
theorem JB {E:dK} {K:Act→World→Prop} {D:fu} {L:cJ} {C:List au} {a:OA} {c e sz:Nat} {es:List (List Value)} (i:Nat) (hC:C[i]? =some (own a c e sz es)) (k:es.length≤c→KJ E K D L C):KJ E K D L C:=fun act w hf hs=>k (Gn (hs.holds _ (aP hC))) act w hf hs
abbrev GW (C:List au) (i j k:Nat):List Nat:=k::j::i::(List.range C.length).filter fun q=>q != i&&q != j&&q != k
section
variable {E:dK} {ops:Array Oper} {Q:cv} {rest:List Oper} {D:List Deferred} {L:List (Nat×Value)} {C C1:List au} {K:Act→World→Prop}
variable {H:List (List aq)} {hz:List cg} {h h':List aq} {a a':cg} {k:Nat} {X:au} {Y Z Z':List au}
/-- i: the others, j: what hangs on the row, q: the row -/
theorem IE (i j q:Nat) (hn:decide (GW C i j q).Nodup=true) (hC:kg C (GW C i j q)=some (X::bx Y::bx Z::C1)) (e:Z++X::Y=Z') (hk:KJ E K D L (bx Z'::C1)):KJ E K D L C:=fun a w hf hs=>by
 subst e; exact hk a w hf (zB (St.jq _ hn (iG hC) hs))
theorem Iv {c:Code} (i:Nat) (hh:H[k]? =some h) (ha:hz[k]? =some a) (hn:decide (LG C i).Nodup=true) (hC:kg C (LG C i)=some (bx (aX jC H hz)::C1))
 (hk:WJ E c Q D L (own a.1.1 a.1.2 xQ 7 (List.zipWith aq.cells h a.2)::bx (aX mq h a.2)::bx (eF jC H hz k)::C1)):WJ E c Q D L C:=fun act w hf hs=>
 hk act w hf (CA (jX (sj hh ha) (St.jq _ hn (iG hC) hs)))
theorem Ew {S:BS} {w0 w:World} (hk:k<H.length) (hk2:k<hz.length) (hs:St S w0 (own a'.1.1 a'.1.2 xQ 7 (List.zipWith aq.cells h' a'.2)::bx (aX mq h' a'.2)::bx (eF jC H hz k)::C) w):St S w0 (bx (aX jC (H.set k h') (hz.set k a'))::C) w:=by
 have B:=zB hs
 refine jX ?_ B
 have A:=sj (H:=H.set k h') (hz:=hz.set k a') (List.getElem?_set_self hk) (List.getElem?_set_self hk2)
 rw [rU] at A
 exact (List.perm_append_comm).trans A.symm
end
theorem Cl {H:List (List aq)} {hz:List cg} {k:Nat} {h h':List aq} {a:cg} {bs:List RA} (hh:H[k]? =some h) (ha:hz[k]? =some a) (hl:h'.length=h.length):List.zipWith cc (H.set k h') (hz.set k (a.1,bs))=List.zipWith cc H hz:=by
 rw [← td]
 have e:cc h' (a.1,bs)=cc h a:=by simp only [cc,hl]
 rw [e]
 have hz':=dj (f:=cc) hh ha
 obtain ⟨hi,A⟩:=bg.1 hz'
 rw [← A]
 exact List.set_getElem_self hi
end
section
open Go.RowKit
def Ff (t:ab):aq:=⟨false,true,t,⟨0,0,[]⟩⟩
section
variable {r:eJ} {h i:Int} {t:ab} {ht:List aq} {d:aq}
end
section
variable {E:dK} {Q:cv} {D:List Deferred} {L:List (Nat×Value)} {C C1:List au} {c:Code}
variable {H:List (List aq)} {hz:List cg} {h h':List aq} {a a':cg} {k:Nat} {bs:List RA} {i:Nat} {d d':aq} {b:RA}
end
end
section
set_option maxRecDepth 20000
def fY (x y:Int):aq:=Ff ⟨x,y⟩
def lk:aq:=⟨false,false,dT,jI⟩
def l0:eJ:=⟨eZ,[4,7,9],[2,0,1],2,[[lk,fY 2600 2600,fY 2580 2609],[fY 2555 2559,fY 2540 2549,fY 2570 2575]]⟩
def bP:cn:=⟨l0,[⟨1,0,12600,13000⟩,⟨2,1,11003,11100⟩,⟨3,0,10700,10900⟩,⟨1,0,13000,14000⟩],[⟨2,0,0,0,72596⟩,⟨5,0,0,1,72603⟩,⟨6,0,0,3,20000⟩],1,500⟩
theorem rH {l:bk} {x y:Int} (h:m6 ⟨x,y⟩):hZ l (fY x y):=by rw [s5 ⟨rfl,rfl⟩]; exact ⟨h,rfl,rfl,rfl⟩
theorem wu:eN l0:=by
 refine ⟨dc,dc,dc,fun i x hx=>?_,dc,fun h hh=>?_⟩
 ·match i with
  |0=>simp [l0] at hx; subst hx; exact ⟨dc,fun y h=>absurd h dc⟩
  |1=>simp [l0] at hx; subst hx; exact ⟨dc,fun y _ h=>by simp [l0] at h; omega⟩
  |2=>simp [l0] at hx; subst hx; exact ⟨dc,fun y _ h=>by simp [l0] at h; omega⟩
  |n+3=>simp [l0] at hx
 ·simp only [l0,bB,List.not_mem_nil,or_false] at hh
  rcases hh with rfl|rfl
  ·refine ⟨U,fun d hd=>?_⟩
   simp only [bB,List.not_mem_nil,or_false] at hd
   rcases hd with rfl|rfl|rfl
   ·rw [xo ⟨rfl,rfl⟩]; exact ⟨I3.1,rfl⟩
   ·exact rH dc
   ·exact rH dc
  ·refine ⟨U,fun d hd=>?_⟩
   simp only [bB,List.not_mem_nil,or_false] at hd
   rcases hd with rfl|rfl|rfl<;>exact rH dc
theorem Et:eL l0=0:=by unfold eL; rw [if_pos (show dR l0.ak=0 from Ay),if_pos wu]
theorem JS:nG bP:=by
 refine ⟨dc,fun f hf=>?_,dc,dc,dc,fun i p hp=>?_⟩
 ·simp only [bP,bB,List.not_mem_nil,or_false] at hf
  rcases hf with rfl|rfl|rfl|rfl<;>decide
 ·match i with
  |0=>simp [bP] at hp; subst hp; exact ⟨dc,fun q h=>absurd h dc,dc,dc,dc,lk,rfl,dc⟩
  |1=>simp [bP] at hp; subst hp; exact ⟨dc,fun q _ h=>by simp [bP] at h; subst h; decide,dc,dc,dc,lk,rfl,dc⟩
  |2=>simp [bP] at hp; subst hp; exact ⟨dc,fun q _ h=>by simp [bP] at h; subst h; decide,dc,dc,dc,lk,rfl,dc⟩
  |n+3=>simp [bP] at hp
theorem g8:cH bP=0:=xL Et JS
theorem xH {b:Int} (h:b<2):pP eZ jI b=true:=by
 unfold pP; rw [D5]; simp; omega
theorem Io (h:(-1:Int)<0):bY eZ jI (-1)=⟨10000,10000,true,false⟩:=if_pos h
theorem zg:bY eZ jI 0=⟨10596,11002,true,false⟩:=by
 unfold bY; rw [if_neg dc,if_pos xO.1,xO.2,xH dc]; rfl
theorem vE:bY eZ jI 1=⟨12596,12602,true,false⟩:=by
 unfold bY; rw [if_neg dc,if_pos nX.1,nX.2,xH dc]; rfl
theorem z3 {f:aI} {a b:tL} (ha:bY eZ jI (ur f)=a) (hb:bY eZ jI (Kq eZ f)=b):eQ eZ f lk=kP f a b:=by
 unfold eQ
 rw [if_pos (by decide:lh lk)]
 show kP f (bY eZ jI (ur f)) (bY eZ jI (Kq eZ f))=_
 rw [ha,hb]
theorem yj:eQ eZ ⟨1,0,12600,13000⟩ lk=1:=(z3 (f:=⟨1,0,12600,13000⟩) (show bY eZ jI (-1)=_ from Io dc) (show bY eZ jI (1)=_ from vE)).trans dc
theorem Ki:eQ eZ ⟨2,1,11003,11100⟩ lk=2:=(z3 (f:=⟨2,1,11003,11100⟩) (show bY eZ jI (0)=_ from zg) (show bY eZ jI (1)=_ from vE)).trans dc
theorem I_:eQ eZ ⟨3,0,10700,10900⟩ lk=1:=(z3 (f:=⟨3,0,10700,10900⟩) (show bY eZ jI (0)=_ from zg) (show bY eZ jI (0)=_ from zg)).trans dc
theorem Fv:eQ eZ ⟨1,0,13000,14000⟩ lk=0:=(z3 (f:=⟨1,0,13000,14000⟩) (show bY eZ jI (-1)=_ from Io dc) (show bY eZ jI (1)=_ from vE)).trans dc
theorem CD {f:aI} {x y:Int}:eQ eZ f (fY x y)=0:=oi (by simp [fY,Ff,lh])
theorem sQ {p:aV} (hd:nm bP p=some lk):jN bP p=if p.At≤72596 then 0 else if p.At≤72602 then 1 else 2:=by
 unfold jN
 rw [hd]
 simp only
 have e:bY bP.Race.ak lk.ba bP.Race.ak.cj=⟨12596,12602,true,false⟩:=vE
 rw [e]; rfl
theorem Ea:jN bP ⟨2,0,0,0,72596⟩=0:=(sQ rfl).trans dc
theorem Fz:jN bP ⟨5,0,0,1,72603⟩=2:=(sQ rfl).trans dc
theorem IW:jN bP ⟨6,0,0,3,20000⟩=0:=(sQ rfl).trans dc
theorem En {p:aV} {f:aI} (hd:nm bP p=some lk) (hf:bP.aC[p.jn.toNat]? =some f):fV bP p=(decide (jN bP p≠2)&&decide (eQ eZ f lk≠0)):=by
 unfold fV; rw [hd,hf]; rfl
theorem yE:fV bP ⟨2,0,0,0,72596⟩=true:=by rw [En (f:=⟨1,0,12600,13000⟩) rfl rfl,Ea,yj]; rfl
theorem ED:fV bP ⟨5,0,0,1,72603⟩=false:=by rw [En (f:=⟨2,1,11003,11100⟩) rfl rfl,Fz]; rfl
theorem DZ:fV bP ⟨6,0,0,3,20000⟩=false:=by rw [En (f:=⟨1,0,13000,14000⟩) rfl rfl,Fv]; simp
theorem sw:gd bP=[0]:=by
 unfold gd pT
 show jQ (fun i=>(bP.aD[i]?).any (fV bP)) 3=[0]
 rw [oN (by show fV bP ⟨6,0,0,3,20000⟩=false; exact DZ),oN (by show fV bP ⟨5,0,0,1,72603⟩=false; exact ED),rW (by show fV bP ⟨2,0,0,0,72596⟩=true; exact yE)]
 rfl
theorem Gp:Dn eZ (lK bP) bP.aC lk:=⟨⟨1,0,12600,13000⟩,by simp [bP],⟨0,⟨2,0,0,0,72596⟩,rfl,yE,rfl⟩,by rw [yj]; decide⟩
theorem qc {x y:Int}: ¬ Dn eZ (lK bP) bP.aC (fY x y):=fun ⟨f,_,_,h⟩=>h CD
theorem rG:eg bP=[[0],[]]:=by
 have A:sL eZ (lK bP) bP.aC [lk,fY 2600 2600,fY 2580 2609] 3=[0]:=by
  unfold sL
  rw [oN (by simp [qc]),oN (by simp [qc]),rW (by simp [Gp])]; rfl
 have B:sL eZ (lK bP) bP.aC [fY 2555 2559,fY 2540 2549,fY 2570 2575] 3=[]:=by
  unfold sL
  rw [oN (by simp [qc]),oN (by simp [qc]),oN (by simp [qc])]; rfl
 show [sL eZ (lK bP) bP.aC [lk,fY 2600 2600,fY 2580 2609] 3,sL eZ (lK bP) bP.aC [fY 2555 2559,fY 2540 2549,fY 2570 2575] 3]=_
 rw [A,B]
theorem xW:uH bP=500∧zO bP=1000:=by
 have h:uH bP=500:=by unfold uH; rw [sw]; rfl
 exact ⟨h,by unfold zO; rw [h]; rfl⟩
theorem AW:y_ bP 0= -1000:=by
 have h:Ed bP 0 3=2:=by
  unfold Ed
  rw [show List.range 3=[0,1,2] from rfl]
  simp only [List.countP_cons,List.countP_nil]
  rw [show (bP.aD[0]?)=some ⟨2,0,0,0,72596⟩ from rfl,show (bP.aD[1]?)=some ⟨5,0,0,1,72603⟩ from rfl,show (bP.aD[2]?)=some ⟨6,0,0,3,20000⟩ from rfl]
  simp only [Option.any_some,yE,ED,DZ]
  decide
 unfold y_
 rw [show bP.aD.length=3 from rfl,h]; rfl
end
section
/-- the places of which something is so; from the k-th on, all of them -/
def fO (P:Nat→Bool) (n k:Nat):List (Int×Bool):=((List.range n).filter fun q=>decide (k≤q)||P q).map fun (q:Nat)=>((q:Int),true)
section
variable {P:Nat→Bool} {n k q:Nat}
theorem r9 {p:Int×Bool}:p∈fO P n k↔ ∃ q:Nat,q<n∧(k≤q∨P q=true)∧p=((q:Int),true):=by
 unfold fO
 simp only [cp,List.mem_filter,List.mem_range,Bool.or_eq_true,decide_eq_true_eq]
 constructor
 ·rintro ⟨q,⟨A,B⟩,rfl⟩; exact ⟨q,A,B,rfl⟩
 ·rintro ⟨q,A,B,rfl⟩; exact ⟨q,⟨A,B⟩,rfl⟩
theorem A_:((fO P n k).map (·.1)).Nodup:=by
 unfold fO
 rw [List.map_map,List.nodup_iff_pairwise_ne,List.pairwise_map]
 have h:(List.range n).Pairwise (· ≠ ·):=by rw [← List.nodup_iff_pairwise_ne]; exact List.nodup_range
 exact (h.sublist List.filter_sublist).imp fun {a b} A e=>A (by have B:(a:Int)=(b:Int):=e; omega)
theorem Ey:c3 (fO P n 0) (n:Int) true=fO P (n+1) 0:=by
 have A:(fO P n 0).lookup (n:Int)=none:=fU.2 fun p hp e=>by
  obtain ⟨q,B,_,rfl⟩:=r9.1 hp
  simp only at e; omega
 unfold c3
 rw [A]
 show fO P n 0++[((n:Int),true)]=_
 unfold fO
 rw [List.range_succ,List.filter_append,List.map_append]
 simp
theorem Eg (h:P k=false):dF (fO P n k) (k:Int)=fO P n (k+1):=by
 unfold dF fO
 rw [List.filter_map,List.filter_filter]
 congr 1
 apply List.filter_congr
 intro q _
 by_cases e:q=k
 ·subst e; simp [h]
 ·have A:decide ((q:Int)=(k:Int))=false:=eV om
  have B:decide (k≤q)=decide (k+1≤q):=gM.2 om
  simp only [Function.comp_def,A,B,Bool.not_false,Bool.true_and]
theorem BO (h:P k=true):fO P n k=fO P n (k+1):=by
 unfold fO
 congr 1
 apply List.filter_congr
 intro q _
 by_cases e:q=k
 ·subst e; simp [h]
 ·have A:decide (k≤q)=decide (k+1≤q):=gM.2 om
  rw [A]
theorem tG (hq:q<n):((fO P n n).lookup (q:Int)).getD false=P q:=by
 cases h:P q with
 |true=>
  have:((q:Int),true)∈fO P n n:=r9.2 ⟨q,hq,.inr h,rfl⟩
  rw [(ji A_).1 this]; rfl
 |false=>
  have:(fO P n n).lookup (q:Int)=none:=fU.2 fun p hp e=>by
   obtain ⟨u,B,A,rfl⟩:=r9.1 hp
   simp only at e
   obtain rfl:u=q:=by omega
   rcases A with A|A
   ·omega
   ·rw [h] at A; cases A
  rw [this]; rfl
end
end
section
section
variable {j j':cn} {p:aV} {l:bk} {F G:aI→Prop} {fs:List aI} {h:List aq} {n:Nat} {x:Int}
theorem B2 (hFG: ∀ f∈fs,(F f↔G f)):sL l F fs h n=sL l G fs h n:=by
 unfold sL
 congr 1
 funext s
 cases e:h[s]? with
 |none=>rfl
 |some d=>
  simp only [Option.any_some]
  rw [gM]
  exact ⟨fun ⟨f,A,B,C⟩=>⟨f,A,(hFG f A).1 B,C⟩,fun ⟨f,A,B,C⟩=>⟨f,A,(hFG f A).2 B,C⟩⟩
theorem zL {k:Nat} {h:List aq} (hh:j.Race.ax[k]? =some h):(e5 j F)[k]? =some (sL j.Race.ak F j.aC h h.length):=by unfold e5; rw [fT,hh]; rfl
theorem wR:(e5 j F).length=j.Race.ax.length:=by unfold e5; rw [List.length_map]
end
end
section
open Go.RowKit
structure eB (j:cn) (az:List RA) (ha:List cg):Prop where
 race:jv j.Race az ha
 nf:j.aC.length≤1000000
 np:j.aD.length≤1000000
 kind: ∀ f∈j.aC,0≤f.Kind∧f.Kind≤255
def l1 (fin:Int) (f:aI):Prop:=(1≤f.Kind∧f.Kind≤3)∧(0≤f.ke∧f.ke≤f.To∧f.To≤86400000)∧0≤f.gh∧f.gh≤(if f.Kind=1 then 0 else fin)
instance (fin:Int) (f:aI):Decidable (l1 fin f):=by unfold l1; infer_instance
theorem GM {P:Nat→Bool} {n i:Nat} (h: ¬ 0<((jQ P n).length:Int)) (hi:i<n):P i=false:=by
 cases e:P i with
 |false=>rfl
 |true=>
  have:(i:Int)∈jQ P n:=zq.2 ⟨i,hi,rfl,e⟩
  have:=List.length_pos_of_mem this
  omega
theorem Gl {P:Nat→Bool} {n:Nat} (h:0<((jQ P n).length:Int)): ∃ i,i<n∧P i=true:=by
 obtain ⟨x,hx⟩:=List.exists_mem_of_length_pos (l:=jQ P n) om
 obtain ⟨i,A,_,B⟩:=zq.1 hx
 exact ⟨i,A,B⟩
def fI {α:Type} (l:List α) (p:Int→α→Bool) (i:Nat):Bool:=(l[i]?).any (p (i:Int))
theorem oo {α:Type} {l:List α} {p:Int→α→Bool} {i:Nat} {x:α} (h:l[i]? =some x):fI l p i=p (i:Int) x:=by unfold fI; rw [h]; rfl
section
variable {fin:Int} {f:aI} {j:cn}
theorem p6 (hk:f.Kind=1):l1 fin f↔(0≤f.ke∧f.ke≤f.To∧f.To≤86400000)∧0≤f.gh∧f.gh≤0:=by
 unfold l1; rw [if_pos hk]; omega
theorem pW (hk: ¬ f.Kind=1):l1 fin f↔(1≤f.Kind∧f.Kind≤3)∧(0≤f.ke∧f.ke≤f.To∧f.To≤86400000)∧0≤f.gh∧f.gh≤fin:=by
 unfold l1; rw [if_neg hk]
theorem yL (h:0<((jQ (fI j.aC fun _ f=>decide (¬ l1 j.Race.ak.cj f)) j.aC.length).length:Int)): ¬ nG j:=fun q=>by
 obtain ⟨i,hi,hb⟩:=Gl h
 have hx:j.aC[i]? =some (j.aC[i]'hi):=eP hi
 rw [oo hx] at hb
 exact (of_decide_eq_true hb) (q.fault _ (aP hx))
theorem w8 (h: ¬ 0<((jQ (fI j.aC fun _ f=>decide (¬ l1 j.Race.ak.cj f)) j.aC.length).length:Int)): ∀ f∈j.aC,rD j.Race.ak f:=fun f hf=>by
 obtain ⟨i,hi⟩:=List.mem_iff_getElem?.1 hf
 have hb:=GM h (bg.1 hi).1
 rw [oo hi] at hb
 exact Decidable.of_not_not (of_decide_eq_false hb)
theorem vY {b:Bool} {p q:Prop} (h1:b=false) (h2: ¬ p) (h3: ¬ q): ¬ (b=true∨p∨q):=by
 rintro (h|h|h)
 ·rw [h1] at h; cases h
 ·exact h2 h
 ·exact h3 h
end
section
variable {l:bk} {r:cM} {b:Int} {f:aI} {d:aq} {a c:tL}
theorem Bg (h:b<0):bY l r b=⟨r.Start,r.Start,true,false⟩:=if_pos h
theorem wj (h: ¬ b<0) (e: ¬ dp l r b=0):bY l r b=⟨86400000,86400000,false,true⟩:=by unfold bY; rw [if_neg h,if_neg e]
theorem ua (h: ¬ b<0) (e:dp l r b=0) (q:pP l r b=true):bY l r b=⟨(c4 l r b).Lo,(c4 l r b).Hi,true,false⟩:=by unfold bY; rw [if_neg h,if_pos e,q]; rfl
theorem sU (h: ¬ b<0) (e:dp l r b=0) (q:pP l r b=false):bY l r b=⟨(c4 l r b).Lo,86400000,false,false⟩:=by unfold bY; rw [if_neg h,if_pos e,q]; rfl
theorem qi (h:dp l r b=0) (hb:0≤b):dA l r 0=0:=by
 by_cases e:dA l r (jo l b)=0
 ·by_cases c:0≤b∧b≤(l.aa.length:Int)-1
  ·rw [v_ c] at e; exact e
  ·rw [show jo l b=2 from if_neg c] at e
   have:=(g7 e).2.2.1
   omega
 ·rw [(kK e).1] at h; exact absurd h e
theorem xN (h:dA l r 0=0):pP l r b=decide (b<kF (fp l r)):=by
 have hm:=AI (qo h)
 unfold pP
 rw [Bool.eq_iff_iff,cm,decide_eq_true_iff]
 constructor
 ·intro q; exact of_decide_eq_true (q _ hm.1)
 ·intro q x hx
  have:=hm.2 x hx
  exact gX om
theorem Hx (hb:0≤b):(0≤(bY l r b).Lo∧(bY l r b).Lo≤86400000)∧0≤(bY l r b).Hi∧(bY l r b).Hi≤86400000:=by
 by_cases e:dp l r b=0
 ·have A:=sc e
  cases q:pP l r b with
  |true=>rw [ua om e q]; simp only; omega
  |false=>rw [sU om e q]; simp only; omega
 ·rw [wj om e]; simp only; omega
theorem g_ (hk:f.Kind=1) (hr:lh d):eQ l f d=kP f (bY l d.ba (-1)) (bY l d.ba l.cj):=by
 unfold eQ ur Kq; rw [if_pos hr,if_pos hk,if_pos hk]
theorem g9 (hk:f.Kind=2) (hr:lh d):eQ l f d=kP f (bY l d.ba (f.gh-1)) (bY l d.ba f.gh):=by
 unfold eQ ur Kq; rw [if_pos hr,if_neg om,if_pos hk,if_neg om]
theorem hO (hk:f.Kind=3) (hr:lh d):eQ l f d=kP f (bY l d.ba f.gh) (bY l d.ba f.gh):=by
 unfold eQ ur Kq; rw [if_pos hr,if_neg om,if_neg om,if_neg om]
theorem eX (h:a.never=true∨f.To<a.Lo∨c.Hi<f.ke):kP f a c=0:=if_pos h
theorem l7 (h: ¬ (a.never=true∨f.To<a.Lo∨c.Hi<f.ke)) (q:a.each=true) (s:pJ f a c):kP f a c=2:=by unfold kP; rw [if_neg h,if_pos ⟨q,s⟩]
theorem hP (h: ¬ (a.never=true∨f.To<a.Lo∨c.Hi<f.ke)) (q: ¬ (a.each=true∧pJ f a c)):kP f a c=1:=by unfold kP; rw [if_neg h,if_neg q]
theorem lW (hk: ¬ f.Kind=3):pJ f a c↔a.Hi≤f.To∧f.ke≤c.Lo:=by unfold pJ; rw [if_neg hk]
theorem uS (hk:f.Kind=3):pJ f a c↔ab.mk (max a.Lo f.ke) (min a.Hi f.To)=ab.mk a.Lo a.Hi:=by
 unfold pJ; rw [if_pos hk]
 constructor
 ·intro q; congr 1<;>omega
 ·intro q; injection q with A B; omega
end
section
variable {j:cn} {p:aV} {d:aq} {f:aI}
theorem Km (hd:nm j p=some d) (h:p.At≤(bY j.Race.ak d.ba j.Race.ak.cj).Lo+60000*j.gR):jN j p=0:=by unfold jN; rw [hd]; exact if_pos h
theorem Jp (hd:nm j p=some d) (h: ¬ p.At≤(bY j.Race.ak d.ba j.Race.ak.cj).Lo+60000*j.gR) (h2:p.At≤(bY j.Race.ak d.ba j.Race.ak.cj).Hi+60000*j.gR):jN j p=1:=by unfold jN; rw [hd]; simp only; rw [if_neg h,if_pos h2]
theorem IP (hd:nm j p=some d) (h: ¬ p.At≤(bY j.Race.ak d.ba j.Race.ak.cj).Lo+60000*j.gR) (h2: ¬ p.At≤(bY j.Race.ak d.ba j.Race.ak.cj).Hi+60000*j.gR):jN j p=2:=by unfold jN; rw [hd]; simp only; rw [if_neg h,if_neg h2]
theorem Fj (h:jN j p=2):fV j p=false:=by unfold fV; split<;>simp [h]
theorem CZ (hd:nm j p=some d) (hf:j.aC[p.jn.toNat]? =some f) (h: ¬ jN j p=2):fV j p= !decide (eQ j.Race.ak f d=0):=by unfold fV; rw [hd,hf]; simp [h]
end
section
variable {j:cn} {i k:Nat} {p q:aV} {f:aI} {d:aq}
/-- the first protests are right -/
def oy (j:cn) (k:Nat):Prop:= ∀ (i:Nat) p,i<k→j.aD[i]? =some p→qN j i p
theorem yn:oy j 0:=fun i f h=>absurd h (Nat.not_lt_zero _)
theorem yA (h:oy j k) (hp:j.aD[k]? =some p) (ho:qN j k p):oy j (k+1):=fun i g hi hg=>by
 rcases Nat.lt_or_ge i k with c|c
 ·exact h i g c hg
 ·obtain rfl:i=k:=by omega
  rw [hp] at hg; cases hg; exact ho
/-- the number of the last protest, so far -/
def mD (j:cn) (k:Nat):Int:=match k with
 |0=> -1
 |k+1=>match j.aD[k]? with
  |some p=>p.Id
  |none=> -1
theorem kJ (hp:j.aD[k]? =some p):mD j (k+1)=p.Id:=by unfold mD; simp only [hp]
theorem G6 (h:oy j k) (hk:k≤j.aD.length): -1≤mD j k∧mD j k≤9999:=by
 cases k with
 |zero=>exact ⟨by simp [mD],by simp [mD]⟩
 |succ k=>
  obtain ⟨p,hp⟩: ∃ p,j.aD[k]? =some p:=⟨j.aD[k]'om,eP _⟩
  have:=(h k p om hp).id
  rw [kJ hp]; omega
theorem qj {ht:List aq} (hh:j.Race.ax[p.kc.toNat]? =some ht) (hd:ht[p.jt.toNat]? =some d):nm j p=some d:=by
 unfold nm; rw [hh]; exact hd
theorem Gy (hp:j.aD[k]? =some p) (hi:mD j k+1≤p.Id∧p.Id≤9999) (h0: -1≤mD j k) (hs:0≤p.jt∧p.jt≤(j.Race.aR.length:Int)-1) (hh:0≤p.kc∧p.kc≤(j.Race.ax.length:Int)-1) (hf:0≤p.jn∧p.jn≤(j.aC.length:Int)-1) (hd:nm j p=some d) (hr:lh d) (ha:d.ba.Start≤p.At∧p.At≤86400000):qN j k p:=by
 refine ⟨om,fun q B A=>?_,hs,hh,hf,d,hd,hr,ha⟩
 cases k with
 |zero=>omega
 |succ k=>
  rw [Nat.add_sub_cancel] at A
  rw [kJ A] at hi
  omega
/-- one that is wrong -/
theorem oF (hp:j.aD[k]? =some p) (h: ¬ qN j k p): ¬ nG j:=fun q=>h (q.GG k p hp)
theorem rC (h:qN j k p) (hk:k≤j.aD.length):mD j k+1≤p.Id:=by
 cases k with
 |zero=>have:=h.id; show-1+1≤p.Id; omega
 |succ k=>
  obtain ⟨q,hq⟩: ∃ q,j.aD[k]? =some q:=⟨j.aD[k]'om,eP _⟩
  have:=h.up q om (by rw [Nat.add_sub_cancel]; exact hq)
  rw [kJ hq]; omega
end
def iM (l:List aI) (f:aI):Int:=match l.findIdx? (fun x=>decide (x=f)) with
 |some i=>(i:Int)
 |none=> -1
section
variable {l:List aI} {f g x:aI} {i:Nat}
theorem He (hx:l[i]? =some x) (h:x=f) (hb: ∀ (q:Nat) y,q<i→l[q]? =some y→y≠f):iM l f=(i:Int):=by
 unfold iM
 have:l.findIdx? (fun x=>decide (x=f))=some i:=by
  rw [List.findIdx?_eq_some_iff_getElem]
  obtain ⟨hi,e⟩:=bg.1 hx
  refine ⟨hi,by rw [e]; simp [h],fun q hq=>?_⟩
  have:=hb q (l[q]'om) hq (eP _)
  simpa using this
 rw [this]
theorem GO (hb: ∀ (q:Nat) y,q<i→l[q]? =some y→y≠f) (hi:l.length≤i):iM l f= -1:=by
 unfold iM
 have:l.findIdx? (fun x=>decide (x=f))=none:=by
  rw [List.findIdx?_eq_none_iff]
  intro y hy
  obtain ⟨q,hq⟩:=List.mem_iff_getElem?.1 hy
  have:=hb q y (by have:=(bg.1 hq).1; omega) hq
  simpa using this
 rw [this]
theorem xx (hf:f∈l): ∃ i:Nat,iM l f=(i:Int)∧l[i]? =some f:=by
 unfold iM
 cases h:l.findIdx? (fun x=>decide (x=f)) with
 |none=>
  rw [List.findIdx?_eq_none_iff] at h
  have:=h f hf
  simp at this
 |some i=>
  rw [List.findIdx?_eq_some_iff_getElem] at h
  obtain ⟨hi,e,_⟩:=h
  exact ⟨i,U,by rw [eP hi]; simpa using e⟩
theorem wT (hf:f∈l) (hg:g∈l) (h:iM l f=iM l g):f=g:=by
 obtain ⟨i,C,A⟩:=xx hf
 obtain ⟨k,D,B⟩:=xx hg
 have:i=k:=by omega
 subst this
 exact Option.some.inj (A.symm.trans B)
end
end
section
open Go.RowKit
abbrev Og (C:List au) (i j:Nat):List Nat:=i::j::(List.range C.length).filter fun k=>k != i&&k != j
def N9 {σ:Type} (w0:World) (P:Program) (l:Nat) (step:σ→List Value→au→σ→Prop) (J:σ→au→Prop) (Z:au→Prop):Prop:=
 ∀ k x R k' A w,step k x R k'→J k A→w0.heap.size≤w.heap.size→(bx [A,R]).holds w→YieldAt (Fw none) 0 P l x.toArray w fun e w'=>
  (e= .returned (.bool true)∧ ∃ B,J k' B∧Mv (bx [A,R]) B w w')∨(e= .returned (.bool false)∧ ∃ B,Z B∧Mv (bx [A,R]) B w w')
structure Iy {σ:Type} (P:Program) (f:FuncId) (fi ca:List Value) (Cp:List au) (s0:σ) (step:σ→List Value→au→σ→Prop) (fin:σ→Prop):Prop where
 go:o6 P f=true
 run: ∀ (l:Nat) (J:σ→au→Prop) (Z:au→Prop) (A0:au) (w:World),N9 w P l step J Z→J s0 A0→A0.holds w→(∀ A∈Cp,A.holds w)→(∀ A∈Cp,x3 A0 A.ro)→
  Calls P f (fi++Value.func (.yield l) #[] #[]::ca).toArray w (wG J Z fin A0 w)
theorem F_ {σ:Type} {P:Program} {f:FuncId} {fn:Func} {c:Code} {fi ca:List Value} {Cp:List au} {s0:σ} {step:σ→List Value→au→σ→Prop} {fin:σ→Prop} (hgo:o6 P f=true) (hf:P.funcs[f]? =some fn) (hb:fn.body=some c) (hn:Nat.ble (fi.length+ca.length+1) fn.ntmps=true)
 (h: ∀ (l:Nat) (J:σ→au→Prop) (Z:au→Prop) (A0:au) (w0:World) (Q:cv),N9 w0 P l step J Z→J s0 A0→Fo A0 w0 A0→
  (∀ D L C,LJ ⟨P,none,fn.ntmps,⟨A0.wf,fun _=>True⟩,w0⟩ fn (wG J Z fin A0 w0) D L C→KJ ⟨P,none,fn.ntmps,⟨A0.wf,fun _=>True⟩,w0⟩ (Q .ret) D L C)→
  (∀ D L C,LJ ⟨P,none,fn.ntmps,⟨A0.wf,fun _=>True⟩,w0⟩ fn (wG J Z fin A0 w0) D L C→KJ ⟨P,none,fn.ntmps,⟨A0.wf,fun _=>True⟩,w0⟩ (Q .normal) D L C)→
  WJ ⟨P,none,fn.ntmps,⟨A0.wf,fun _=>True⟩,w0⟩ c Q [] (H4 (fi++Value.func (.yield l) #[] #[]::ca)) (A0::Cp.map au.ro)):Iy P f fi ca Cp s0 step fin:=by
 refine ⟨hgo,fun l J Z A0 w hY hJ hA F E=>?_⟩
 refine vO hf hb (by simpa [Nat.add_assoc] using hn) (h l J Z A0 w · hY hJ (fun b hb=> .inl hb)) ?_
 have G:=nM F
 refine ⟨cW.refl _ _,fun A hA'=>?_,List.Pairwise.cons (fun B hB=>?_) G.sep,fun A hA' b hb=>?_,fun _ _ _ _=> .inr trivial⟩
 ·rcases bB.1 hA' with rfl|hA'
  ·exact hA
  ·exact G.holds A hA'
 ·obtain ⟨B',hB',rfl⟩:=cp.1 hB
  exact E B' hB'
 ·rcases bB.1 hA' with rfl|hA'
  ·exact .inr hb
  ·obtain ⟨B',hB',rfl⟩:=cp.1 hA'
   exact hb.elim
section
variable {E:dK} {ops:Array Oper} {Q:cv} {rest:List Oper} {D:List Deferred} {L:List (Nat×Value)} {C:List au}
variable {d:Nat} {ty:TypeId} {ps:String} {af:Array Edge} {g:Option (Nat×Bool)}
/-- a call of yield -/
theorem Er {σ:Type} {fop:Operand} {xs:Array Operand} {ts:Array TypeId} {l:Nat} {k k':σ} {vs:List Value} {step:σ→List Value→au→σ→Prop} {J:σ→au→Prop} {Z:au→Prop} {A0 A R:au} {C1:List au} (i j:Nat) (hS:E.S=⟨A0.wf,fun _=>True⟩) (hY:N9 E.w0 E.P l step J Z) (hJ:J k A) (hF:Fo A0 E.w0 A) (hg:im ops L g=true) (hf:ev L fop=some (.func (.yield l) #[] #[]))
 (hx:evs L xs.toList=some vs) (hk:step k vs R k') (hR:R.wr=true) (hn:decide (Og C i j).Nodup=true) (hC:kg C (Og C i j)=some (A::R::C1)) (hd:Nat.blt d E.n=true)
 (k1: ∀ B,J k' B→Fo A0 E.w0 B→RJ E ops Q rest D ((d,.bool true)::L) (B::C1))
 (k2: ∀ B,Z B→Fo A0 E.w0 B→RJ E ops Q rest D ((d,.bool false)::L) (B::C1)):
 RJ E ops Q (⟨some d,.call {callee:= .value fop,args:=xs,argTypes:=ts},ty,ps,af,g⟩::rest) D L C:=by
 intro a w F N
 have AA:St E.S E.w0 ([A,R]++C1) w:=St.jq _ hn (iG hC) N
 have hs:=AA.tied
 have hd':d<E.n:=by rw [← Nat.blt_eq]; exact hd
 unfold oT
 rw [if_pos (di F hg)]
 have O:xs.map a.eval=vs.toArray:=by
  have:=F.evs hx
  apply Array.ext'
  simp [this]
 obtain ⟨fn,tmps,assign,body,hy,hr⟩:=hY k vs R k' A w hk hJ hs.keeps.size (hs.holds _ cf)
 have H:(execOp a.eval ⟨some d,.call {callee:= .value fop,args:=xs,argTypes:=ts},ty,ps,af,g⟩).run E.P w= .ok (.round l fn tmps assign body) w:=by
  simp [execOp,resolve,F.ev hf,Deferred.ofValue,invoke,O,hy]
 refine ⟨fun _ _=>trivial,?_⟩
 rw [Oper.semAt_eq _ _ _ sm,H]
 refine ⟨fun h=>by simp at h,?_⟩
 have G: ∀ (B:au) (w':World),Mv (bx [A,R]) B w w'→Fo A0 E.w0 B:=fun B w' m b hb=>by
  rcases m.dQ b hb with ⟨X,hX,K⟩|K
  ·rcases bB.1 hX with rfl|hX
   ·exact hF b K
   ·rw [bW] at hX; subst hX
    rcases AA.own X sm b (X.whole hR b K) with M|M
    ·exact .inr M
    ·rw [hS] at M; exact .inl (A0.iW b M)
  ·exact .inr (Nat.le_trans hs.keeps.size K)
 have hr':RoundIn (Fw E.r) 0 E.P l fn tmps assign body w _:=hr
 refine hr'.mono fun e w' he=>?_
 rcases he with ⟨rfl,B,hB,m⟩|⟨rfl,B,hB,m⟩
 ·exact k1 B hB (G B w' m) _ _ (F.put hd' _) (hs.mv 0 U m)
 ·exact k2 B hB (G B w' m) _ _ (F.put hd' _) (hs.mv 0 U m)
end
theorem Ej {σ:Type} {E:dK} {Q:cv} {D:fu} {L L0:cJ} {C F:List au} {g:Operand} {ps:Array Tmp} {assign body:Code} {f:FuncId} {fi ca:List Value} {Cp:List au} {s0:σ} {step:σ→List Value→au→σ→Prop} {fin_:σ→Prop} {ι κ:Type}
 (inv:σ→ι→Prop) (Ci:σ→ι→List au) (invx:Code→κ→Prop) (Cx:Code→κ→List au) (isJ isF:List Nat) (y0:ι)
 (hr:E.r=none) (hg:ev L g=some (.func (.func f) fi.toArray ca.toArray)) (hs:Iy E.P f fi ca Cp s0 step fin_)
 (hnd:decide (isJ++isF).Nodup=true) (hJ:jq C isJ=Ci s0 y0) (hF:jq C isF=F) (h0:inv s0 y0) (hCp: ∀ A∈Cp,∃ B∈F,Dc B A)
 (hps: ∀ k x R k',step k x R k'→x.length=ps.size) (hpn:ps.toList.all (fun t=>Nat.blt t E.n)=true) (hL:eb L L0)
 (round: ∀ (k:σ) (x:List Value) (R:au) (k':σ) (y:ι) (l:Nat) (ra rb:Loop) (S:BS) (w0:World) (K:Act→World→Prop) (Qr:cv),E.w0.heap.size≤w0.heap.size→step k x R k'→inv k y→
  (∀ L' C',WJ ⟨E.P,some l,E.n,S,w0⟩ body Qr [] L' (gL l (.loop rb)::C')→KJ ⟨E.P,some l,E.n,S,w0⟩ K [] L' (gL l (.loop ra)::C'))→
  (∀ y' L' C',inv k' y'→(∀ w,St S w0 C' w→St S w0 (gL l (.loop rb)::Ci k' y') w)→KJ ⟨E.P,some l,E.n,S,w0⟩ (Qr .normal) [] L' C')→
  (∀ id z L' C',invx (.exit id) z→(∀ w,St S w0 C' w→St S w0 (gL l (.loop rb)::Cx (.exit id) z) w)→KJ ⟨E.P,some l,E.n,S,w0⟩ (Qr (.exit id)) [] L' C')→
  (∀ z L' C',invx .ret z→(∀ w,St S w0 C' w→St S w0 (gL l (.loop rb)::Cx .ret z) w)→KJ ⟨E.P,some l,E.n,S,w0⟩ (Qr .ret) [] L' C')→
  WJ ⟨E.P,some l,E.n,S,w0⟩ assign (Exit.then K (fun _ _ _=>False)) [] (tp ps.toList x L0) (gL l (.loop ra)::(Ci k y++[R])))
 (fin: ∀ r s y,fin_ s→inv s y→KJ E (Q .normal) (ia r::D) L0 (gL r (.deferred (some []))::(F++Ci s y)))
 (finx: ∀ r id z,invx (.exit id) z→KJ E (Q (.exit id)) (ia r::D) L0 (gL r (.deferred (some []))::(F++Cx (.exit id) z)))
 (finr: ∀ r z,invx .ret z→KJ E (Q .ret) (ia r::D) L0 (gL r (.deferred (some []))::(F++Cx .ret z))):WJ E (.rangeFunc g ps assign body) Q D L C:=by
 intro a w hf u
 refine wpIn_rangeFunc fun fn _=>?_
 show ∃ l ia w₁ d w₁' f args w₂,(Instr.enterLoop fn a.tmps ps assign body E.r).run E.P w= .ok (l,ia) w₁∧_
 rw [hr]
 obtain ⟨rec,G⟩: ∃ rec:LoopState→Option Code→Loop,rec=fun st pe=>{state:=st,pending:=pe,fn,tmps:=a.tmps,params:=ps,assign,body,defers:=w.heap.size}:=⟨_,rfl⟩
 obtain ⟨W1,T⟩: ∃ W1,(w.alloc (.deferred (some []))).alloc (.loop (rec .ready none))=W1:=⟨_,rfl⟩
 have A2:a.eval g= .func (.func f) fi.toArray ca.toArray:=hf.ev hg
 have q:(Instr.enterLoop fn a.tmps ps assign body none).run E.P w= .ok (w.heap.size+1,[ia w.heap.size]) W1:=by
  rw [← T,G]; exact run_enterLoop_outer _ _ _ _ _
 -- the state with the record and the block
 have AC:St E.S E.w0 ((gL (w.heap.size+1) (.loop (rec .ready none))::Ci s0 y0)++(gL w.heap.size (.deferred (some []))::F)) W1:=by
  have Y:St E.S E.w0 (Ci s0 y0++F) w:=St.jq (isJ++isF) hnd (by have Y:=hJ; have o:=hF; unfold Go.Proofs.YtkaenmjhfajbkaaGreatDoor.jq at Y o ⊢; rw [List.filterMap_append,Y,o]) u
  have hn:FW w W1 [gL (w.heap.size+1) (.loop (rec .ready none)),gL w.heap.size (.deferred (some []))]:=by
   refine ⟨fun A hA=>?_,fun A hA b hb=>?_,?_⟩
   ·rcases bB.1 hA with rfl|hA
    ·show W1.heap[w.heap.size+1]? =_
     rw [← T]; have:=World.alloc_heap_new (w.alloc (.deferred (some []))) (.loop (rec .ready none)); rwa [World.size_alloc] at this
    ·simp only [bW] at hA; subst hA
     show W1.heap[w.heap.size]? =_
     rw [← T]; exact (Below.heap_alloc _ _ _ sm).trans (World.alloc_heap_new w _)
   ·rcases bB.1 hA with rfl|hA
    ·have:b=w.heap.size+1:=hb
     omega
    ·simp only [bW] at hA; subst hA
     have:b=w.heap.size:=hb
     omega
   ·refine List.Pairwise.cons (fun B hB b Y o=>?_) (List.pairwise_singleton _ _)
    simp only [bW] at hB; subst hB
    have X:b=w.heap.size+1:=Y
    have O:b=w.heap.size:=o
    omega
  have hk:cW no w W1:=by rw [← T]; exact (cW.alloc no w _).trans (cW.alloc no _ _)
  have o:=Y.grow hk hn
  refine o.perm ?_
  simp only [List.cons_append,List.nil_append]
  exact List.Perm.cons _ (List.perm_middle.symm)
 have i:=AC.tied
 obtain ⟨H,A7⟩:=List.pairwise_cons.1 i.sep
 have A0:=i.holds _ (cf ..)
 let J:σ→au→Prop:=fun k A=> ∃ y,inv k y∧A=bx (gL (w.heap.size+1) (.loop (rec .ready none))::Ci k y)
 let Z:au→Prop:=fun A=> ∃ c z,(c= .ret∨ ∃ id,c= .exit id)∧invx c z∧A=bx (gL (w.heap.size+1) (.loop (rec .done (some c)))::Cx c z)
 refine ⟨w.heap.size+1,[ia w.heap.size],W1,{target:= .fn (.func f) ca.toArray,args:=fi.toArray++ #[.func (.yield (w.heap.size+1)) #[] #[]]},W1,f,
  (fi++Value.func (.yield (w.heap.size+1)) #[] #[]::ca).toArray,W1,q,?_,fun _ _=>trivial,?_,fun h=>by simp at h,?_⟩
 ·simp only [resolve,A2]
  simp [Deferred.ofValue,Act.eval]
 ·have:fi.toArray++ #[Value.func (.yield (w.heap.size+1)) #[] #[]]++ca.toArray=(fi++Value.func (.yield (w.heap.size+1)) #[] #[]::ca).toArray:=by simp
  simp [invoke,kv hs.go]
 ·refine (mz E.r (hs.run (w.heap.size+1) J Z _ W1 ?_ ⟨y0,h0,U⟩ A0 ?_ ?_)).mono ?_
  ·-- a round
   rintro k x R k' A W hx ⟨y,hy,rfl⟩ A1 hA
   have hl:W.heap[w.heap.size+1]? =some (.loop (rec .ready none)):=(hA.1 _ (cf ..)).1 _ (cf ..)
   have AO:=run_yield (P:=E.P) (args:=x.toArray) hl (by rw [G]; simpa using hps k x R k' hx)
   rw [G] at AO
   refine ⟨fn,_,assign,body,AO,roundIn_of_wpIn trivial ?_⟩
   let A:au:=bx [bx (gL (w.heap.size+1) (.loop (rec .ready none))::Ci k y),R]
   have A3:Fr E.n [] (tp ps.toList x L0) {tmps:=(ps.zip x.toArray).foldl (fun tmps (t,a)=>tmps.setIfInBounds t a) a.tmps,defers:=[]}:=by
    have Y:=yF ps.toList x L0 a.tmps (fun t ht=>by have:=cm.1 hpn t ht; rwa [Nat.blt_eq] at this) ⟨rfl,hf.size,fun t v hv=>hf.at_ t v (hL t v hv)⟩
    rw [← Array.foldl_toList]
    simpa using Y
   have p: ∀ (c:Option Code) (b:Bool),({rec .busy none with state:=if b then .ready else .done,pending:=c}:Loop)=rec (if b then .ready else .done) c:=fun c b=>by rw [G]
   have AA: ∀ (c:Option Code) (N:World) (C':List au) (S:BS),St S W (gL (w.heap.size+1) (.loop (rec .busy none))::C') N→
    ∃ M,(Instr.endRound (w.heap.size+1) c).run E.P N= .ok (.bool c.isNone) M∧St S W (gL (w.heap.size+1) (.loop (rec (if c.isNone then .ready else .done) c))::C') M:=fun c N C' S H=>by
    have AB:N.heap[w.heap.size+1]? =some (.loop (rec .busy none)):=H.holds _ (cf ..)
    refine ⟨_,run_endRound c AB,?_⟩
    have:=H.ug (b:=w.heap.size+1) (A':=gL (w.heap.size+1) (.loop (rec (if c.isNone then .ready else .done) c))) 0 rfl rfl rfl (fg _) (fun _ h=>h) (World.putObj_heap_same (c5 AB))
    rw [p]
    exact this
   refine round k x R k' y (w.heap.size+1) (rec .ready none) (rec .busy none) ⟨A.wf,A.dQ⟩ W _ (roundPost E.P (w.heap.size+1) (fun e w'=>(e= .returned (.bool true)∧ ∃ B,J k' B∧Mv A B W w')∨(e= .returned (.bool false)∧ ∃ B,Z B∧Mv A B W w'))) (Nat.le_trans (Nat.le_trans u.keeps.size (by rw [← T]; simp; omega)) A1) hx hy ?_ ?_ ?_ ?_ _ _ A3 (by have:=(St.vv hA).iA; simpa using this)
   ·intro L' C' hW a1 N j H
    have AB:N.heap[w.heap.size+1]? =some (.loop (rec .ready none)):=H.holds _ (cf ..)
    refine ⟨_,run_beginRound AB (by rw [G]),hW _ _ j ?_⟩
    have:=H.ug (b:=w.heap.size+1) (A':=gL (w.heap.size+1) (.loop (rec .busy none))) 0 rfl rfl rfl (fg _) (fun _ h=>h) (World.putObj_heap_same (c5 AB))
    have e:({rec .ready none with state:= .busy}:Loop)=rec .busy none:=by rw [G]
    rw [e]; exact this
   ·intro y' L' C' hy' hC' a1 N j H
    obtain ⟨M,X,O⟩:=AA none N _ _ (hC' _ H)
    exact ⟨_,M,X,.inl ⟨U,_,⟨y',hy',U⟩,Mv.of O⟩⟩
   ·intro id z L' C' hz hC' a1 N j H
    obtain ⟨M,X,O⟩:=AA (some (.exit id)) N _ _ (hC' _ H)
    exact ⟨_,M,X,.inr ⟨U,_,⟨_,z,.inr ⟨id,U⟩,hz,U⟩,Mv.of O⟩⟩
   ·intro z L' C' hz hC' a1 N j H
    obtain ⟨M,X,O⟩:=AA (some .ret) N _ _ (hC' _ H)
    exact ⟨_,M,X,.inr ⟨U,_,⟨_,z,.inl U,hz,U⟩,Mv.of O⟩⟩
  ·intro A hA
   obtain ⟨B,hB,hc⟩:=hCp A hA
   exact hc.holds _ (i.holds B (db _ (db _ hB)))
  ·intro A hA b hb hb'
   obtain ⟨B,hB,hc⟩:=hCp A hA
   exact ⟨(H B (db _ hB) b hb (hc.dQ b hb')).1,fun h=>h⟩
  ·rintro e w' ⟨v,rfl,hh⟩
   have V:Fr E.n (ia w.heap.size::D) L0 {a with defers:=[ia w.heap.size]++a.defers}:=⟨by simp [hf.defers],hf.size,fun t v hv=>hf.at_ t v (hL t v hv)⟩
   have hleave: ∀ (st:LoopState) (c:Option Code) (C':List au),st≠ .busy→Mv (bx (gL (w.heap.size+1) (.loop (rec .ready none))::Ci s0 y0)) (bx (gL (w.heap.size+1) (.loop (rec st c))::C')) W1 w'→
    ∃ M,(Instr.endLoop (w.heap.size+1)).run E.P w'= .ok c M∧St E.S E.w0 (gL w.heap.size (.deferred (some []))::(F++C')) M:=fun st c C' A5 m=>by
    have Y:=(i.mv 0 rfl m).iA
    have h1':St E.S E.w0 ((gL (w.heap.size+1) (.loop (rec st c))::C')++(gL w.heap.size (.deferred (some []))::F)) w':=Y
    have AB:w'.heap[w.heap.size+1]? =some (.loop (rec st c)):=h1'.holds (gL (w.heap.size+1) (.loop (rec st c))) sm
    refine ⟨_,by have:=run_endLoop (P:=E.P) AB (by rw [G]; exact A5); rw [this,G],?_⟩
    have o:=h1'.ug (b:=w.heap.size+1) (A':=gL (w.heap.size+1) (.loop {rec st c with state:= .exhausted})) 0 rfl rfl rfl (fg _) (fun _ h=>h) (World.putObj_heap_same (c5 AB))
    have h3:St E.S E.w0 (C'++(gL w.heap.size (.deferred (some []))::F)) _:=o.take (List.sublist_cons_self _ _)
    rw [G] at h3
    refine h3.perm ?_
    exact (List.perm_append_comm).trans sm
   rcases hh with ⟨s,B,A4,⟨y,hy,rfl⟩,m⟩|⟨B,⟨c,z,hc,hz,rfl⟩,m⟩
   ·obtain ⟨M,X,O⟩:=hleave .ready none _ sm m
    exact ⟨none,M,X,fin w.heap.size s y A4 hy _ _ V O⟩
   ·obtain ⟨M,X,O⟩:=hleave .done (some c) _ sm m
    refine ⟨some c,M,X,?_⟩
    rcases hc with rfl|⟨id,rfl⟩
    ·exact wpIn_ret (finr w.heap.size z hz _ _ V O)
    ·exact wpIn_exit (finx w.heap.size id z hz _ _ V O)
end
section
open Go.RowKit
/-- the faults that a map of places says -/
def iR (fs:List aI) (m:List (Int×Bool)) (f:aI):Prop:=(List.lookup (iM fs f) m).getD false=true
/-- what comes next: the row of a heat, in memory of its own -/
def Fa (G:List (List Int)) (k:Nat) (x:List Value) (R:au) (k':Nat):Prop:= ∃ (a:OA) (c:Nat) (row:List Int),G[k]? =some row∧x=[vS a row.length c]∧R=own a c H9 1 (row.map iC)∧k'=k+1
section
variable {l:bk} {fs:List aI} {m:List (Int×Bool)} {d:aq} {h:List aq} {j:cn} {F G:aI→Prop} {k n q:Nat} {f f0:aI}
noncomputable def js (l:bk) (fs:List aI) (m:List (Int×Bool)) (h:List aq) (s:Nat):Bool:=(h[s]?).any fun d=> @decide (Dn l (iR fs m) fs d) (Classical.propDecidable _)
theorem Hk:(fs.any fun f=>((List.lookup (iM fs f) m).getD false)&& !decide (eQ l f d=0))= @decide (Dn l (iR fs m) fs d) (Classical.propDecidable _):=by
 rw [Bool.eq_iff_iff,List.any_eq_true,@decide_eq_true_iff _ (Classical.propDecidable _)]
 constructor
 ·rintro ⟨f,hf,hb⟩
  rw [cz,Bool.not_eq_true',decide_eq_false_iff_not] at hb
  exact ⟨f,hf,hb.1,hb.2⟩
 ·rintro ⟨f,hf,A,B⟩
  exact ⟨f,hf,by rw [cz,Bool.not_eq_true',decide_eq_false_iff_not]; exact ⟨A,B⟩⟩
theorem zJ (hd:h[q]? =some d):js l fs m h q=(fs.any fun f=>((List.lookup (iM fs f) m).getD false)&& !decide (eQ l f d=0)):=by
 unfold js; rw [hd,Hk]; rfl
theorem EE {ht:List aq} (hh:j.Race.ax[k]? =some ht):(e5 j (iR j.aC m))[k]? =some (jQ (js j.Race.ak j.aC m ht) ht.length):=zL hh
/-- only who is told, of faults of the row -/
theorem q_ (h: ∀ f∈j.aC,(F f↔G f)):e5 j F=e5 j G:=by
 unfold e5
 apply List.map_congr_left
 intro x _
 exact B2 h
theorem JV (hf:f0∈j.aC): ∀ f∈j.aC,(iR j.aC [(iM j.aC f0,true)] f↔f=f0):=fun f hm=>by
 unfold iR
 constructor
 ·intro q
  by_cases e:iM j.aC f=iM j.aC f0
  ·exact wT hm hf e
  ·have:(iM j.aC f==iM j.aC f0)=false:=by simpa using e
   simp [List.lookup,this] at q
 ·rintro rfl; simp [List.lookup]
end
def ru (fs:List aI) (gs:List aI):List (Int×Bool):=gs.foldl (fun m f=>c3 m (iM fs f) true) []
section
variable {fs gs:List aI} {f g:aI} {m:List (Int×Bool)}
theorem AV {x y:Int}:(List.lookup y (c3 m x true)).getD false=true↔y=x∨(List.lookup y m).getD false=true:=by
 rw [jF]
 by_cases e:y=x
 ·rw [if_pos e]; simp [e]
 ·rw [if_neg e]; simp [e]
theorem zC: ∀ {gs:List aI} {m:List (Int×Bool)} {y:Int},(List.lookup y (gs.foldl (fun m f=>c3 m (iM fs f) true) m)).getD false=true↔(∃ g∈gs,y=iM fs g)∨(List.lookup y m).getD false=true
 |[],m,y=>by simp
 |g::gs,m,y=>by
  rw [List.foldl_cons,zC (gs:=gs),AV]
  constructor
  ·rintro (⟨u,A,B⟩|h|h)
   ·exact .inl ⟨u,db _ A,B⟩
   ·exact .inl ⟨g,cf,h⟩
   ·exact .inr h
  ·rintro (⟨u,A,B⟩|h)
   ·rcases bB.1 A with rfl|A
    ·exact .inr (.inl B)
    ·exact .inl ⟨u,A,B⟩
   ·exact .inr (.inr h)
theorem K3 (hg: ∀ g∈gs,g∈fs) (hf:f∈fs):iR fs (ru fs gs) f↔f∈gs:=by
 unfold iR ru
 rw [zC]
 constructor
 ·rintro (⟨g,A,B⟩|h)
  ·rw [wT hf (hg g A) B]; exact A
  ·simp at h
 ·intro h; exact .inl ⟨f,h,rfl⟩
theorem B_:ru fs (gs++[g])=c3 (ru fs gs) (iM fs g) true:=by unfold ru; rw [List.foldl_append]; rfl
end
noncomputable def Be (j:cn) (t:Nat):List aI:=((gd j).take t).filterMap fun i=>(j.aD[i.toNat]?).bind fun p=>j.aC[p.jn.toNat]?
section
variable {j:cn} {t:Nat} {i:Int} {p:aV} {f g:aI}
theorem D8 (hi:(gd j)[t]? =some i) (hp:j.aD[i.toNat]? =some p) (hf:j.aC[p.jn.toNat]? =some f):Be j (t+1)=Be j t++[f]:=by
 unfold Be
 rw [List.take_add_one,hi,List.filterMap_append]
 simp [hp,hf]
theorem F1: ∀ g∈Be j t,g∈j.aC:=fun g h=>by
 obtain ⟨i,_,A⟩:=List.mem_filterMap.1 h
 cases e:j.aD[i.toNat]? with
 |none=>rw [e] at A; cases A
 |some p=>rw [e] at A; exact aP A
theorem Hu (ht:(gd j).length≤t):f∈Be j t↔lK j f:=by
 unfold Be
 rw [List.take_of_length_le ht,List.mem_filterMap]
 constructor
 ·rintro ⟨x,hx,h⟩
  obtain ⟨i,_,rfl,p,hp,hg⟩:=pf.1 hx
  rw [Int.toNat_natCast,hp] at h
  exact ⟨i,p,hp,hg,h⟩
 ·rintro ⟨i,p,hp,hg,hf⟩
  exact ⟨(i:Int),pf.2 ⟨i,(bg.1 hp).1,U,p,hp,hg⟩,by rw [Int.toNat_natCast,hp]; exact hf⟩
theorem yl (ht:(gd j).length≤t):e5 j (iR j.aC (ru j.aC (Be j t)))=eg j:=
 q_ fun f hf=>(K3 F1 hf).trans (Hu ht)
theorem Cb (hi:(gd j)[t]? =some i): ∃ k:Nat,i=(k:Int)∧k<j.aD.length:=by
 obtain ⟨k,A,B,_⟩:=pf.1 (aP hi)
 exact ⟨k,B,A⟩
theorem r8:(gd j).length≤j.aD.length:=mV
end
end
section
open Go.RowKit
section
variable {E:dK} {ops:Array Oper} {Q:cv} {rest:List Oper} {D:List Deferred} {L:List (Nat×Value)} {C C1:List au}
end
theorem sW {C:List au}: ∀ {a b:List Nat} {X Y:List au},kg C a=some X→kg C b=some Y→kg C (a++b)=some (X++Y)
 |[],b,X,Y,h,h2=>by cases h; exact h2
 |i::a,b,X,Y,h,h2=>by
  unfold kg at h
  split at h
  ·rename_i A hA
   split at h
   ·rename_i l hl
    cases h
    have ih:=sW hl h2
    show (match C[i]? with
     |some A=>match kg C (a++b) with
      |some l=>some (A::l)
      |none=>none
     |none=>none)=_
    rw [hA,ih]; rfl
   ·cases h
  ·cases h
theorem Bv {E:dK} {ops:Array Oper} {Q:cv} {rest:List Oper} {D:fu} {L:cJ} {C C1:List au} (X:List au) (i1 i2:List Nat) (h1:kg C i1=some X) (h2:kg C i2=some C1) (h:RJ E ops Q rest D L (bx X::C1)) (hn:decide (i1++i2).Nodup=true:=by rfl):RJ E ops Q rest D L C:=fun a w hf hs=>h a w hf (St.tied (St.jq _ hn (iG (sW h1 h2)) hs))
theorem mS {E:dK} {c:Code} {Q:cv} {D:fu} {L:cJ} {C C1:List au} (ix:List Nat) (hC:kg C ix=some C1) (h:WJ E c Q D L C1) (hn:decide ix.Nodup=true:=by rfl):WJ E c Q D L C:=fun a w hf hs=>h a w hf (St.jq _ hn (iG hC) hs)
theorem uN {E:dK} {ops:Array Oper} {Q:cv} {rest:List Oper} {D:fu} {L:cJ} {C C1:List au} (ix:List Nat) (hn:decide ix.Nodup=true) (hC:kg C ix=some C1) (h:RJ E ops Q rest D L C1):RJ E ops Q rest D L C:=fun a w hf hs=>h a w hf (St.jq _ hn (iG hC) hs)
theorem nJ {M A B:Type} {f:M→A→List B} {n:Nat} (h: ∀ m a,(f m a).length=n): ∀ {ms:List M} {asl:List A},∀ x∈List.zipWith f ms asl,x.length=n
 |[],asl,x,hx=>by simp at hx
 |m::ms,[],x,hx=>by simp at hx
 |m::ms,a::asl,x,hx=>by
  rw [List.zipWith_cons_cons] at hx
  rcases bB.1 hx with rfl|hx
  ·exact h m a
  ·exact nJ h x hx
theorem AB (m:aq) (a:RA):(aq.cells m a).length=7:=rfl
theorem Ec (m:List aq) (a:cg):(cc m a).length=1:=rfl
theorem IM (m:List Int) (a:RA):(qQ m a).length=1:=rfl
end
section
open Go.RowKit
theorem Cd {E:dK} {c:Code} {Q:cv} {D:fu} {L:cJ} {C C1:List au} (X:List au) (i1 i2:List Nat) (h1:kg C i1=some X) (h2:kg C i2=some C1) (h:WJ E c Q D L (bx X::C1)) (hn:decide (i1++i2).Nodup=true:=by rfl):WJ E c Q D L C:=fun a w hf hs=>h a w hf (St.tied (St.jq _ hn (iG (sW h1 h2)) hs))
def yo:List aq:=[lk,fY 2600 2600,fY 2580 2609]
def Mb:List aq:=[fY 2555 2559,fY 2540 2549,fY 2570 2575]
theorem Eh {p q s t u v x y:RA}:rn l0.ax [(p,[s,t,u]),(q,[v,x,y])]:=⟨rfl,fun k h a hk ha=>by
 match k with
 |0=>simp [l0] at hk ha; subst hk; subst ha; rfl
 |1=>simp [l0] at hk ha; subst hk; subst ha; rfl
 |n+2=>simp at ha⟩
theorem HF {bz:List RA} {hz:List cg} (h:eM eZ bz) (hh:rn l0.ax hz):jv l0 bz hz:=⟨h,dc,dc,dc,hh.1,fun k x a hx ha=>by
 have hm:=aP hx
 have hs:=hh.2 k x a hx ha
 simp only [l0,bB,List.not_mem_nil,or_false] at hm
 rcases hm with rfl|rfl
 ·exact ⟨dc,hs,dc⟩
 ·exact ⟨dc,hs,dc⟩⟩
theorem I1 {bz:List RA} {hz:List cg} (h:eM eZ bz) (hh:rn l0.ax hz):eB bP bz hz:=⟨HF h hh,dc,dc,dc⟩
end
section
open Go.RowKit
theorem sB {α:Type} {l:List α} {k:Nat} {x:α} (h:l[k]? =some x):l.take (k+1)=l.take k++[x]:=by rw [List.take_add_one,h]; rfl
theorem zd {a b:Int} (h1: -60000≤a∧a≤60000) (h2:0≤b∧b≤100000): -9223372036854775808≤a*b∧a*b≤9223372036854775807:=by
 have A:=Int.mul_le_mul_of_nonneg_right h1.1 h2.1
 have B:=Int.mul_le_mul_of_nonneg_right h1.2 h2.1
 omega
def jZ (j:cn) (k h s:Int):Prop:=(0≤k∧k≤(j.aC.length:Int)-1)∧(0≤h∧h≤(j.Race.ax.length:Int)-1)∧0≤s∧s≤(j.Race.aR.length:Int)-1
instance (j:cn) (k h s:Int):Decidable (jZ j k h s):=by unfold jZ; infer_instance
noncomputable def jW (j:cn) (k h s:Int):Int:=if cH j=0 then (if jZ j k h s then 0 else 2) else cH j
noncomputable def kG (j:cn) (k h s:Int):Int:=if cH j=0∧jZ j k h s then (match j.aC[k.toNat]?,(j.Race.ax[h.toNat]?).bind (·[s.toNat]?) with
 |some f,some d=>eQ j.Race.ak f d
 |_,_=>0) else 0
noncomputable def n5 (j:cn) (i:Int):Int:=if cH j=0 then (if 0≤i∧i≤(j.aD.length:Int)-1 then 0 else 2) else cH j
noncomputable def p7 (j:cn) (i:Int):Int:=if cH j=0∧(0≤i∧i≤(j.aD.length:Int)-1) then (match j.aD[i.toNat]? with
 |some p=>jN j p
 |none=>0) else 0
noncomputable def iH (j:cn):List Int:=if cH j=0 then gd j else []
noncomputable def fG (j:cn):List (List Int):=if cH j=0 then eg j else []
noncomputable def vf (j:cn):Int:=if cH j=0 then uH j else 0
noncomputable def vK (j:cn):Int:=if cH j=0 then zO j else 0
noncomputable def uX (j:cn) (s:Int) (p:aV):Bool:=decide (p.jt=s)&& !fV j p
noncomputable def mH (j:cn) (s:Int):Int:=if cH j=0 then (if 0≤s∧s≤(j.Race.aR.length:Int)-1 then 0 else 2) else cH j
noncomputable def pb (j:cn) (s:Int):Int:=if cH j=0∧(0≤s∧s≤(j.Race.aR.length:Int)-1) then y_ j s else 0
noncomputable def yN (j:cn) (k:Int):Int:=if cH j=0 then (if 0≤k∧k≤(j.aC.length:Int)-1 then 0 else 2) else cH j
noncomputable def nS (j:cn) (k:Int):List (List Int):=if cH j=0∧(0≤k∧k≤(j.aC.length:Int)-1) then (match j.aC[k.toNat]? with
 |some f0=>e5 j fun f=>f=f0
 |none=>[]) else []
section
variable {j:cn} {k h s i:Int} {f:aI} {ht:List aq} {d:aq} {p:aV}
theorem Cn (e: ¬ cH j=0):kG j k h s=0∧jW j k h s=cH j:=⟨if_neg fun q=>e q.1,if_neg e⟩
theorem oD (e:cH j=0) (n: ¬ jZ j k h s):kG j k h s=0∧jW j k h s=2:=⟨if_neg fun q=>n q.2,by unfold jW; rw [if_pos e,if_neg n]⟩
theorem my (e:cH j=0) (n:jZ j k h s) (hf:j.aC[k.toNat]? =some f) (hh:j.Race.ax[h.toNat]? =some ht) (hd:ht[s.toNat]? =some d):kG j k h s=eQ j.Race.ak f d∧jW j k h s=0:=
 ⟨by unfold kG; rw [if_pos ⟨e,n⟩,hf,hh,Option.bind_some,hd],by unfold jW; rw [if_pos e,if_pos n]⟩
theorem Fq (e: ¬ cH j=0):p7 j i=0∧n5 j i=cH j:=⟨if_neg fun q=>e q.1,if_neg e⟩
theorem xr (e:cH j=0) (n: ¬ (0≤i∧i≤(j.aD.length:Int)-1)):p7 j i=0∧n5 j i=2:=⟨if_neg fun q=>n q.2,by unfold n5; rw [if_pos e,if_neg n]⟩
theorem rT (e:cH j=0) (n:0≤i∧i≤(j.aD.length:Int)-1) (hp:j.aD[i.toNat]? =some p):p7 j i=jN j p∧n5 j i=0:=
 ⟨by unfold p7; rw [if_pos ⟨e,n⟩,hp],by unfold n5; rw [if_pos e,if_pos n]⟩
theorem tc (e: ¬ cH j=0):iH j=[]:=if_neg e
theorem mY (e:cH j=0):iH j=gd j:=if_pos e
theorem q6 (e: ¬ cH j=0):fG j=[]:=if_neg e
theorem lF (e:cH j=0):fG j=eg j:=if_pos e
theorem BW (e: ¬ cH j=0):vf j=0∧vK j=0:=⟨if_neg e,if_neg e⟩
theorem r0 (e:cH j=0):vf j=uH j∧vK j=zO j:=⟨if_pos e,if_pos e⟩
theorem Hw (e: ¬ p.jt=s):uX j s p=false:=by unfold uX; rw [eV e]; rfl
theorem C7 (e:p.jt=s):uX j s p= !fV j p:=by unfold uX; rw [gX e]; rfl
theorem EM {P:Nat→Bool} {n:Nat}:(jQ P n).length=(List.range n).countP P:=by unfold jQ; rw [List.length_map,List.countP_eq_length_filter]
theorem BF (e: ¬ cH j=0):pb j s=0∧mH j s=cH j:=⟨if_neg fun q=>e q.1,if_neg e⟩
theorem um (e:cH j=0) (n: ¬ (0≤s∧s≤(j.Race.aR.length:Int)-1)):pb j s=0∧mH j s=2:=⟨if_neg fun q=>n q.2,by unfold mH; rw [if_pos e,if_neg n]⟩
theorem D7 (e:cH j=0) (n:0≤s∧s≤(j.Race.aR.length:Int)-1):pb j s= -((jQ (fI j.aD fun _ p=>uX j s p) j.aD.length).length:Int)*j.Cu∧mH j s=0:=
 ⟨by unfold pb; rw [if_pos ⟨e,n⟩,EM]; rfl,by unfold mH; rw [if_pos e,if_pos n]⟩
theorem Am (e: ¬ cH j=0):nS j k=[]∧yN j k=cH j:=⟨if_neg fun q=>e q.1,if_neg e⟩
theorem vh (e:cH j=0) (n: ¬ (0≤k∧k≤(j.aC.length:Int)-1)):nS j k=[]∧yN j k=2:=⟨if_neg fun q=>n q.2,by unfold yN; rw [if_pos e,if_neg n]⟩
theorem CQ (e:cH j=0) (n:0≤k∧k≤(j.aC.length:Int)-1) (hf:j.aC[k.toNat]? =some f):nS j k=e5 j (iR j.aC [(iM j.aC f,true)])∧yN j k=0:=
 ⟨by unfold nS; rw [if_pos ⟨e,n⟩,hf]; exact (q_ (JV (aP hf))).symm,by unfold yN; rw [if_pos e,if_pos n]⟩
end
end
section
open Go.RowKit
theorem Kf:jW bP 0 0 0=0∧kG bP 0 0 0=1:=by
 have e:=my (j:=bP) (k:=0) (h:=0) (s:=0) (f:=⟨1,0,12600,13000⟩) (ht:=yo) (d:=lk) g8 dc rfl rfl rfl
 exact ⟨e.2,e.1.trans yj⟩
theorem Kb:jW bP 1 0 0=0∧kG bP 1 0 0=2:=by
 have e:=my (j:=bP) (k:=1) (h:=0) (s:=0) (f:=⟨2,1,11003,11100⟩) (ht:=yo) (d:=lk) g8 dc rfl rfl rfl
 exact ⟨e.2,e.1.trans Ki⟩
theorem Jb:jW bP 3 0 0=0∧kG bP 3 0 0=0:=by
 have e:=my (j:=bP) (k:=3) (h:=0) (s:=0) (f:=⟨1,0,13000,14000⟩) (ht:=yo) (d:=lk) g8 dc rfl rfl rfl
 exact ⟨e.2,e.1.trans Fv⟩
theorem IV:n5 bP 0=0∧p7 bP 0=0:=by
 have e:=rT (j:=bP) (i:=0) (p:=⟨2,0,0,0,72596⟩) g8 dc rfl
 exact ⟨e.2,e.1.trans Ea⟩
theorem IH:n5 bP 1=0∧p7 bP 1=2:=by
 have e:=rT (j:=bP) (i:=1) (p:=⟨5,0,0,1,72603⟩) g8 dc rfl
 exact ⟨e.2,e.1.trans Fz⟩
theorem Ir:iH bP=[0]:=(mY g8).trans sw
theorem Fe:fG bP=[[0],[]]:=(lF g8).trans rG
theorem HP:vf bP=500∧vK bP=1000:=⟨(r0 g8).1.trans xW.1,(r0 g8).2.trans xW.2⟩
theorem Ip:mH bP 0=0∧pb bP 0= -1000:=⟨by unfold mH; rw [if_pos g8,if_pos dc],by unfold pb; rw [if_pos ⟨g8,dc⟩]; exact AW⟩
end
section
def jH (H:List (List aq)) (h i:Int) (d:aq):List (List aq):=match H[h.toNat]? with
 |some ht=>H.set h.toNat (ht.set i.toNat d)
 |none=>H
def j6 (r:eJ) (h i:Int) (d:aq):eJ:=⟨r.ak,r.aR,r.b_,r.ks,jH r.ax h i d⟩
section
variable {H:List (List aq)} {h i x y:Int} {d e:aq} {ht:List aq} {r:eJ}
theorem pN (hh:H[h.toNat]? =some ht):jH H h i d=H.set h.toNat (ht.set i.toNat d):=by unfold jH; rw [hh]
theorem nV:(jH H h i d).length=H.length:=by unfold jH; split; rw [List.length_set]; rfl
/-- the cell, and all others -/
theorem Bt (hc:(H[h.toNat]?).bind (·[i.toNat]?)=some e):((jH H h i d)[h.toNat]?).bind (·[i.toNat]?)=some d:=by
 cases hh:H[h.toNat]? with
 |none=>rw [hh] at hc; cases hc
 |some ht=>
  rw [hh] at hc
  rw [pN hh,List.getElem?_set_self (bg.1 hh).1]
  show (ht.set i.toNat d)[i.toNat]? =some d
  exact List.getElem?_set_self (bg.1 hc).1
/-- and its own -/
theorem u6 (he':eL (j6 r h i d)=0) (hi:(0≤h∧h≤(r.ax.length:Int)-1)∧yJ r i) (hc:(r.ax[h.toNat]?).bind (·[i.toNat]?)=some e):(d.Out=true→ko (j6 r h i d) h i=6)∧(d.Out=false→ko (j6 r h i d) h i=0∧iJ (j6 r h i d) h i=fr r.ak d):=by
 have hl:(j6 r h i d).ax.length=r.ax.length:=nV
 have A:((j6 r h i d).ax[h.toNat]?).bind (·[i.toNat]?)=some d:=Bt hc
 have hi':(0≤h∧h≤((j6 r h i d).ax.length:Int)-1)∧yJ (j6 r h i d) i:=by rw [hl]; exact hi
 constructor<;>intro q
 ·unfold ko; rw [if_pos he',if_pos hi',A]; simp [q]
 ·have t:ko (j6 r h i d) h i=0:=by unfold ko; rw [if_pos he',if_pos hi',A]; simp [q]
  exact ⟨t,by unfold iJ; rw [if_pos t,A]; rfl⟩
end
end
section
open Go.RowKit
noncomputable def j8 (j:cn) (h i:Int) (d:aq):Int:=
 if cH j=0 then (if (0≤h∧h≤(j.Race.ax.length:Int)-1)∧yJ j.Race i then (if i∈(eg j)[h.toNat]?.getD [] then (if eL (j6 j.Race h i d)=0 then 0 else 60) else 8) else 2) else cH j
section
variable {j:cn} {h i:Int} {d e:aq} {row:List Int} {r:eJ} {H:List (List aq)} {k:Nat} {y:List aq} {hz:List cg} {hza:cg} {ht:List aq} {x:RA}
theorem E4 (q: ¬ cH j=0):j8 j h i d=cH j:=if_neg q
theorem sb (q:cH j=0) (n: ¬ ((0≤h∧h≤(j.Race.ax.length:Int)-1)∧0≤i∧i≤(j.Race.aR.length:Int)-1)):j8 j h i d=2:=by unfold j8; rw [if_pos q,if_neg (by exact n)]
theorem sY (q:cH j=0) (n:(0≤h∧h≤(j.Race.ax.length:Int)-1)∧0≤i∧i≤(j.Race.aR.length:Int)-1) (hr:(eg j)[h.toNat]? =some row):j8 j h i d=if i∈row then (if eL (j6 j.Race h i d)=0 then 0 else 60) else 8:=by
 unfold j8; rw [if_pos q,if_pos (by exact n),hr]; rfl
theorem Ac (q:cH j=0) (n:(0≤h∧h≤(j.Race.ax.length:Int)-1)∧0≤i∧i≤(j.Race.aR.length:Int)-1) (hr:(eg j)[h.toNat]? =some row) (hn: ¬ i∈row):j8 j h i d=8:=by rw [sY q n hr,if_neg hn]
theorem uh (q:cH j=0) (n:(0≤h∧h≤(j.Race.ax.length:Int)-1)∧0≤i∧i≤(j.Race.aR.length:Int)-1) (hr:(eg j)[h.toNat]? =some row) (hm:i∈row) (he: ¬ eL (j6 j.Race h i d)=0):j8 j h i d=60:=by rw [sY q n hr,if_pos hm,if_neg he]
theorem zX (q:cH j=0) (n:(0≤h∧h≤(j.Race.ax.length:Int)-1)∧0≤i∧i≤(j.Race.aR.length:Int)-1) (hr:(eg j)[h.toNat]? =some row) (hm:i∈row) (he:eL (j6 j.Race h i d)=0):j8 j h i d=0:=by rw [sY q n hr,if_pos hm,if_pos he]
theorem wZ (hy:(jH H h i d)[k]? =some y): ∃ x,H[k]? =some x∧y.length=x.length∧ ∀ e∈y,e∈x∨e=d:=by
 cases hh:H[h.toNat]? with
 |none=>unfold jH at hy; rw [hh] at hy; exact ⟨y,hy,rfl,fun e he=> .inl he⟩
 |some ht=>
  rw [pN hh,List.getElem?_set] at hy
  split at hy
  ·rename_i e
   rw [if_pos (bg.1 hh).1] at hy
   cases hy
   exact ⟨ht,by rw [← e]; exact hh,by rw [List.length_set],fun e he=>List.mem_or_eq_of_mem_set he⟩
  ·exact ⟨y,hy,U,fun e he=> .inl he⟩
theorem IF (hh:rn H hz) (h1:H[h.toNat]? =some ht) (h2:hz[h.toNat]? =some hza):rn (jH H h i d) (hz.set h.toNat (hza.1,hza.2.set i.toNat x)):=by
 refine ⟨by rw [List.length_set,nV]; exact hh.1,fun k y a hy ha=>?_⟩
 rw [pN h1] at hy
 rw [List.getElem?_set] at hy ha
 by_cases e:h.toNat=k
 ·rw [if_pos e,if_pos (bg.1 h1).1] at hy
  rw [if_pos e,if_pos (bg.1 h2).1] at ha
  cases hy; cases ha
  simp only [List.length_set]
  exact hh.2 _ _ _ h1 h2
 ·rw [if_neg e] at hy ha
  exact hh.2 k y a hy ha
theorem jv.put {az bz:List RA} {ha:List cg} (hin:jv r az ha) (hb:bz.length=r.ak.ar.length) (hc:pS r.ak.ar bz) (hh:rn (jH r.ax h i d) hz) (hd:d.ba.aj.length≤1000000):jv (j6 r h i d) bz hz:=⟨hin.line.Ng hb hc,hin.gD,hin.draw,by
 show (jH r.ax h i d).length≤1000000
 rw [nV]; exact hin.gv,hh.1,fun k y a hy ha'=>by
 obtain ⟨x,hx,hl,hm⟩:=wZ hy
 obtain ⟨b,hb⟩: ∃ b,ha[k]? =some b:=⟨ha[k]'(by rw [hin.has]; exact (bg.1 hx).1),eP _⟩
 have A:=hin.iP k x b hx hb
 refine ⟨by rw [hl]; exact A.len,hh.2 k y a hy ha',fun e he=>?_⟩
 rcases hm e he with q|rfl
 ·exact A.sig e q
 ·exact hd⟩
end
section
variable {E:dK} {Q:cv} {D:List Deferred} {L:List (Nat×Value)} {C C1:List au} {c:Code}
variable {h:List aq} {bs:List RA} {i:Nat} {d d':aq} {b b':RA}
theorem F3 {S:BS} {w0 w:World} {C:List au} (hd:h[i]? =some d) (hb:bs[i]? =some b) (hs:St S w0 (own b'.1 b'.2 xB 2 (d'.ba.aj.map aG.cells)::bx (aX mq h bs)::C) w):St S w0 (bx (aX mq (h.set i d') (bs.set i b'))::C) w:=by
 have hs:=hs.perm (List.Perm.swap _ _ _)
 have A:=(jX (jT hd hb) hs).iA
 have B:St S w0 (eF mq h bs i++(own b'.1 b'.2 xB 2 (d'.ba.aj.map aG.cells)::C)) w:=St.take (by simpa using A) (List.sublist_append_right (mq d b) _)
 have D:St S w0 ((own b'.1 b'.2 xB 2 (d'.ba.aj.map aG.cells)::eF mq h bs i)++C) w:=B.perm List.perm_middle
 have E:St S w0 ((mq d' b'++eF mq (h.set i d') (bs.set i b') i)++C) w:=by
  rw [rU]; exact D
 exact jX (jT (List.getElem?_set_self (bg.1 hd).1) (List.getElem?_set_self (bg.1 hb).1)).symm E.tied
/-- i: what hangs on the row, j: the new one -/
theorem Jj (p j:Nat) (hd:h[i]? =some d) (hb:bs[i]? =some b) (hn:decide (B0 C p j).Nodup=true) (hC:kg C (B0 C p j)=some (own b'.1 b'.2 xB 2 (d'.ba.aj.map aG.cells)::bx (aX mq h bs)::C1))
 (hk:WJ E c Q D L (bx (aX mq (h.set i d') (bs.set i b'))::C1)):WJ E c Q D L C:=fun a w hf hs=>hk a w hf (F3 hd hb (St.jq _ hn (iG hC) hs))
theorem Gs {H:List (List aq)} {hz:List cg} {h':List aq} {a':cg} {k:Nat} (i j q:Nat) (hk:k<H.length) (hk2:k<hz.length) (hn:decide (GW C i j q).Nodup=true) (hC:kg C (GW C i j q)=some (own a'.1.1 a'.1.2 xQ 7 (List.zipWith aq.cells h' a'.2)::bx (aX mq h' a'.2)::bx (eF jC H hz k)::C1))
 (hr:WJ E c Q D L (bx (aX jC (H.set k h') (hz.set k a'))::C1)):WJ E c Q D L C:=fun act w hf hs=>hr act w hf (Ew hk hk2 (St.jq _ hn (iG hC) hs))
end
end
section
section
variable {j x:cn} {n s:Int} {h k:Nat} {a b:List Int} {f f':aI} {ht:List aq} {d:aq}
theorem Hb (e:cH j=0) (ha:(fG j)[h]? =some a): ∃ ht,j.Race.ax[h]? =some ht∧a.length≤ht.length:=by
 rw [lF e] at ha
 unfold eg at ha
 have hl:=(bg.1 ha).1
 rw [wR] at hl
 have hh:j.Race.ax[h]? =some (j.Race.ax[h]'hl):=eP _
 rw [zL hh] at ha
 cases ha
 exact ⟨_,hh,mV⟩
end
end
section
section
variable {j:cn} {m n i:Nat} {p:aV} {s:Int}
theorem Ep (e:cH j=0): ∀ l∈fG j,l.length≤1000000:=fun l hl=>by
 obtain ⟨h,hh⟩:=List.getElem?_of_mem hl
 obtain ⟨ht,A,B⟩:=Hb e hh
 have C:=((dx (dJ e).1).2.iP ht (aP A)).1
 have D:=(dx (dJ e).1).2.num
 omega
end
end
section
open Go.RowKit
section
variable {j:cn} {h i:Int} {d e d0:aq} {row:List Int} {r:eJ} {H:List (List aq)} {x y:Nat} {ht hu:List aq} {hz:List cg}
end
theorem Hc {P:Program} {f:FuncId} {args:List Value} {Cp:List au} {β:Type} {V:β→Value} {V':Bool×Int×β→Value} {p:β→Prop} {q:Bool×Int×β→Prop} {N:β→List au} (h:lX P f args Cp (fun x:Bool×Int×β=>bif x.1 then V x.2.2 else V' x) (fun x=>(x.1=true→p x.2.2)∧(x.1=false→q x)) (fun x=>bif x.1 then N x.2.2 else [])) (hn: ∀ x,¬ q x):lX P f args Cp V p N:=
 ⟨h.go,fun w hw=>(h.run w hw).mono fun e w' ⟨⟨b,ec,y⟩,B,A,C,D⟩=>by
  cases b with
  |false=>exact absurd (A.2 rfl) (hn _)
  |true=>exact ⟨y,B,A.1 rfl,C,D⟩⟩
end
section
open Go.RowKit
theorem IZ {r:eJ} {h i:Int} {d:aq} (hr:eN r) (ht:hZ r.ak d):eN (j6 r h i d):=⟨hr.num,hr.CV,by
 have:=hr.nh
 show 1≤((jH r.ax h i d).length:Int)∧((jH r.ax h i d).length:Int)≤3
 rw [nV]; exact this,hr.ids,hr.draw,fun y hy=>by
 obtain ⟨k,hk⟩:=List.mem_iff_getElem?.1 hy
 obtain ⟨x,hx,hl,hm⟩:=wZ hk
 have A:=hr.iP x (aP hx)
 refine ⟨hl.trans A.1,fun e he=>?_⟩
 rcases hm e he with q|rfl
 ·exact A.2 e q
 ·exact ht⟩
def l3:cn:=⟨l0,[⟨1,0,12600,13000⟩,⟨2,2,11003,11100⟩,⟨3,0,10700,10900⟩,⟨1,0,13000,14000⟩],bP.aD,1,500⟩
def p0:cn:=⟨⟨eZ,[4,7,9],[],2,l0.ax⟩,bP.aC,bP.aD,1,500⟩
theorem Lx:cH l3=70:=hH Et (fun q=>absurd (q.fault ⟨2,2,11003,11100⟩ (by simp [l3])) dc)
theorem ML:cH p0=60:=by
 have h:eL p0.Race=60:=by unfold eL; rw [if_pos (show dR p0.Race.ak=0 from Ay),if_neg (fun q=>absurd q.ER dc)]
 rw [ux (by rw [h]; decide),h]
theorem JW {az:List RA} {ha:List cg} (h:eB bP az ha):eB l3 az ha:=⟨h.race,dc,dc,dc⟩
theorem Ix {az:List RA} {ha:List cg} (h:eB bP az ha):eB p0 az ha:=⟨⟨h.race.line,h.race.gD,dc,h.race.gv,h.race.has,h.race.iP⟩,h.nf,h.np,h.kind⟩
theorem HE {x:aI} (hx:bP.aC[1]? =some x):bP.aC.set 1 (aI.mk x.Kind 2 x.ke x.To)=l3.aC:=by
 cases (show some (⟨2,1,11003,11100⟩:aI)=some x from hx); rfl
theorem Kl:jW bP 2 0 0=0∧kG bP 2 0 0=1:=by
 have e:=my (j:=bP) (k:=2) (h:=0) (s:=0) (f:=⟨3,0,10700,10900⟩) (ht:=yo) (d:=lk) g8 dc rfl rfl rfl
 exact ⟨e.2,e.1.trans I_⟩
theorem GP:jW bP 0 0 1=0∧kG bP 0 0 1=0:=by
 have e:=my (j:=bP) (k:=0) (h:=0) (s:=1) (f:=⟨1,0,12600,13000⟩) (ht:=yo) (d:=fY 2600 2600) g8 dc rfl rfl rfl
 exact ⟨e.2,e.1.trans CD⟩
theorem I6:n5 bP 2=0∧p7 bP 2=0:=by
 have e:=rT (j:=bP) (i:=2) (p:=⟨6,0,0,3,20000⟩) g8 dc rfl
 exact ⟨e.2,e.1.trans IW⟩
theorem Kz:jW bP 4 0 0=2:=(oD g8 dc).2
theorem La:yN bP (-1)=2:=(vh g8 dc).2
theorem Lc:n5 bP 3=2:=(xr g8 dc).2
theorem Mt:mH bP 3=2:=(um g8 dc).2
theorem H6:j8 bP 1 0 (fY 5 6)=8:=Ac g8 dc (row:=[]) (by rw [rG]; rfl) sm
theorem Ie:j8 bP 2 0 (fY 5 6)=2:=sb g8 dc
theorem CP:eL (j6 bP.Race 0 0 (fY 5 6))=0:=by
 unfold eL; rw [if_pos (show dR (j6 bP.Race 0 0 (fY 5 6)).ak=0 from Ay),if_pos (show eN (j6 bP.Race 0 0 (fY 5 6)) from IZ wu (rH dc))]
theorem JQ: ¬ eL (j6 bP.Race 0 0 (fY 6 5))=0:=fun e=>by
 have h:=(((dx e).2.iP [fY 6 5,fY 2600 2600,fY 2580 2609] (by simp [j6,jH,bP,l0])).2 (fY 6 5) sm)
 rw [s5 ⟨rfl,rfl⟩] at h
 exact absurd h.1 dc
theorem Mw:j8 bP 0 0 (fY 5 6)=0:=zX g8 dc (row:=[0]) (by rw [rG]; rfl) sm CP
theorem C_:j8 bP 0 0 (fY 6 5)=60:=uh g8 dc (row:=[0]) (by rw [rG]; rfl) sm JQ
theorem Ic:ko (j6 bP.Race 0 0 (fY 5 6)) 0 0=0∧iJ (j6 bP.Race 0 0 (fY 5 6)) 0 0=⟨5,6⟩:=
 (u6 (r:=bP.Race) (h:=0) (i:=0) (e:=lk) CP dc rfl).2 rfl
end
section
theorem TN.sub {E:dK} {ops:Array Oper} {Q:cv} {D:fu} {C' C1 C:List au} {tb rem:List Nat}: ∀ {n:Nat} {L L':cJ},eb L L'→TN E ops D C' C1 (fun L C=>KJ E (Q .normal) D L C) tb n rem L' C→TN E ops D C' C1 (fun L C=>KJ E (Q .normal) D L C) tb n rem L C:=by
 intro n
 cases n with
 |zero=>intro L L' hs h; exact jL hs (fun _ h=>h) h
 |succ n=>intro L L' hs h i hi o ho K hK; exact Il hs (fun _ h=>h) (h i hi o ho K hK)
theorem HJ {E:dK} {ops:Array Oper} {Q:cv} {D:fu} {C' C1 C:List au} {bs:List Bool} {os:List Oper} {L:cJ} {tb rem:List Nat} {n:Nat} {t:Nat} {b:Bool} (h:L.lookup t=some (.bool b))
 (h1:b=true→ny E ops D C' C1 (fun L'=>TN E ops D C' C1 (fun L C=>KJ E (Q .normal) D L C) tb n rem L' C) bs os ((t,.bool true)::L)) (h2:b=false→ny E ops D C' C1 (fun L'=>TN E ops D C' C1 (fun L C=>KJ E (Q .normal) D L C) tb n rem L' C) bs os ((t,.bool false)::L)):
 ny E ops D C' C1 (fun L'=>TN E ops D C' C1 (fun L C=>KJ E (Q .normal) D L C) tb n rem L' C) bs os L:=by
 have A: ∀ v:Bool,b=v→eb L ((t,.bool v)::L):=fun v hv=>eb.cons (hv▸h) (fun _ _ h=>h)
 cases b
 ·exact ny.mono (fun _ _=>TN.sub) (A _ U) (h2 U)
 ·exact ny.mono (fun _ _=>TN.sub) (A _ U) (h1 U)
theorem KP {E:dK} {ops:Array Oper} {Q:cv} {D:List Deferred} {L:List (Nat×Value)} {C1 C2 C:List au} {t n:Nat} {b:Bool} {bs:List Bool} {os:List Oper} {tb rem:List Nat} (h:L.lookup t=some (.bool b)) (h2:b=false→ny E ops D C2 C1 (fun L2=>TN E ops D C2 C1 (fun L C=>KJ E (Q .normal) D L C) tb n rem L2 C) bs os ((t,.bool false)::L)) (h1:b=true→ny E ops D C2 C1 (fun L2=>TN E ops D C2 C1 (fun L C=>KJ E (Q .normal) D L C) tb n rem L2 C) bs os ((t,.bool true)::L)):ny E ops D C2 C1 (fun L2=>TN E ops D C2 C1 (fun L C=>KJ E (Q .normal) D L C) tb n rem L2 C) bs os L:=HJ h h1 h2
end
section
open Go.RowKit
section
variable {K:Type} [DecidableEq K] {kV:K→Value}
variable {E:dK} {ops:Array Oper} {Q:cv} {rest:List Oper} {D:List Deferred} {L:List (Nat×Value)} {C:List au}
variable {ty:TypeId} {ps:String} {af:Array Edge} {g:Option (Nat×Bool)}
theorem o4 {t kt et:TypeId} {xm xk:Operand} {ts:Array TypeId} {b:Nat} {x:K} {m m':List (K×Value)} {C':List au} (i:Nat) (hg:im ops L g=true) (hm:ev L xm=some (.map (some b))) (hk:ev L xk=some (kV x)) (hts:ts[0]? =some t)
 (ht:E.P.underlying t=some (.map kt et)) (hkt:qp E.P kt kV) (hC:C[i]? =some (iB kV b m)) (hm':dF m x=m') (hC':C.set i (iB kV b m')=C') (k:RJ E ops Q rest D L C'):
 RJ E ops Q (⟨none,.call {callee:= .builtin .delete,args:= #[xm,xk],argTypes:=ts},ty,ps,af,g⟩::rest) D L C:=by
 subst hm' hC'
 intro a w A hs
 unfold oT
 rw [if_pos (di A hg)]
 obtain ⟨es,c,he,hi⟩:=hs.holds _ (aP hC)
 have B:(getObj b).run E.P w= .ok (.map es c) w:=MapKept.run_getObj_map he
 rcases ml (P:=E.P) (w:=w) (x:=x) hkt hi with ⟨F,G⟩|⟨j,AA,F,G,H⟩
 ·refine gE (v:= .tuple #[]) (w':={w with heap:=w.heap.setIfInBounds b (.map es c)}) sm ?_ ?_
  ·simp [execOp,resolve,invoke,builtin,A.ev hm,A.ev hk,Builtin.delete_,hts,run_underlying ht,B,gH hkt,F,MapKept.run_setObj_map _ he]
  ·refine k _ _ ⟨A.defers,A.size,A.at_⟩ (hs.ug (b:=b) i hC U U (kD _) (fun _ h=>h) ⟨_,_,mC he,?_⟩)
   rw [zr G]; exact hi
 ·refine gE (v:= .tuple #[]) (w':={w with heap:=w.heap.setIfInBounds b (.map (es.eraseIdxIfInBounds j) c)}) sm ?_ ?_
  ·simp [execOp,resolve,invoke,builtin,A.ev hm,A.ev hk,Builtin.delete_,hts,run_underlying ht,B,gH hkt,F,MapKept.run_setObj_map _ he]
  ·exact k _ _ ⟨A.defers,A.size,A.at_⟩ (hs.ug (b:=b) i hC U U (kD _) (fun _ h=>h) ⟨_,_,mC he,hi.del G⟩)
end
end
section
open Go.RowKit
section
variable {P:Program} {t:TypeId} {x y:Operand}
theorem nT {e:TypeId} {a:OA} {n c:Nat} (ht:P.underlying t=some (.slice e)):gj P .eql t x y (.slice a n c) (.slice none 0 0) (.bool (decide (a=none))):=fun w=>by
 have A:(Op.equal t (.slice a n c) (.slice none 0 0)).run P w= .ok (decide (a=none)) w:=by
  unfold Op.equal
  show (Op.equalIn (9999+1) t (.slice a n c) (.slice none 0 0)).run P w=_
  unfold Op.equalIn
  cases a<;>simp [run_underlying ht]
 have B:eqGuard .eql t x y (.slice a n c) (.slice none 0 0)=pure ():=rfl
 rw [B]
 show (Sem.run P (do let b ← Op.equal t (.slice a n c) (.slice none 0 0); pure (vB b)) w)=_
 simp [A]
end
section
variable {E:dK} {ops:Array Oper} {Q:cv} {rest:List Oper} {D:List Deferred} {L:List (Nat×Value)} {C:List au}
variable {dst:Option Tmp} {d:Nat} {ty:TypeId} {ps:String} {af:Array Edge} {g:Option (Nat×Bool)}
/-- a row that lies nowhere is empty -/
theorem kb {a:OA} {n sz:Nat} {es:List (List Value)} (hR:iE C (rd a n sz es).holds) (ha:a=none) (hz:0<sz) (k:es=[]→RJ E ops Q rest D L C):RJ E ops Q rest D L C:=fun act w hf hs=>by
 refine k ?_ act w hf hs
 obtain ⟨F,G,B⟩:=hs.has hR
 rcases Nat.eq_zero_or_pos (n*sz) with h|h
 ·have:n=0:=by
   rcases Nat.mul_eq_zero.1 h with h|h
   ·exact h
   ·omega
  exact oB om
 ·obtain ⟨ad,A,_⟩:=B h
  rw [ha] at A; cases A
theorem F5 {A:au} (i:Nat) (h:C[i]? =some A.ro):iE C A.holds:=fun w hw=>by
 have B:=hw A.ro (aP h)
 exact B
end
end
section
open Go.RowKit
def LI (b:Bool):List Value:=[.bool b]
@[simp] theorem F8 (b:Bool):(LI b).length=1:=rfl
end
section
open Go.RowKit
theorem GK (l:List Int) (lA:OA) (lC:Nat) (f:Value) (p:Int→Bool) (X:au) (hf: ∀ x0,x0∈l→yd Tryz.prog f [.int .i64 x0] [X] (.bool (p x0))) (hlen:l.length≤1000000):
 c_ Tryz.prog 104 [(vS lA l.length lC),f] [(rd lA l.length 1 (l.map iC)),X] (vI (oQ p l)):=by
 refine bq kr Tryz.func104 U U fun R Q hQ hN=>?_
 try dsimp only
 refine WS fun _ G=>br 1 U<|RK G<|aw fun _ H=>WS fun _ AA=>rP 3 [] I ?_
 refine RK AA<|aL ?_
 have B:(0≤l.length)∧((l.take 0).any p=false):=by simp
 refine cq (ι:={z:Nat // (z≤l.length)∧((l.take z).any p=false)}) [0,1,7] [0,1] U U (fun z=>[(8,(vI (z.1:Int)))]) (fun z=>[]) (fun _=>rfl) (fun _=>rfl) (fun z=>l.length-z.1) ⟨0,B⟩ (bw U) (aS [0,1]) ?_
 clear B
 rintro ⟨i,⟨N,A⟩⟩ J4 F
 try dsimp only
 refine WS fun _ J=>rP 1 [] I ?_
 refine RK J<|aw fun _ K=>cP U (bf fun P=>?_) (bc fun P=>?_)
 ·refine bV<|ao<|ao<|aM<|KK H<|WS fun _ E=>rP 1 [] I ?_
  refine RK E<|ay<|Q1 hQ U U U ?_
  exact cI (mI om A).symm
 refine WK K<|aw fun _ L=>aL<|WS fun _ M=>br 2 U<|RK M<|WS fun _ C=>rP 3 [] I ?_
 obtain ⟨x,hx⟩:=aO l i om
 have O:=cD iC hx
 refine rS (IA i U (aQ 0 U) de dc om om)<|rS (iY i 0 (vI x) U ct (aQ 0 U) O U dc U)<|rS (SX (mQ U U U (hf x (aP hx)) (aY [1])) U U)<|RK C<|cO U (fun hp=>?_) (fun hp=>?_)
 ·refine WS fun _ D=>rP 2 [] I ?_
  refine RK D<|ay<|Q1 hQ U U U ?_
  exact cI (pV hx hp A).symm
 refine cT<|aW<|KK L<|aF<|rP 2 [] I ?_
 refine aK ?_
 refine bu (F ⟨(i+1),⟨om,pM hx A hp⟩⟩ _ _ _ U os (bw U) (aS [0,1]))
theorem mX (l:List Int) (lA:OA) (lC:Nat) (f:Value) (p:Int→Bool) (X:au) (hf: ∀ x0,x0∈l→yd Tryz.prog f [.int .i64 x0] [X] (.bool (p x0))) (hlen:l.length≤1000000):
 c_ Tryz.prog 76 [(vS lA l.length lC),f] [(rd lA l.length 1 (l.map iC)),X] (vB (l.any p)):=by
 refine bq kr Tryz.func76 U U fun C Q hQ hN=>?_
 try dsimp only
 refine WS fun _ A=>br 1 U<|RK A<|WS fun _ B=>br 2 U<|rS (CL (GK l lA lC f p X (by exact hf) hlen) (aY [0,1]) U)<|rP 2 [] I ?_
 refine RK B<|ay<|Q1 hQ U U U ?_
 exact cB ov
theorem AJ (n lo hi:Int) (g1 g2:Nat):
 c_ Tryz.prog 163 [(vI n),(vP g1),(vP g2)] [(bU g1 3 [(vI lo)]),(bU g2 3 [(vI hi)])] (vB (decide (n<lo∨hi<n))):=by
 refine bq kr Tryz.func163 U U fun D Q hQ hN=>?_
 try dsimp only
 refine WS fun _ B=>br 1 U<|RK B<|WS fun _ A=>rP 4 [] (mr 0 U I) ?_
 refine cE (t:=8) U (bc fun C=>?_) (bf fun C=>?_)
 ·refine rP 5 [] I ?_
  refine RK A<|ay<|Q1 hQ U U U ?_
  exact cB (gX om).symm
 refine rP 5 [] (mr 1 U I) ?_
 refine RK A<|ay<|Q1 hQ U U U ?_
 exact cB (gM.2 om)
theorem l8 (lo hi:Int) (l:List Int) (lA:OA) (lC:Nat) (hlen:l.length≤1000000):
 c_ Tryz.prog 130 [(vI lo),(vI hi),(vS lA l.length lC)] [(rd lA l.length 1 (l.map iC))] (vB (l_ lo hi l)):=by
 refine bq kr Tryz.func130 U U fun F Q hQ hN=>?_
 try dsimp only
 refine WS fun _ D=>rJ U U fun A=>rJ U U fun B=>br 1 U<|RK D<|WS fun _ E=>rP 1 [] I ?_
 refine rS (FU U) ?_
 refine rS (CL (mX l lA lC (Value.func (.func 163) [].toArray [(vP A),(vP B)].toArray) (fun C=>(decide (C<lo∨hi<C))) (dw [(bU A 3 [(vI lo)]),(bU B 3 [(vI hi)])]) (by intro C _; exact jd (fi:=[]) (ca:=[(vP A),(vP B)]) (ib (AJ C lo hi A B) (aY [0,1]))) hlen) (dN 2 U U<|ai (ij (aY [1,0]))<|aH) U) ?_
 refine rP 2 [] I ?_
 refine RK E<|ay ?_
 exact Q1 hQ U U U U
theorem rE (s:ab) (lo hi:Int):
 c_ Tryz.prog 131 [(vA (ab.cells s)),(vI lo),(vI hi)] [] (vB (decide (s.Lo≤s.Hi∧lo≤s.Lo∧s.Hi≤hi))):=by
 refine bq kr Tryz.func131 U U fun F Q hQ hN=>?_
 try dsimp only
 refine WS fun _ B=>e8 U fun E=>br 1 U<|RK B<|WS fun _ A=>rP 6 [] (mc 0 U I) ?_
 refine dr (xs:=[.tmp 10,.tmp 12]) (cs:=[(vI s.Lo),(vI s.Hi)]) U de iy U U U U (by simp [Value.cells]) U U fun C=>?_
 refine rS (CL (c_.eq (l8 lo hi ([s.Lo,s.Hi]) (some ⟨C,0,none⟩) 2 (by (simp; done))) mm) (ai (aT 0 U U (by simp [bp]) U)<|aH) U) ?_
 refine rP 1 [] I ?_
 refine cw (t:=15) U (bf fun D=>?_) (bc fun D=>?_)
 ·refine rP 7 [] I ?_
  refine RK A<|ay<|Q1 hQ U U U ?_
  exact cB (eV om).symm
 refine rP 7 [] (mc 1 U I) ?_
 refine RK A<|ay<|Q1 hQ U U U ?_
 exact cB (gM.2 om)
theorem wC (ts:List av) (tsA:OA) (tsC:Nat) (hlen:ts.length≤1000000) (hside: ∀ x∈ts,0≤x.jJ∧x.jJ≤255):
 c_ Tryz.prog 107 [(vA (bS.cells (bS.mk (bj.mk tsA ts.length tsC))))] [(rd tsA ts.length 9 (ts.map av.cells))] (vI (if cQ ts=true then 0 else 10)):=by
 refine bq kr Tryz.func107 U U fun w0 Q hQ hN=>?_
 try dsimp only
 refine WS fun _ v=>e8 U fun b2=>br 1 U<|RK v<|u0 U<|aw fun _ w=>WS fun _ y=>rP 3 [] (mc 0 U I) ?_
 refine dr (xs:=[.tmp 11]) (cs:=[(vI (ts.length:Int))]) U de iy U U U U (by simp [Value.cells]) U U fun b5=>?_
 refine rS (CL (c_.eq (l8 1 12 ([(ts.length:Int)]) (some ⟨b5,0,none⟩) 1 (by (simp; done))) bL) (ai (aT 0 U U (by simp [bp]) U)<|aH) U) ?_
 refine rP 1 [] I ?_
 refine RK y<|cO U (bI fun h6=>?_) (bH fun h6=>?_)
 ·refine WS fun _ AC=>rP 1 [] I ?_
  refine RK AC<|ay<|Q1 hQ U U U ?_
  exact cI (if_neg (by rw [wo om]; decide)).symm
 refine WK w<|WS fun _ AO=>br 1 U<|RK AO<|WS fun _ AP=>br 1 U<|RK AP<|aw fun _ J=>vl<|KK J<|aw fun _ B=>WS fun _ K=>rP 4 [] (mc 1 U I) ?_
 refine RK K<|aL ?_
 have D:(0≤ts.length)∧(ee (-1) ts=ee (gZ ts 0) (ts.drop 0))∧(-1≤gZ ts 0)∧(gZ ts 0≤9999):=by (refine ⟨om,rfl,by simp [gZ],by simp [gZ]⟩)
 refine cq (ι:={z:Nat // (z≤ts.length)∧(ee (-1) ts=ee (gZ ts z) (ts.drop z))∧(-1≤gZ ts z)∧(gZ ts z≤9999)}) [1,4,16,17] [1,2] U U (fun z=>[(3,(vI (gZ ts z.1))),(18,(vI (z.1:Int)))]) (fun z=>[]) (fun _=>rfl) (fun _=>rfl) (fun z=>ts.length-z.1) ⟨0,D⟩ (bw U) (aS [1,2]) ?_
 clear D
 rintro ⟨i,⟨A0,A,A1,A2⟩⟩ J13 E
 try dsimp only
 refine WS fun _ L=>rP 1 [] I ?_
 refine RK L<|aw fun _ M=>cP U (bf fun k=>?_) (bc fun k=>?_)
 ·refine bV<|ao<|ao<|aM<|KK B<|WS fun _ O=>rP 2 [] I ?_
  refine RK O<|ay<|Q1 hQ U U U ?_
  exact cI (if_pos (wN A om om)).symm
 refine WK M<|aw fun _ F=>aL<|WS fun _ N=>?_
 obtain ⟨x,hx⟩:=aO ts i om
 have A3:=cD av.cells hx
 refine rS (IA i U (aQ 1 U) Bq dc om om) ?_
 have A7:=hside x (aP hx)
 refine rS (nz i 0 (av.cells x) U ct (aQ 1 U) A3 U dc U U)<|AL U H8 fun A4=>fF U KO U<|RK N ?_
 refine p8 (ι:=Unit) [1,3,4,6,16,17,18] [0,1,2] U U (fun z=>[(7,(vB (decide (x.jJ=0∧x.ej.Lo=0∧x.ej.Hi=0))))]) (fun z=>[]) (fun _=>rfl) (fun _=>rfl) ?_ fun K20 G=>?_
 ·intro _
  try dsimp only
  refine p8 (ι:=Unit) [1,3,4,6,7,16,17,18] [0,1,2] U U (fun z=>[(8,(vB (decide ((1≤x.jJ∧x.jJ≤2)∧x.ej.Lo≤x.ej.Hi∧500≤x.ej.Lo∧x.ej.Hi≤20000))))]) (fun z=>[]) (fun _=>rfl) (fun _=>rfl) ?_ fun K21 H=>?_
  ·intro _
   try dsimp only
   refine aw fun _ AB=>WS fun _ C=>rP 4 [] (mc 0 U I) ?_
   refine dr (xs:=[.tmp 44]) (cs:=[(vI x.Id)]) U de iy U U U U (by simp [Value.cells]) U U fun h=>?_
   refine rS (CL (c_.eq (l8 ((gZ ts i)+1) 9999 ([x.Id]) (some ⟨h,0,none⟩) 1 (by (simp; done))) bL) (ai (aT 0 U U (by simp [bp]) U)<|aH) U) ?_
   refine rP 2 [] I ?_
   refine cE (t:=48) U (bI fun o=>?_) (bH fun o=>?_)
   ·refine br 26 U<|RK C<|bo U<|WS fun _ P=>br 1 U<|RK P<|bV<|ao<|dM U<|ao<|ao<|aM<|KK B<|WS fun _ R=>rP 2 [] I ?_
    refine RK R<|ay<|Q1 hQ U U U ?_
    exact cI (if_neg (by rw [kI A hx (by simp only [cL,gV]; omega)]; decide)).symm
   refine br 1 U<|rS (LP (ab.cells x.mA) 1 U ct U U U)<|rS (CL (rE x.mA 1 30000) (aH) U)<|rP 3 [] I ?_
   refine cE (t:=54) U (bI fun p=>?_) (bH fun p=>?_)
   ·refine br 20 U<|RK C<|bo U<|WS fun _ S=>br 1 U<|RK S<|bV<|ao<|dM U<|ao<|ao<|aM<|KK B<|WS fun _ T=>rP 2 [] I ?_
    refine RK T<|ay<|Q1 hQ U U U ?_
    exact cI (if_neg (by rw [kI A hx (by simp only [cL,gV]; omega)]; decide)).symm
   refine br 1 U<|rS (LP (ab.cells x.nZ) 1 U ct U U U)<|rS (CL (rE x.nZ 0 5000) (aH) U)<|rP 3 [] I ?_
   refine cE (t:=60) U (bI fun q=>?_) (bH fun q=>?_)
   ·refine br 14 U<|RK C<|bo U<|WS fun _ AA=>br 1 U<|RK AA<|bV<|ao<|dM U<|ao<|ao<|aM<|KK B<|WS fun _ V=>rP 2 [] I ?_
    refine RK V<|ay<|Q1 hQ U U U ?_
    exact cI (if_neg (by rw [kI A hx (by simp only [cL,gV]; omega)]; decide)).symm
   refine rP 2 [] (mc 1 U I) ?_
   refine dr (xs:=[.tmp 62]) (cs:=[(vI x.FI)]) U de iy U U U U (by simp [Value.cells]) U U fun j=>?_
   refine rS (CL (c_.eq (l8 0 5000 ([x.FI]) (some ⟨j,0,none⟩) 1 (by (simp; done))) bL) (ai (aT 0 U U (by simp [bp]) U)<|aH) U) ?_
   refine rP 3 [] I ?_
   refine cE (t:=67) U (bI fun r=>?_) (bH fun r=>?_)
   ·refine br 7 U<|RK C<|bo U<|WS fun _ W=>br 1 U<|RK W<|bV<|ao<|dM U<|ao<|ao<|aM<|KK B<|WS fun _ X=>rP 2 [] I ?_
    refine RK X<|ay<|Q1 hQ U U U ?_
    exact cI (if_neg (by rw [kI A hx (by simp only [cL,gV]; omega)]; decide)).symm
   refine rP 3 [] I ?_
   refine cw (t:=70) U (bH fun s=>?_) (bI fun s=>?_)
   ·refine br 4 U<|RK C<|bT U<|WK AB<|aF<|gO 3 [] (mc 2 U I) U<|aK<|aW<|KK F<|aF<|rP 2 [] I ?_
    refine aK ?_
    have f:(vI (gZ ts (i+1)))=(vI x.Id):=by rw [ir hx]
    refine bu (E ⟨(i+1),⟨om,n_ A hx (by simp only [cL,gV]; omega),by rw [ir hx]; omega,by rw [ir hx]; omega⟩⟩ _ _ _ U os (c0 4<|bJ U f<|bw U) (aS [3,4]))
   refine rP 4 [] I ?_
   refine RK C<|cP U (bH fun u=>?_) (bI fun u=>?_)
   ·refine WK AB<|aF<|gO 3 [] (mc 2 U I) U<|aK<|aW<|KK F<|aF<|rP 2 [] I ?_
    refine aK ?_
    have e:(vI (gZ ts (i+1)))=(vI x.Id):=by rw [ir hx]
    refine bu (E ⟨(i+1),⟨om,n_ A hx (by simp only [cL,gV]; omega),by rw [ir hx]; omega,by rw [ir hx]; omega⟩⟩ _ _ _ U os (c0 4<|bJ U e<|bw U) (aS [3,4]))
   refine WS fun _ Y=>br 1 U<|RK Y<|bV<|ao<|dM U<|ao<|ao<|aM<|KK B<|WS fun _ Z=>rP 2 [] I ?_
   refine RK Z<|ay<|Q1 hQ U U U ?_
   exact cI (if_neg (by rw [kI A hx (by simp only [cL,gV]; omega)]; decide)).symm
  refine aF<|rP 2 [] (mc 0 U I) ?_
  refine rS (SX (oj (m:=x.jJ) U U Kv pq (lU (by first|assumption|omega))) U U)<|dr (xs:=[.tmp 33]) (cs:=[(vI x.jJ)]) U de iy U U U U (by simp [Value.cells]) U U fun g=>?_
  refine rS (CL (c_.eq (l8 1 2 ([x.jJ]) (some ⟨g,0,none⟩) 1 (by (simp; done))) bL) (ai (aT 0 U U (by simp [bp]) U)<|aH) U) ?_
  refine rP 1 [] I ?_
  refine cw (t:=36) U (bf fun n=>?_) (bc fun n=>?_)
  ·refine rP 5 [] I ?_
   refine aK ?_
   have d:(decide ((1≤x.jJ∧x.jJ≤2)∧x.ej.Lo≤x.ej.Hi∧500≤x.ej.Lo∧x.ej.Hi≤20000))=false:=eV om
   refine bu (jL (c0 8<|lf U d<|eb.nil _) (aS [1,2,3]) (H ()))
  refine br 1 U<|rS (LP (ab.cells x.ej) 1 U ct U U U)<|rS (CL (rE x.ej 500 20000) (aH) U)<|rP 2 [] I ?_
  refine aK ?_
  have c:(decide ((1≤x.jJ∧x.jJ≤2)∧x.ej.Lo≤x.ej.Hi∧500≤x.ej.Lo∧x.ej.Hi≤20000))=(decide (x.ej.Lo≤x.ej.Hi∧500≤x.ej.Lo∧x.ej.Hi≤20000)):=gM.2 om
  refine bu (jL (c0 8<|lf U c<|eb.nil _) (aS [1,2,3]) (H ()))
 refine aF<|gO 2 [] (mc 0 U I) U<|rS (BI U s_)<|rP 1 [] I ?_
 refine cw (t:=25) U (bf fun l=>?_) (bc fun l=>?_)
 ·refine rP 6 [] I ?_
  refine aK ?_
  have b:(decide (x.jJ=0∧x.ej.Lo=0∧x.ej.Hi=0))=false:=eV om
  refine bu (jL (c0 7<|lf U b<|eb.nil _) (aS [0,1,2]) (G ()))
 refine br 1 U<|rS (LP (ab.cells x.ej) 0 U ct U U U)<|rS (SX (aZ (xs:=[]) (cs:=(ab.cells (ab.mk 0 0))) U U (a_ jr U)) U U)<|rS (BI U (uz _ _ x.ej (ab.mk 0 0)))<|rP 2 [] I ?_
 refine aK ?_
 have a:(decide (x.jJ=0∧x.ej.Lo=0∧x.ej.Hi=0))=(decide (x.ej=(ab.mk 0 0))):=gM.2 (by (simp only [ab.ext_iff] at *; omega))
 refine bu (jL (c0 7<|lf U a<|eb.nil _) (aS [0,1,2]) (G ()))
theorem yV (la:List Int) (laA:OA) (laC:Nat) (lb:List Int) (lbA:OA) (lbC:Nat) (h1:la.length≤1000000) (h2:lb.length≤1000000):
 c_ Tryz.prog 12 [(vS laA la.length laC),(vS lbA lb.length lbC)] [(rd laA la.length 1 (la.map iC)),(rd lbA lb.length 1 (lb.map iC))] (vB (decide (la=lb))):=by
 refine bq kr Tryz.func12 U U fun V Q hQ hN=>?_
 try dsimp only
 refine WS fun _ J=>br 1 U<|RK J<|aw fun _ K=>WS fun _ L=>rP 5 [] I ?_
 refine RK L<|cO U (bI fun hl=>?_) (bH fun hl=>?_)
 ·refine WS fun _ M=>rP 1 [] I ?_
  refine RK M<|ay<|Q1 hQ U U U ?_
  exact cB (eV (fun e=>by subst e; omega)).symm
 refine WK K<|aw fun _ N=>WS fun _ O=>rP 1 [] I ?_
 refine RK O<|aL ?_
 have A:(0≤la.length)∧(la.take 0=lb.take 0):=by simp
 refine cq (ι:={z:Nat // (z≤la.length)∧(la.take z=lb.take z)}) [0,1] [0,1] U U (fun z=>[(5,(vI (z.1:Int)))]) (fun z=>[]) (fun _=>rfl) (fun _=>rfl) (fun z=>la.length-z.1) ⟨0,A⟩ (bw U) (aS [0,1]) ?_
 clear A
 rintro ⟨i,⟨S,B⟩⟩ J7 AB
 try dsimp only
 refine aw fun _ P=>WS fun _ R=>rP 4 [] I ?_
 refine RK R<|cP U (bf fun H=>?_) (bc fun H=>?_)
 ·refine bV<|ao<|ao<|aM<|KK N<|WS fun _ F=>rP 1 [] I ?_
  refine RK F<|ay<|Q1 hQ U U U ?_
  exact cB (gX (sD om B om)).symm
 refine WK P<|aw fun _ C=>aL<|aw fun _ D=>dh cu 9 kr<|dP 2 [] I ?_
 obtain ⟨x,hx⟩:=aO la i om
 have T:=cD iC hx
 refine dS (IA i U (aQ 0 U) de dc om om)<|dS (iY i 0 (vI x) U ct (aQ 0 U) T U dc U)<|dP 2 [] I ?_
 obtain ⟨y,hy⟩:=aO lb i om
 have AA:=cD iC hy
 refine dS (IA i U (aQ 1 U) de dc om om)<|dS (iY i 0 (vI y) U ct (aQ 1 U) AA U dc U)<|dP 1 [] I ?_
 refine du<|RK D<|cO U (bI fun h=>?_) (bH fun h=>?_)
 ·refine WS fun _ E=>rP 1 [] I ?_
  refine RK E<|ay<|Q1 hQ U U U ?_
  exact cB (eV (si hx hy h)).symm
 refine cT<|aW<|KK C<|aF<|rP 3 [] I ?_
 refine aK ?_
 have G:(vI (((i+1):Nat):Int))=(vI ((i:Int)+1)):=by exact cI om
 refine bu (AB ⟨(i+1),⟨om,qn B hx hy h⟩⟩ _ _ _ U os (eb.cons U<|eb.cons U<|bJ U G<|eb.nil _) (aS [0,1]))
end
section
open Go.RowKit
theorem E8 (n lo hi:Int) (g1 g2:Nat):
 c_ Tryz.prog 93 [(vI n),(vP g1),(vP g2)] [(bU g1 3 [(vI lo)]),(bU g2 3 [(vI hi)])] (vB (decide (n<lo∨hi<n))):=by
 refine bq kr Tryz.func93 U U fun D Q hQ hN=>?_
 try dsimp only
 refine WS fun _ B=>br 1 U<|RK B<|WS fun _ A=>rP 4 [] (mr 0 U I) ?_
 refine cE (t:=8) U (bc fun C=>?_) (bf fun C=>?_)
 ·refine rP 5 [] I ?_
  refine RK A<|ay<|Q1 hQ U U U ?_
  exact cB (gX om).symm
 refine rP 5 [] (mr 1 U I) ?_
 refine RK A<|ay<|Q1 hQ U U U ?_
 exact cB (gM.2 om)
theorem mG (lo hi:Int) (l:List Int) (lA:OA) (lC:Nat) (hlen:l.length≤1000000):
 c_ Tryz.prog 59 [(vI lo),(vI hi),(vS lA l.length lC)] [(rd lA l.length 1 (l.map iC))] (vB (l_ lo hi l)):=by
 refine bq kr Tryz.func59 U U fun F Q hQ hN=>?_
 try dsimp only
 refine WS fun _ D=>rJ U U fun A=>rJ U U fun B=>br 1 U<|RK D<|WS fun _ E=>rP 1 [] I ?_
 refine rS (FU U) ?_
 refine rS (CL (mX l lA lC (Value.func (.func 93) [].toArray [(vP A),(vP B)].toArray) (fun C=>(decide (C<lo∨hi<C))) (dw [(bU A 3 [(vI lo)]),(bU B 3 [(vI hi)])]) (by intro C _; exact jd (fi:=[]) (ca:=[(vP A),(vP B)]) (ib (E8 C lo hi A B) (aY [0,1]))) hlen) (dN 2 U U<|ai (ij (aY [1,0]))<|aH) U) ?_
 refine rP 2 [] I ?_
 refine RK E<|ay ?_
 exact Q1 hQ U U U U
theorem Ho (s:ab):
 c_ Tryz.prog 242 [(vA (ab.cells s))] [] (vB (decide (m6 s))):=by
 refine bq kr Tryz.func242 U U fun F Q hQ hN=>?_
 try dsimp only
 refine WS fun _ B=>e8 U fun E=>br 1 U<|RK B<|WS fun _ A=>rP 4 [] (mc 0 U I) ?_
 refine dr (xs:=[.tmp 4,.tmp 6]) (cs:=[(vI s.Lo),(vI s.Hi)]) U de iy U U U U (by simp [Value.cells]) U U fun C=>?_
 refine rS (CL (c_.eq (mG 1 600000 ([s.Lo,s.Hi]) (some ⟨C,0,none⟩) 2 (by (simp; done))) mm) (ai (aT 0 U U (by simp [bp]) U)<|aH) U) ?_
 refine rP 1 [] I ?_
 refine cw (t:=9) U (bf fun D=>?_) (bc fun D=>?_)
 ·refine rP 7 [] I ?_
  refine RK A<|ay<|Q1 hQ U U U ?_
  simp only [m6]
  exact cB (eV om).symm
 refine rP 7 [] (mc 1 U I) ?_
 refine RK A<|ay<|Q1 hQ U U U ?_
 simp only [m6]
 exact cB (gM.2 om)
theorem Dz (d:aq) (sgA:OA) (sgC:Nat):
 c_ Tryz.prog 239 [(vA (aJ.cells (aJ.mk d.Out d.cZ d.Time (iv d.ba sgA sgC))))] [(rd sgA d.ba.aj.length 2 (d.ba.aj.map aG.cells))] (vB (decide (ni d.ba))):=by
 refine bq kr Tryz.func239 U U fun F Q hQ hN=>?_
 try dsimp only
 refine WS fun _ B=>e8 U fun E=>br 1 U<|RK B<|WS fun _ A=>rP 5 [] (mc 0 U I) ?_
 refine cw (t:=7) U (bf fun C=>?_) (bc fun C=>?_)
 ·refine rP 13 [] I ?_
  refine RK A<|ay<|Q1 hQ U U U ?_
  simp only [ni]
  exact cB (eV om).symm
 refine rP 6 [] (mc 0 U I) ?_
 refine cw (t:=13) U (bf fun D=>?_) (bc fun D=>?_)
 ·refine rP 7 [] I ?_
  refine RK A<|ay<|Q1 hQ U U U ?_
  simp only [ni]
  exact cB (eV om).symm
 refine rP 7 [] (mc 0 U I) ?_
 refine RK A<|ay<|Q1 hQ U U U ?_
 simp only [ni]
 exact cB (gM.2 om)
theorem ME (d:aq) (sgA:OA) (sgC:Nat):
 c_ Tryz.prog 237 [(vA (aJ.cells (aJ.mk d.Out d.cZ d.Time (iv d.ba sgA sgC))))] [(rd sgA d.ba.aj.length 2 (d.ba.aj.map aG.cells))] (vB d.Out):=by
 refine bq kr Tryz.func237 U U fun D Q hQ hN=>?_
 try dsimp only
 refine WS fun _ A=>e8 U fun C=>br 1 U<|RK A<|WS fun _ B=>rP 3 [] (mc 0 U I) ?_
 refine RK B<|ay<|Q1 hQ U U U ?_
 rfl
theorem Ln (d:aq) (sgA:OA) (sgC:Nat):
 c_ Tryz.prog 240 [(vA (aJ.cells (aJ.mk d.Out d.cZ d.Time (iv d.ba sgA sgC))))] [(rd sgA d.ba.aj.length 2 (d.ba.aj.map aG.cells))] (vB d.cZ):=by
 refine bq kr Tryz.func240 U U fun D Q hQ hN=>?_
 try dsimp only
 refine WS fun _ A=>e8 U fun C=>br 1 U<|RK A<|WS fun _ B=>rP 3 [] (mc 0 U I) ?_
 refine RK B<|ay<|Q1 hQ U U U ?_
 rfl
theorem KM (d:aq) (sgA:OA) (sgC:Nat):
 c_ Tryz.prog 243 [(vA (aJ.cells (aJ.mk d.Out d.cZ d.Time (iv d.ba sgA sgC))))] [(rd sgA d.ba.aj.length 2 (d.ba.aj.map aG.cells))] (vB true):=by
 refine bq kr Tryz.func243 U U fun D Q hQ hN=>?_
 try dsimp only
 refine WS fun _ A=>e8 U fun C=>br 1 U<|RK A<|WS fun _ B=>rP 1 [] I ?_
 refine RK B<|ay<|Q1 hQ U U U ?_
 rfl
end
section
open Go.RowKit
theorem EZ (n lo hi:Int) (g1 g2:Nat):
 c_ Tryz.prog 164 [(vI n),(vP g1),(vP g2)] [(bU g1 3 [(vI lo)]),(bU g2 3 [(vI hi)])] (vB (decide (n<lo∨hi<n))):=by
 refine bq kr Tryz.func164 U U fun D Q hQ hN=>?_
 try dsimp only
 refine WS fun _ B=>br 1 U<|RK B<|WS fun _ A=>rP 4 [] (mr 0 U I) ?_
 refine cE (t:=8) U (bc fun C=>?_) (bf fun C=>?_)
 ·refine rP 5 [] I ?_
  refine RK A<|ay<|Q1 hQ U U U ?_
  exact cB (gX om).symm
 refine rP 5 [] (mr 1 U I) ?_
 refine RK A<|ay<|Q1 hQ U U U ?_
 exact cB (gM.2 om)
theorem fB (lo hi:Int) (l:List Int) (lA:OA) (lC:Nat) (hlen:l.length≤1000000):
 c_ Tryz.prog 133 [(vI lo),(vI hi),(vS lA l.length lC)] [(rd lA l.length 1 (l.map iC))] (vB (l_ lo hi l)):=by
 refine bq kr Tryz.func133 U U fun F Q hQ hN=>?_
 try dsimp only
 refine WS fun _ D=>rJ U U fun A=>rJ U U fun B=>br 1 U<|RK D<|WS fun _ E=>rP 1 [] I ?_
 refine rS (FU U) ?_
 refine rS (CL (mX l lA lC (Value.func (.func 164) [].toArray [(vP A),(vP B)].toArray) (fun C=>(decide (C<lo∨hi<C))) (dw [(bU A 3 [(vI lo)]),(bU B 3 [(vI hi)])]) (by intro C _; exact jd (fi:=[]) (ca:=[(vP A),(vP B)]) (ib (EZ C lo hi A B) (aY [0,1]))) hlen) (dN 2 U U<|ai (ij (aY [1,0]))<|aH) U) ?_
 refine rP 2 [] I ?_
 refine RK E<|ay ?_
 exact Q1 hQ U U U U
theorem NV (n d:Int) (hd:2≤d):
 c_ Tryz.prog 166 [(vI n),(vI d)] [] (vI (Mm n d)):=by
 refine bq kr Tryz.func166 U U fun C Q hQ hN=>?_
 try dsimp only
 refine WS fun _ A=>br 1 U<|RK A<|WS fun _ B=>br 2 U<|rS (BI U IL)<|rS (BI U Dy)<|br 1 U<|rS (BI U (Jd om (I2 (Mr _) hd)))<|rP 1 [] I ?_
 refine RK B<|ay ?_
 exact Q1 hQ U U U U
theorem EI (n d:Int) (hd:1≤d∧d≤1000000) (hn:0≤n∧n≤1000000000000000):
 c_ Tryz.prog 166 [(vI n),(vI d)] [] (vI (tw n d)):=by
 refine bq kr Tryz.func166 U U fun C Q hQ hN=>?_
 try dsimp only
 refine WS fun _ A=>br 1 U<|RK A<|WS fun _ B=>br 5 U<|rS (BI U (zE om om om))<|rP 1 [] I ?_
 refine RK B<|ay ?_
 exact Q1 hQ U U U U
theorem Ag (c:aB) (sA:OA) (sC:Nat) (at_:Int) (hc:eU c) (ha:0≤at_∧at_≤90000000):
 c_ Tryz.prog 208 [(vA (dV.cells (dV.mk c.eC (bj.mk sA c.bO.length sC)))),(vI at_)] [(rd sA c.bO.length 3 (c.bO.map cV.cells))] (vA (ab.cells (g5 c at_))):=by
 have X:=hc.len
 have J:=hc.ui
 refine bq kr Tryz.func208 U U fun e Q hQ hN=>?_
 try dsimp only
 refine WS fun _ M=>e8 U fun b=>AL U eI fun d=>RK M<|WS fun _ N=>rS (SX (aZ (xs:=[(0,.const (vI (-1099511627776))),(1,.const (vI 1099511627776))]) (cs:=(ab.cells (ab.mk (-1099511627776) 1099511627776))) U U (a_ jr U)) U U)<|AL U eI fun W=>fF U dC U<|RK N<|aw fun _ O=>aw fun _ P=>?_
 have R:(ab.cells (ab.mk (-1099511627776) 1099511627776))=(ab.cells (e9 c at_ 0)):=by rfl
 rw [R]
 refine aF<|rP 4 [] (mc 2 U I) ?_
 refine RK P<|aL ?_
 have A:(0≤c.bO.length):=by exact Nat.zero_le _
 refine cq (ι:={z:Nat // (z≤c.bO.length)}) [1,2,4,5,11,12] [1,2,3] U U (fun z=>[(13,(vI (z.1:Int)))]) (fun z=>[(bU W 38 (ab.cells (e9 c at_ z.1)))]) (fun _=>rfl) (fun _=>rfl) (fun z=>c.bO.length-z.1) ⟨0,A⟩ (bw U) (aS [1,2,3,0]) ?_
 clear A
 rintro ⟨i,S⟩ J9 L
 try dsimp only
 refine WS fun _ B=>rP 1 [] I ?_
 refine RK B<|aw fun _ C=>cP U (bf fun K=>?_) (bc fun K=>?_)
 ·refine bV<|ao<|ao<|aM<|KK O<|WS fun _ G=>rP 1 [] (mc 3 U I) ?_
  refine fF U dC U<|RK G<|ay<|yx hQ [0] (mc 0 U I) U ?_
  rw [mZ (show c.bO.length≤i by omega)]
 refine WK C<|aw fun _ D=>aL<|WS fun _ E=>?_
 obtain ⟨x,hx⟩:=aO c.bO i om
 have AA:=cD cV.cells hx
 refine rS (IA i U (aQ 2 U) tJ dc om om)<|rS (nz i 0 (cV.cells x) U ct (aQ 2 U) AA U dc U U)<|AL U AH fun V=>fF U FB U<|RK E<|WS fun _ F=>rP 5 [0,1] (mc 2 U (mc 0 U I)) ?_
 have T:=hc.uR hx
 have Z:=xb hc ha i
 have Y:=zV J ha (show 0≤x.At∧x.At≤90000000 by omega)
 refine gO 5 [] (mc 0 U I) U<|rS (MX U)<|rS (BI U (s4 ⟨om,om⟩))<|rS (CL (EI (c.eC*(max (at_-x.At) (x.At-at_))) 1000000 om om) (aH) U)<|br 1 U<|RK F<|aF<|rP 6 [0,1] (mc 4 U (mc 0 U I)) ?_
 have a:0≤tw (c.eC*max (at_-x.At) (x.At-at_)) 1000000∧tw (c.eC*max (at_-x.At) (x.At-at_)) 1000000≤90001:=uT J ha T.1
 refine br 1 U<|rS (MX U)<|rP 7 [0,1] (mc 4 U (mc 0 U I)) ?_
 refine rS (MN U)<|rS (SX (aZ (xs:=[(0,.tmp 37),(1,.tmp 45)]) (cs:=(ab.cells (ab.mk (max ((e9 c at_ i).Lo) (x.fj.Lo-(tw (c.eC*(max (at_-x.At) (x.At-at_))) 1000000))) (min ((e9 c at_ i).Hi) (x.fj.Hi+(tw (c.eC*(max (at_-x.At) (x.At-at_))) 1000000)))))) U U (a_ jr U)) U U)<|M3 U dC U<|aK<|aW<|KK D ?_
 have H:(ab.cells (ab.mk (max ((e9 c at_ i).Lo) (x.fj.Lo-(tw (c.eC*(max (at_-x.At) (x.At-at_))) 1000000))) (min ((e9 c at_ i).Hi) (x.fj.Hi+(tw (c.eC*(max (at_-x.At) (x.At-at_))) 1000000)))))=(ab.cells (e9 c at_ (i+1))):=by rw [j1 hx]; rfl
 rw [H]
 refine aF<|rP 2 [] I ?_
 refine aK ?_
 have AB:(vI (((i+1):Nat):Int))=(vI ((i:Int)+1)):=by exact cI om
 refine bu (L ⟨(i+1),(by first|omega|(simp only []; omega))⟩ _ _ _ U os (c0 6<|bJ U AB<|eb.nil _) (aS [1,2,3,4]))
theorem IQ (c:aB) (sA:OA) (sC:Nat) (hlen:c.bO.length≤1000000) (hcap:c.bO.length≤sC):
 c_ Tryz.prog 137 [(vA (dV.cells (dV.mk c.eC (bj.mk sA c.bO.length sC))))] [(rd sA c.bO.length 3 (c.bO.map cV.cells))] (vB (decide (eU c))):=by
 refine bq kr Tryz.func137 U U fun w0 Q hQ hN=>?_
 try dsimp only
 refine WS fun _ B3=>e8 U fun b2=>br 1 U<|RK B3<|u0 U<|aw fun _ B8=>WS fun _ q=>rP 2 [] (mc 0 U I) ?_
 refine dr (xs:=[.tmp 11]) (cs:=[(vI c.eC)]) U de iy U U U U (by simp [Value.cells]) U U fun b5=>?_
 refine rS (CL (c_.eq (fB 0 1000 ([c.eC]) (some ⟨b5,0,none⟩) 1 (by (simp; done))) bL) (ai (aT 0 U U (by simp [bp]) U)<|aH) U) ?_
 refine rP 2 [] I ?_
 refine cE (t:=15) U (bI fun AB=>?_) (bH fun AB=>?_)
 ·refine br 7 U<|RK q<|bo U<|WS fun _ B9=>rP 1 [] I ?_
  refine RK B9<|ay<|Q1 hQ U U U ?_
  exact cB (eV fun h=>AB h.ui).symm
 refine rP 3 [] (mc 1 U I) ?_
 refine dr (xs:=[.tmp 18]) (cs:=[(vI (c.bO.length:Int))]) U de iy U U U U (by simp [Value.cells]) U U fun b7=>?_
 refine rS (CL (c_.eq (fB 1 5 ([(c.bO.length:Int)]) (some ⟨b7,0,none⟩) 1 (by (simp; done))) bL) (ai (aT 0 U U (by simp [bp]) U)<|aH) U) ?_
 refine rP 2 [] I ?_
 refine RK q<|cO U (bI fun O=>?_) (bH fun O=>?_)
 ·refine WS fun _ CK=>rP 1 [] I ?_
  refine RK CK<|ay<|Q1 hQ U U U ?_
  exact cB (eV fun h=>O (by have:=h.len; omega)).symm
 refine WK B8<|WS fun _ CV=>br 1 U<|RK CV<|WS fun _ R=>br 1 U<|RK R<|aw fun _ S=>vl<|KK S<|aw fun _ K=>WS fun _ T=>rP 4 [] (mc 2 U I) ?_
 refine RK T<|aL ?_
 have B:(0≤c.bO.length)∧(pc c 0):=by exact ⟨Nat.zero_le _,Bo⟩
 have r:(vI (jx c 0))=(vI (-1)):=by rw [lS rfl]
 refine cq (ι:={z:Nat // (z≤c.bO.length)∧(pc c z)}) [1,2,4,24,25] [2,3] U U (fun z=>[(3,(vI (jx c z.1))),(26,(vI (z.1:Int)))]) (fun z=>[]) (fun _=>rfl) (fun _=>rfl) (fun z=>c.bO.length-z.1) ⟨0,B⟩ (bJ U r<|bw U) (aS [2,3]) ?_
 clear B
 rintro ⟨i,⟨L,C⟩⟩ J15 P
 try dsimp only
 have C2: -1≤jx c i∧jx c i≤86400000:=Jk L C
 refine WS fun _ AA=>rP 1 [] I ?_
 refine RK AA<|aw fun _ V=>cP U (bf fun A5=>?_) (bc fun A5=>?_)
 ·refine bV<|ao<|ao<|aM<|KK K<|WS fun _ f=>rP 2 [] I ?_
  refine RK f<|ay<|Q1 hQ U U U ?_
  exact cB (gX (BK AB om (by have e:i=c.bO.length:=om; rw [← e]; exact C))).symm
 refine WK V<|aw fun _ W=>aL<|WS fun _ X=>rP 1 [] I ?_
 obtain ⟨x,hx⟩:=aO c.bO i om
 have Cp:=cD cV.cells hx
 refine rS (IA i U (aQ 1 U) tJ dc om om)<|rS (nz i 0 (cV.cells x) U ct (aQ 1 U) Cp U dc U U)<|AL U AH fun Cu=>rP 1 [] I ?_
 refine fF U FB U<|RK X ?_
 refine p8 (ι:=Unit) [1,2,3,5,6,24,25,26] [0,1,2] U U (fun z=>[(4,(vB (decide (gJ c i x))))]) (fun z=>[]) (fun _=>rfl) (fun _=>rfl) ?_ fun K22 G=>?_
 ·intro _
  try dsimp only
  refine aw fun _ Y=>WS fun _ Z=>gO 3 [] (mc 1 U I) U<|rS (OF i U tJ om om)<|rP 2 [] I ?_
  refine RK Z<|aL ?_
  have B:(0≤i)∧((decide (gJ c i x))=(decide (j0 c i x 0))):=by exact ⟨Nat.zero_le _,gM.2 yW.symm⟩
  refine cq (ι:={z:Nat×Bool // (z.1≤i)∧(z.2=(decide (j0 c i x z.1)))}) [1,2,3,5,6,24,25,26,59,60] [0,1,2] U U (fun z=>[(4,(vB z.1.2)),(61,(vI (z.1.1:Int)))]) (fun z=>[]) (fun _=>rfl) (fun _=>rfl) (fun z=>i-z.1.1) ⟨(0,(decide (gJ c i x))),B⟩ (bw U) (aS [0,1,2]) ?_
  clear B
  rintro ⟨⟨k,b⟩,⟨M,A⟩⟩ J25 F
  try dsimp only at M A
  try dsimp only
  refine WS fun _ a=>rP 1 [] I ?_
  refine RK a<|aw fun _ d=>cP U (bf fun A7=>?_) (bc fun A7=>?_)
  ·refine bV<|ao<|ao<|aM<|KK Y<|aw fun _ m=>WS fun _ n=>rP 2 [] I ?_
   refine RK n<|cO U (fun D=>?_) (fun D=>?_)
   ·rw [Bool.not_eq_true'] at D
    refine bV<|ao<|dM U<|ao<|ao<|aM<|KK K<|WS fun _ p=>rP 2 [] I ?_
    refine RK p<|ay<|Q1 hQ U U U ?_
    exact cB (by have e:k=i:=om; rw [e] at A; rw [D] at A ⊢; exact (eV (Db hx (of_decide_eq_false A.symm))).symm)
   rw [Bool.not_eq_false'] at D
   refine WK m<|aF<|gO 3 [] (mc 0 U I) U<|aK<|aW<|KK W<|aF<|rP 2 [] I ?_
   refine aK ?_
   have AP:(vB true)=(vB b):=by exact cB D.symm
   have A0:(vI (jx c (i+1)))=(vI x.At):=by rw [lI hx]
   have A1:(vI (((i+1):Nat):Int))=(vI ((i:Int)+1)):=by exact cI om
   refine bu (P ⟨(i+1),⟨om,Cf C hx (by have e:k=i:=om; rw [e] at A; exact of_decide_eq_true (A.symm.trans D))⟩⟩ _ _ _ U os (eb.cons U<|eb.cons U<|bJ U AP<|eb.cons U<|eb.cons U<|bJ U A0<|bJ U A1<|eb.nil _) (aS [1,2]))
  refine WK d<|aw fun _ H=>aL<|WS fun _ g=>?_
  obtain ⟨o,ho⟩:=aO c.bO k om
  have Ci:=cD cV.cells ho
  refine rS (OC k U (aQ 2 U) tJ dc om om om)<|rS (nz k 0 (cV.cells o) U ct (aQ 2 U) Ci U dc U U)<|AL U AH fun Cx=>fF U FB U<|RK g<|WS fun _ l=>gO 6 [0,1,2] (mc 2 U (mc 1 U (mc 0 U I))) U<|rS (BI U Dy)<|rS (BI U II)<|rS (CL (NV (vX (c.eC*(vX (x.At-o.At)))) 1000000 om) (aH) U)<|br 1 U<|RK l<|aF<|rP 2 [] I ?_
  refine cw (t:=75) U (fun J=>?_) (fun J=>?_)
  ·refine br 6 U<|br 16 U<|aK<|aW<|KK H<|aF<|rP 2 [] I ?_
   refine aK ?_
   have AO:(vI (((k+1):Nat):Int))=(vI ((k:Int)+1)):=by exact cI om
   refine bu (F ⟨((k+1),false),⟨om,by exact (eV fun h=>by have h2:=((o0 ho).1 h).1; rw [A] at J; exact absurd (gX h2) (by rw [J]; decide)).symm⟩⟩ _ _ _ U os (c0 11<|bJ U AO<|eb.nil _) (aS [1,2,3]))
  refine rP 6 [0,1] (mc 1 U (mc 0 U I)) ?_
  have A2:j0 c i x k:=of_decide_eq_true (A.symm.trans J)
  obtain ⟨Ck,C3,Di⟩:=By (fun j y hj hy=>(C j y hj hy).1) hx A2.1 om ho
  have N:=Gi AB Ck
  refine rP 5 [] I ?_
  refine cw (t:=86) U (bf fun E=>?_) (bc fun E=>?_)
  ·refine br 11 U<|aK<|aW<|KK H<|aF<|rP 2 [] I ?_
   refine aK ?_
   have AC:(vI (((k+1):Nat):Int))=(vI ((k:Int)+1)):=by exact cI om
   refine bu (F ⟨((k+1),false),⟨om,by exact (eV fun h=>by have h2:=((o0 ho).1 h).2; rw [N] at E; exact E h2.1).symm⟩⟩ _ _ _ U os (c0 11<|bJ U AC<|eb.nil _) (aS [1,2,3]))
  refine gO 11 [0,1] (mc 0 U (mc 1 U I)) U<|aK<|aW<|KK H<|aF<|rP 2 [] I ?_
  refine aK ?_
  have w:(vI (((k+1):Nat):Int))=(vI ((k:Int)+1)):=by exact cI om
  refine bu (F ⟨((k+1),(decide ((o.fj.Lo-x.fj.Hi)≤(Mm (vX (c.eC*(vX (x.At-o.At)))) 1000000)))),⟨om,by exact gM.2 (by rw [o0 ho,N]; rw [N] at E; exact ⟨fun h=>⟨A2,E,h⟩,fun h=>h.2.2⟩)⟩⟩ _ _ _ U os (c0 11<|bJ U w<|eb.nil _) (aS [1,2,3]))
 refine aF<|rP 4 [] (mc 0 U I) ?_
 refine dr (xs:=[.tmp 34]) (cs:=[(vI x.At)]) U de iy U U U U (by simp [Value.cells]) U U fun A3=>?_
 refine rS (CL (c_.eq (fB ((jx c i)+1) 86400000 ([x.At]) (some ⟨A3,0,none⟩) 1 (by (simp; done))) bL) (ai (aT 0 U U (by simp [bp]) U)<|aH) U) ?_
 refine rP 1 [] I ?_
 refine cw (t:=37) U (bf fun A8=>?_) (bc fun A8=>?_)
 ·refine rP 19 [] I ?_
  refine aK ?_
  have v:(decide (gJ c i x))=false:=eV (by unfold gJ; omega)
  refine bu (jL (c0 8<|lf U v<|eb.nil _) (aS [1,2,3]) (G ()))
 refine rP 6 [] (mc 1 U I) ?_
 refine dr (xs:=[.tmp 40,.tmp 43]) (cs:=[(vI x.fj.Lo),(vI x.fj.Hi)]) U de iy U U U U (by simp [Value.cells]) U U fun A4=>?_
 refine rS (CL (c_.eq (fB (-10000) 10000 ([x.fj.Lo,x.fj.Hi]) (some ⟨A4,0,none⟩) 2 (by (simp; done))) mm) (ai (aT 0 U U (by simp [bp]) U)<|aH) U) ?_
 refine rP 2 [] I ?_
 refine cw (t:=47) U (bf fun A9=>?_) (bc fun A9=>?_)
 ·refine rP 9 [] I ?_
  refine aK ?_
  have u:(decide (gJ c i x))=false:=eV (by unfold gJ; omega)
  refine bu (jL (c0 8<|lf U u<|eb.nil _) (aS [2,3,4]) (G ()))
 refine rP 9 [] (mc 2 U I) ?_
 refine aK ?_
 have s:(decide (gJ c i x))=(decide (x.fj.Lo≤x.fj.Hi)):=gM.2 (by unfold gJ; omega)
 refine bu (jL (c0 8<|lf U s<|eb.nil _) (aS [2,3,4]) (G ()))
theorem MH (ms:List aB) (az:List RA) (k:Nat) (m:aB) (a:RA) (hm:ms[k]? =some m) (ha:az[k]? =some a) (hc:m.bO.length≤a.2∧m.bO.length≤1000000):
 c_ Tryz.prog 136 [(vA (dV.cells (dV.mk m.eC (bj.mk a.1 m.bO.length a.2))))] [(dw (aX aB.gQ ms az))] (vB (!(decide (eU m)))):=by
 obtain ⟨C,D⟩:=hc
 refine bq kr Tryz.func136 U U fun F Q hQ hN=>?_
 try dsimp only
 refine WS fun _ A=>e8 U fun E=>br 1 U<|RK A<|WS fun _ B=>gO 1 [] (mc 0 U I) U<|rS (CL (IQ m a.1 a.2 asm asm) (ai (show iE _ (rd a.1 m.bO.length 3 (m.bO.map cV.cells)).holds from (cY 1 U (bM hm ha (by simp [aB.gQ]))))<|aH) U)<|rP 2 [] I ?_
 refine RK B<|ay ?_
 exact Q1 hQ U U U U
theorem Cv (l:List aB) (az:List RA) (lA:OA) (lC:Nat) (f:Value) (p:aB→Bool) (X:au) (hf: ∀ (k:Nat) m a,l[k]? =some m→az[k]? =some a→yd Tryz.prog f [.agg (aB.cells m a).toArray] [X] (.bool (p m))) (hlen:l.length≤1000000) (has:az.length=l.length):
 c_ Tryz.prog 165 [(vS lA l.length lC),f] [(rd lA l.length 2 (List.zipWith aB.cells l az)),(dw (aX aB.gQ l az)),X] (vI (oQ p l)):=by
 refine bq kr Tryz.func165 U U fun T Q hQ hN=>?_
 try dsimp only
 refine WS fun _ AA=>br 1 U<|RK AA<|aw fun _ J=>WS fun _ K=>rP 3 [] I ?_
 refine RK K<|aL ?_
 have B:(0≤l.length)∧((l.take 0).any p=false):=by simp
 refine cq (ι:={z:Nat // (z≤l.length)∧((l.take z).any p=false)}) [0,1,7] [0,1,2] U U (fun z=>[(8,(vI (z.1:Int)))]) (fun z=>[]) (fun _=>rfl) (fun _=>rfl) (fun z=>l.length-z.1) ⟨0,B⟩ (bw U) (aS [0,1,2]) ?_
 clear B
 rintro ⟨i,⟨P,A⟩⟩ J4 H
 try dsimp only
 refine WS fun _ L=>rP 1 [] I ?_
 refine RK L<|aw fun _ M=>cP U (bf fun S=>?_) (bc fun S=>?_)
 ·refine bV<|ao<|ao<|aM<|KK J<|WS fun _ E=>rP 1 [] I ?_
  refine RK E<|ay<|Q1 hQ U U U ?_
  exact cI (mI om A).symm
 refine WK M<|aw fun _ N=>aL<|WS fun _ O=>br 2 U<|RK O<|WS fun _ C=>rP 3 [] I ?_
 obtain ⟨x,hx⟩:=aO l i om
 obtain ⟨xa,G⟩:=aO az i om
 have R:(List.zipWith aB.cells l az)[i]? =some (aB.cells x xa):=dj hx G
 refine rS (IA i U (aQ 0 U) BN dc om om)<|rS (nz i 0 (dV.cells (dV.mk x.eC (bj.mk xa.1 x.bO.length xa.2))) U ct (aQ 0 U) R U dc U U)<|rS (SX (mQ U U U (hf i x xa hx G) (aY [2])) U U)<|RK C<|cO U (fun hp=>?_) (fun hp=>?_)
 ·refine WS fun _ D=>rP 2 [] I ?_
  refine RK D<|ay<|Q1 hQ U U U ?_
  exact cI (pV hx hp A).symm
 refine cT<|aW<|KK N<|aF<|rP 2 [] I ?_
 refine aK ?_
 have F:(vI (((i+1):Nat):Int))=(vI ((i:Int)+1)):=by exact cI om
 refine bu (H ⟨(i+1),⟨om,pM hx A hp⟩⟩ _ _ _ U os (c0 3<|bJ U F<|eb.nil _) (aS [0,1,2]))
theorem vz (l:List aB) (az:List RA) (lA:OA) (lC:Nat) (f:Value) (p:aB→Bool) (X:au) (hf: ∀ (k:Nat) m a,l[k]? =some m→az[k]? =some a→yd Tryz.prog f [.agg (aB.cells m a).toArray] [X] (.bool (p m))) (hlen:l.length≤1000000) (has:az.length=l.length):
 c_ Tryz.prog 135 [(vS lA l.length lC),f] [(rd lA l.length 2 (List.zipWith aB.cells l az)),(dw (aX aB.gQ l az)),X] (vB (l.any p)):=by
 refine bq kr Tryz.func135 U U fun C Q hQ hN=>?_
 try dsimp only
 refine WS fun _ A=>br 1 U<|RK A<|WS fun _ B=>br 2 U<|rS (CL (Cv l az lA lC f p X (by exact hf) hlen has) (JD 0 1 2 U U U U U U) U)<|rP 2 [] I ?_
 refine RK B<|ay<|Q1 hQ U U U ?_
 exact cB ov
theorem Ct (l:List bD) (lA:OA) (lC:Nat) (f:Value) (p:bD→Bool) (X:au) (hf: ∀ x0,x0∈l→yd Tryz.prog f [.agg (bD.cells x0).toArray] [X] (.bool (p x0))) (hlen:l.length≤1000000):
 c_ Tryz.prog 167 [(vS lA l.length lC),f] [(rd lA l.length 4 (l.map bD.cells)),X] (vI (oQ p l)):=by
 refine bq kr Tryz.func167 U U fun S Q hQ hN=>?_
 try dsimp only
 refine WS fun _ H=>br 1 U<|RK H<|aw fun _ AA=>WS fun _ J=>rP 3 [] I ?_
 refine RK J<|aL ?_
 have B:(0≤l.length)∧((l.take 0).any p=false):=by simp
 refine cq (ι:={z:Nat // (z≤l.length)∧((l.take z).any p=false)}) [0,1,7] [0,1] U U (fun z=>[(8,(vI (z.1:Int)))]) (fun z=>[]) (fun _=>rfl) (fun _=>rfl) (fun z=>l.length-z.1) ⟨0,B⟩ (bw U) (aS [0,1]) ?_
 clear B
 rintro ⟨i,⟨O,A⟩⟩ J4 G
 try dsimp only
 refine WS fun _ K=>rP 1 [] I ?_
 refine RK K<|aw fun _ L=>cP U (bf fun R=>?_) (bc fun R=>?_)
 ·refine bV<|ao<|ao<|aM<|KK AA<|WS fun _ E=>rP 1 [] I ?_
  refine RK E<|ay<|Q1 hQ U U U ?_
  exact cI (mI om A).symm
 refine WK L<|aw fun _ M=>aL<|WS fun _ N=>br 2 U<|RK N<|WS fun _ C=>rP 3 [] I ?_
 obtain ⟨x,hx⟩:=aO l i om
 have P:=cD bD.cells hx
 refine rS (IA i U (aQ 0 U) B7 dc om om)<|rS (nz i 0 (bD.cells x) U ct (aQ 0 U) P U dc U U)<|rS (SX (mQ U U U (hf x (aP hx)) (aY [1])) U U)<|RK C<|cO U (fun hp=>?_) (fun hp=>?_)
 ·refine WS fun _ D=>rP 2 [] I ?_
  refine RK D<|ay<|Q1 hQ U U U ?_
  exact cI (pV hx hp A).symm
 refine cT<|aW<|KK M<|aF<|rP 2 [] I ?_
 refine aK ?_
 have F:(vI (((i+1):Nat):Int))=(vI ((i:Int)+1)):=by exact cI om
 refine bu (G ⟨(i+1),⟨om,pM hx A hp⟩⟩ _ _ _ U os (c0 3<|bJ U F<|eb.nil _) (aS [0,1]))
theorem vU (l:List bD) (lA:OA) (lC:Nat) (f:Value) (p:bD→Bool) (X:au) (hf: ∀ x0,x0∈l→yd Tryz.prog f [.agg (bD.cells x0).toArray] [X] (.bool (p x0))) (hlen:l.length≤1000000):
 c_ Tryz.prog 139 [(vS lA l.length lC),f] [(rd lA l.length 4 (l.map bD.cells)),X] (vB (l.any p)):=by
 refine bq kr Tryz.func139 U U fun C Q hQ hN=>?_
 try dsimp only
 refine WS fun _ A=>br 1 U<|RK A<|WS fun _ B=>br 2 U<|rS (CL (Ct l lA lC f p X (by exact hf) hlen) (aY [0,1]) U)<|rP 2 [] I ?_
 refine RK B<|ay<|Q1 hQ U U U ?_
 exact cB ov
end
section
open Go.RowKit
theorem m0 (a:ab) (l:List ab) (lA:OA) (lC:Nat) (ha:lu a) (hl: ∀ z∈l,lu z) (hlen:l.length≤4):
 c_ Tryz.prog 171 [(vA (ab.cells a)),(vS lA l.length lC)] [(rd lA l.length 2 (l.map ab.cells))] (vA (ab.cells (iU a l))):=by
 refine bq kr Tryz.func171 U U fun AA Q hQ hN=>?_
 try dsimp only
 refine WS fun _ AB=>e8 U fun R=>AL U eI fun T=>RK AB<|aw fun _ J=>WS fun _ K=>rP 3 [] I ?_
 refine RK K<|aL ?_
 have A:(0≤l.length):=by exact Nat.zero_le _
 refine cq (ι:={z:Nat // (z≤l.length)}) [2,4,7,8] [0,2] U U (fun z=>[(9,(vI (z.1:Int)))]) (fun z=>[(bU R 38 (ab.cells (iU a (l.take z.1))))]) (fun _=>rfl) (fun _=>rfl) (fun z=>l.length-z.1) ⟨0,A⟩ (bw U) (aS [0,2,1]) ?_
 clear A
 rintro ⟨i,N⟩ J6 H
 try dsimp only
 refine WS fun _ L=>rP 1 [] I ?_
 refine RK L<|aw fun _ M=>cP U (bf fun S=>?_) (bc fun S=>?_)
 ·refine bV<|ao<|ao<|aM<|KK J<|aw fun _ D=>?_
  have G:(ab.cells (iU a (l.take i)))=(ab.cells (iU a l)):=by rw [Eo om]
  rw [G]
  refine aF<|rP 1 [] (mc 2 U I) ?_
  refine fF U dC U<|RK D<|ay ?_
  exact yx hQ [0] (mc 0 U I) U U
 refine WK M<|aw fun _ B=>aL<|WS fun _ C=>?_
 obtain ⟨x,hx⟩:=aO l i om
 have O:=cD ab.cells hx
 refine rS (IA i U (aQ 1 U) nt dc om om)<|rS (nz i 0 (ab.cells x) U ct (aQ 1 U) O U dc U U)<|AL U eI fun P=>fF U dC U<|RK C<|aF ?_
 have hb:=Jc ha hl i
 have hz:=hl x (aP hx)
 unfold lu at hz
 refine rP 10 [0,1,0,1] (mc 3 U (mc 0 U I)) ?_
 refine rS (SX (aZ (xs:=[(0,.tmp 17),(1,.tmp 22)]) (cs:=(ab.cells (ab.mk (((iU a (l.take i)).Lo)+x.Lo) (((iU a (l.take i)).Hi)+x.Hi)))) U U (a_ jr U)) U U)<|Oc U dC U<|aK<|aW<|KK B ?_
 have E:(ab.cells (ab.mk (((iU a (l.take i)).Lo)+x.Lo) (((iU a (l.take i)).Hi)+x.Hi)))=(ab.cells (iU a (l.take (i+1)))):=by rw [uI hx]; rfl
 rw [E]
 refine aF<|rP 2 [] I ?_
 refine aK ?_
 have F:(vI ((i+1):Int))=(vI ((i:Int)+1)):=by exact cI om
 refine bu (H ⟨(i+1),(by first|omega|(simp only []; omega))⟩ _ _ _ U os (c0 4<|bJ U F<|eb.nil _) (aS [1,2,3]))
theorem z9 (ts:List av) (tsA:OA) (tsC:Nat) (hlen:ts.length≤1000000) (hside: ∀ x∈ts,0≤x.jJ∧x.jJ≤255):
 c_ Tryz.prog 168 [(vA (bS.cells (bS.mk (bj.mk tsA ts.length tsC))))] [(rd tsA ts.length 9 (ts.map av.cells))] (vT [(vA (dm.cells (dm.mk (bS.mk (bj.mk tsA ts.length tsC))))),(vI (if cQ ts=true then 0 else 10))]):=by
 refine bq kr Tryz.func168 U U fun E Q hQ hN=>?_
 try dsimp only
 refine WS fun _ A=>e8 U fun C=>AL U ET fun D=>br 1 U<|RK A<|aw fun _ B=>dh cu 4 kr<|mW 1 [] (mc 1 U I) U<|dS (SX (aZ (xs:=[(0,.tmp 4)]) (cs:=(dm.cells (dm.mk (bS.mk (bj.mk tsA ts.length tsC))))) U U (a_ KR U)) U U)<|mW 1 [] (mc 1 U I) U<|dS (CL (wC ts tsA tsC hlen hside) (aY [2]) U)<|du<|fF U Dt U<|rP 1 [] I ?_
 refine RK B<|ay ?_
 exact qA hQ [0] (mc 0 U I) U U
theorem G_ (f:Int) (tsA:OA) (tsN tsC:Nat):
 lX Tryz.prog 198 [(vA (dm.cells (dm.mk (bS.mk (bj.mk tsA tsN tsC))))),(vI f)] [] (fun (x:Nat×Nat)=>(Value.func (.func 216) [].toArray [(Value.pointer (some ⟨x.1,0,none⟩)),(Value.pointer (some ⟨x.2,0,none⟩))].toArray)) (fun (x:Nat×Nat)=>True) (fun (x:Nat×Nat)=>[(bU x.1 3 [(vI f)]),(bU x.2 251 (dm.cells (dm.mk (bS.mk (bj.mk tsA tsN tsC)))))]):=by
 refine dI kr Tryz.func198 U U fun E Q hQ hN=>?_
 try dsimp only
 refine WS fun _ A=>e8 U fun C=>rJ U U fun D=>br 1 U<|RK A<|WS fun _ B=>rS (FU U)<|rP 1 [] I ?_
 refine RK B<|ay<|LX hQ (D,C) [0,1] [] I U U U U ?_
 trivial
theorem B1 (ts:List av) (tsA:OA) (tsC:Nat) (f:Int) (g1 g2:Nat) (hst: ∀ x∈ts,cL x) (hlen:ts.length≤12) (hf:0≤f∧f≤ts.length):
 GC Tryz.prog 216 [] [(vP g1),(vP g2)] [(rd tsA ts.length 9 (ts.map av.cells)),(bU g1 3 [(vI f)]),(bU g2 251 (dm.cells (dm.mk (bS.mk (bj.mk tsA ts.length tsC)))))] (pY ts f.toNat):=by
 refine An kr Tryz.func216 U U fun l J Z A0 p Q hY g d hQ hN=>?_
 try dsimp only
 refine WS fun _ h=>AL U eI fun n=>AL U eI fun o=>RK h<|WS fun _ i=>rP 2 [] (mr 4 U I) ?_
 refine RK i<|aL ?_
 have P:(0≤ts.length-f.toNat)∧(J 0 A0)∧(Fo A0 p A0):=by exact ⟨Nat.zero_le _,g,d⟩
 have m:(vI (f+(0:Int)))=(vI f):=by exact cI om
 refine cq (ι:={z:Nat×au // (z.1≤ts.length-f.toNat)∧(J z.1 z.2)∧(Fo A0 p z.2)}) [0,1,2,4,5] [3,4,5] U U (fun z=>[(6,(vI (f+(z.1.1:Int))))]) (fun z=>[(bU o 38 (ab.cells (fK ts f.toNat z.1.1))),(bU n 38 (ab.cells (eG ts f.toNat z.1.1))),z.1.2]) (fun _=>rfl) (fun _=>rfl) (fun z=>ts.length-f.toNat-z.1.1) ⟨(0,A0),P⟩ (bJ U m<|eb.nil _) (aS [3,4,5,0,1,2]) ?_
 clear P
 rintro ⟨⟨k,A⟩,⟨W,R,S⟩⟩ J6 V
 try dsimp only at W R S
 try dsimp only
 refine aw fun _ j=>WS fun _ X=>rP 3 [0,1] (mc 4 U (mc 3 U I)) ?_
 refine Al 5 hY R S U U U (ub om) U U (fun B9 C B=>?_) (fun B9 C B=>?_)
 rotate_left 1
 ·refine rP 8 [] I ?_
  refine RK X<|bT U<|bV<|ao<|ao<|aM ?_
  refine hN _ _ _ (ig (vs:=[]) trivial fun w hs=>Ii 5 U C B hs)
 refine rP 8 [] (mr 2 U I) ?_
 refine RK X<|cP U (bf fun c=>?_) (bc fun c=>?_)
 ·refine bV<|ao<|ao<|aM ?_
  refine hN _ _ _ (ig (vs:=[]) trivial fun w hs=>LZ 5 U (by rw [py]; have e:ts.length-f.toNat+1=k+1:=om; rw [e]; exact C) B hs)
 refine WK j<|aw fun _ M=>aL<|mK cu [0,1,2,3,4,5,6,7,10,11,12,13,14,15,16,17] [8,9,18,19,20,21] [true,false,false,false,false,false,false,false,true,false,false,false,false,false,false,false] [8,9,18] [(rd tsA ts.length 9 (ts.map av.cells)).ro,(bU g1 3 [(vI f)]).ro,(bU g2 251 (dm.cells (dm.mk (bS.mk (bj.mk tsA ts.length tsC))))).ro,B9] [(rd tsA ts.length 9 (ts.map av.cells)).ro,(bU g1 3 [(vI f)]).ro,(bU g2 251 (dm.cells (dm.mk (bS.mk (bj.mk tsA ts.length tsC))))).ro,(bU o 38 (ab.cells (fK ts f.toNat k))),(bU n 38 (ab.cells (eG ts f.toNat k))),B9] kr (aS [0,1,2,5]) (aS [0,1,2,3,4,5])<|fS U (LW 4 U ct U U)<|eS U (FA 0 U fc U)<|eS U (FA 0 U fc U)<|eS U (D_ (vS tsA ts.length tsC) 2 U ct U U)<|eS U (MV U) ?_
 obtain ⟨x,hx⟩:=aO ts (f.toNat+k) om
 have a:=cD av.cells hx
 refine eS U (IA (f.toNat+k) U (aQ 0 U) Bq dc om om) ?_
 have L:=hst x (aP hx)
 refine eS U (x9 (((f.toNat+k)*9)+1) U (aQ 0 U) (Nat.mul_pos om dc) fc U)<|eS U (nz (f.toNat+k) 1 (ab.cells x.mA) U ct (aQ 0 U) a U dc U U)<|fS U (LW 3 U ct U U)<|eS U (FA 0 U fc U)<|eS U (FA 0 U fc U)<|eS U (D_ (vS tsA ts.length tsC) 2 U ct U U)<|eS U (MV U)<|eS U (IA (f.toNat+k) U (aQ 0 U) Bq dc om om)<|eS U (x9 (((f.toNat+k)*9)+3) U (aQ 0 U) (Nat.mul_pos om dc) fc U)<|eS U (nz (f.toNat+k) 3 (ab.cells x.nZ) U ct (aQ 0 U) a U dc U U)<|er U<|nE [8,18] kr (ja ?_<|ja ?_<|re)
 rotate_left 1
 ·refine qX (rem':=[8,9,19,20,21]) U kr fun T14 N=>dr (xs:=[.tmp 39]) (cs:=(ab.cells x.nZ)) U nt eI U U U U (by simp [Value.cells,ab.aN]) U U fun T=>aK (N _ _ (aS [1,2,3,6]) (aS [1,2,3,4,5,6]) ?_)
  refine N1 8<|qX (rem':=[9,19,20,21]) U kr fun T16 D=>dr (xs:=[.tmp 29]) (cs:=(ab.cells x.mA)) U nt eI U U U U (by simp [Value.cells,ab.aN]) U U fun AA=>aK (D _ _ (aS [2,3,4,7]) (aS [2,3,4,5,6,7]) ?_)
  refine N1 9<|qX (rem':=[19,20,21]) U kr fun T18 O=>?_
  refine rS (CL (c_.eq (m0 (eG ts f.toNat k) ([x.mA]) (some ⟨AA,0,none⟩) 1 (by exact nH hst om) (by intro z hz; simp only [bW] at hz; subst hz; exact qH L) sm) kS) (ai (aT 0 rfl rfl (by simp [ab.aN]) rfl)<|aH) rfl) ?_
  refine aK (O _ _ (aS [2,3,4,7]) (aS [2,3,4,5,6,7]) ?_)
  refine N1 19<|NO U U [20,21] fun T19 E=>?_
  refine rS (CL (c_.eq (m0 (fK ts f.toNat k) ([x.nZ]) (some ⟨T,0,none⟩) 1 (by exact sZ hst om) (by intro z hz; simp only [bW] at hz; subst hz; exact qC L) sm) kS) (ai (aT 1 rfl rfl (by simp [ab.aN]) rfl)<|aH) rfl) ?_
  refine aK (E _ _ (aS [2,3,4,7]) ?_)
  refine N1 20<|NO U U [21] fun T20 F=>Kp U dC U<|aK (F _ _ (aS [2,3,4,7]) ?_)
  refine N1 21<|NO U U [] fun T21 G=>G2 U dC U<|aK (G _ _ (aS [2,3,4,7]) ?_)
  refine nq<|aW<|KK M ?_
  have H:(ab.cells (kW (eG ts f.toNat k) x.mA))=(ab.cells (eG ts f.toNat (k+1))):=by rw [o7 hx]
  rw [H]
  have AB:(ab.cells (kW (fK ts f.toNat k) x.nZ))=(ab.cells (fK ts f.toNat (k+1))):=by rw [oW hx]
  rw [AB]
  refine aF<|rP 3 [] I ?_
  refine aK ?_
  have K:(vI (f+(((k+1):Nat):Int)))=(vI ((f+(k:Int))+1)):=by exact cI om
  refine bu (V ⟨((k+1),B9),⟨om,C,B⟩⟩ _ _ _ U os (c0 5<|bJ U K<|eb.nil _) (aS [2,3,4,5,6,7]))
 refine qX (rem':=[9,18,19,20,21]) U kr fun T14 N=>dr (xs:=[.tmp 29]) (cs:=(ab.cells x.mA)) U nt eI U U U U (by simp [Value.cells,ab.aN]) U U fun T=>aK (N _ _ (aS [1,2,3,6]) (aS [1,2,3,4,5,6]) ?_)
 refine nE [9,18] kr (ja ?_<|ja ?_<|re)
 rotate_left 1
 ·refine qX (rem':=[9,19,20,21]) U kr fun T16 D=>dr (xs:=[.tmp 39]) (cs:=(ab.cells x.nZ)) U nt eI U U U U (by simp [Value.cells,ab.aN]) U U fun AA=>aK (D _ _ (aS [2,3,4,7]) (aS [2,3,4,5,6,7]) ?_)
  refine N1 9<|qX (rem':=[19,20,21]) U kr fun T18 O=>?_
  refine rS (CL (c_.eq (m0 (eG ts f.toNat k) ([x.mA]) (some ⟨T,0,none⟩) 1 (by exact nH hst om) (by intro z hz; simp only [bW] at hz; subst hz; exact qH L) sm) kS) (ai (aT 1 rfl rfl (by simp [ab.aN]) rfl)<|aH) rfl) ?_
  refine aK (O _ _ (aS [2,3,4,7]) (aS [2,3,4,5,6,7]) ?_)
  refine N1 19<|NO U U [20,21] fun T19 E=>?_
  refine rS (CL (c_.eq (m0 (fK ts f.toNat k) ([x.nZ]) (some ⟨AA,0,none⟩) 1 (by exact sZ hst om) (by intro z hz; simp only [bW] at hz; subst hz; exact qC L) sm) kS) (ai (aT 0 rfl rfl (by simp [ab.aN]) rfl)<|aH) rfl) ?_
  refine aK (E _ _ (aS [2,3,4,7]) ?_)
  refine N1 20<|NO U U [21] fun T20 F=>Kp U dC U<|aK (F _ _ (aS [2,3,4,7]) ?_)
  refine N1 21<|NO U U [] fun T21 G=>G2 U dC U<|aK (G _ _ (aS [2,3,4,7]) ?_)
  refine nq<|aW<|KK M ?_
  have H:(ab.cells (kW (eG ts f.toNat k) x.mA))=(ab.cells (eG ts f.toNat (k+1))):=by rw [o7 hx]
  rw [H]
  have AB:(ab.cells (kW (fK ts f.toNat k) x.nZ))=(ab.cells (fK ts f.toNat (k+1))):=by rw [oW hx]
  rw [AB]
  refine aF<|rP 3 [] I ?_
  refine aK ?_
  have K:(vI (f+(((k+1):Nat):Int)))=(vI ((f+(k:Int))+1)):=by exact cI om
  refine bu (V ⟨((k+1),B9),⟨om,C,B⟩⟩ _ _ _ U os (c0 5<|bJ U K<|eb.nil _) (aS [2,3,4,5,6,7]))
 refine qX (rem':=[18,19,20,21]) U kr fun T16 D=>?_
 refine rS (CL (c_.eq (m0 (eG ts f.toNat k) ([x.mA]) (some ⟨T,0,none⟩) 1 (by exact nH hst om) (by intro z hz; simp only [bW] at hz; subst hz; exact qH L) sm) kS) (ai (aT 0 rfl rfl (by simp [ab.aN]) rfl)<|aH) rfl) ?_
 refine aK (D _ _ (aS [1,2,3,6]) (aS [1,2,3,4,5,6]) ?_)
 refine N1 18<|qX (rem':=[19,20,21]) U kr fun T17 Y=>dr (xs:=[.tmp 39]) (cs:=(ab.cells x.nZ)) U nt eI U U U U (by simp [Value.cells,ab.aN]) U U fun b=>aK (Y _ _ (aS [2,3,4,7]) (aS [2,3,4,5,6,7]) ?_)
 refine N1 19<|NO U U [20,21] fun T19 E=>?_
 refine rS (CL (c_.eq (m0 (fK ts f.toNat k) ([x.nZ]) (some ⟨b,0,none⟩) 1 (by exact sZ hst om) (by intro z hz; simp only [bW] at hz; subst hz; exact qC L) sm) kS) (ai (aT 0 rfl rfl (by simp [ab.aN]) rfl)<|aH) rfl) ?_
 refine aK (E _ _ (aS [2,3,4,7]) ?_)
 refine N1 20<|NO U U [21] fun T20 F=>Kp U dC U<|aK (F _ _ (aS [2,3,4,7]) ?_)
 refine N1 21<|NO U U [] fun T21 G=>G2 U dC U<|aK (G _ _ (aS [2,3,4,7]) ?_)
 refine nq<|aW<|KK M ?_
 have H:(ab.cells (kW (eG ts f.toNat k) x.mA))=(ab.cells (eG ts f.toNat (k+1))):=by rw [o7 hx]
 rw [H]
 have AB:(ab.cells (kW (fK ts f.toNat k) x.nZ))=(ab.cells (fK ts f.toNat (k+1))):=by rw [oW hx]
 rw [AB]
 refine aF<|rP 3 [] I ?_
 refine aK ?_
 have K:(vI (f+(((k+1):Nat):Int)))=(vI ((f+(k:Int))+1)):=by exact cI om
 refine bu (V ⟨((k+1),B9),⟨om,C,B⟩⟩ _ _ _ U os (c0 5<|bJ U K<|eb.nil _) (aS [2,3,4,5,6,7]))
theorem Fg (ts:List av) (tsA:OA) (tsC:Nat) (f t:Int) (hst: ∀ x∈ts,cL x) (hlen:ts.length≤12) (hf:0≤f∧f≤t∧t≤ts.length):
 c_ Tryz.prog 170 [(vA (dm.cells (dm.mk (bS.mk (bj.mk tsA ts.length tsC))))),(vI f),(vI t)] [(rd tsA ts.length 9 (ts.map av.cells))] (vT [(vA (ab.cells (eG ts f.toNat (t-f).toNat))),(vA (ab.cells (fK ts f.toNat (t-f).toNat)))]):=by
 refine bq kr Tryz.func170 U U fun w0 Q hQ hN=>?_
 try dsimp only
 refine WS fun _ M=>e8 U fun a=>rJ U U fun b=>rJ U U fun d=>AL U eI fun e=>AL U eI fun g=>RK M<|aw fun _ AA=>WS fun _ V=>rP 2 [0,1] (mc 4 U (mc 3 U I)) ?_
 refine cX (G_ f tsA ts.length tsC) (aH) U fun u n=>?_
 obtain ⟨B,C⟩:=u
 try dsimp only
 refine RK V<|aL<|gN 7 U (by exact fun _ h=>h) ?_
 refine zZ (L0:=[(3,(vP a)),(4,(vP b)),(5,(vP d)),(6,(vP e)),(7,(vP g))]) (F:=[(rd tsA ts.length 9 (ts.map av.cells)).ro,(bU B 3 [(vI f)]),(bU C 251 (dm.cells (dm.mk (bS.mk (bj.mk tsA ts.length tsC)))))]) (xs:=(pY ts f.toNat)) (fun k (y:ab×ab×Int)=>(k≤(t-f).toNat)∧(y.2.2=f+(k:Int))) (fun k y=>[(bU g 38 (ab.cells y.2.1)),(bU e 38 (ab.cells y.1)),(bU d 3 [(vI t)]),(bU b 3 [(vI y.2.2)]),(bU a 251 (dm.cells (dm.mk (bS.mk (bj.mk tsA ts.length tsC))))),(rd tsA ts.length 9 (ts.map av.cells)).ro]) (fun c (z:Unit)=>(c= .exit 0)) (fun _ z=>[(bU g 38 (ab.cells (fK ts f.toNat (t-f).toNat))),(bU e 38 (ab.cells (eG ts f.toNat (t-f).toNat))),(bU d 3 [(vI t)]),(bU b 3 [(vI t)]),(bU a 251 (dm.cells (dm.mk (bS.mk (bj.mk tsA ts.length tsC))))),(rd tsA ts.length 9 (ts.map av.cells)).ro]) [3,4,5,6,7,8] [0,1,2] (dT,dT,f) U U (B1 ts tsA tsC f B C (by first|assumption|omega|(simp; done)) (by first|assumption|omega|(simp; done)) om) U U U (by exact ⟨Nat.zero_le _,sm⟩) (by simp only [List.forall_mem_cons,List.not_mem_nil,false_imp_iff,implies_true,and_true]; exact ⟨⟨_,sm,(dy (bR _))⟩,⟨_,sm,(bR _)⟩,⟨_,sm,(bR _)⟩⟩) (by exact zu) U (bw U) ?_ ?_ ?_ ?_
 rotate_left 1
 ·rintro q ⟨v,z2,m⟩ J
  obtain ⟨A,K⟩:=J
  try dsimp only at A K
  try dsimp only
  exfalso; rw [py] at A; omega
 ·rintro r id _ Y
  have hc:=Y
  cases hc
  try dsimp only
  refine aM<|KK AA<|aw fun _ D=>dE cu [2,3] [] [] [0,1,2,3,4,5,6,7,8,9] [] U U U U U<|eS U (LW 5 U ct U U)<|eS U (LW 4 U ct U U)<|er U<|cb U fun T30 E=>G2 U dC U<|aK (E _ _ (aS [0,1,2,3,4,5,6,7,8,9]) ?_)
  refine cb U fun T31 G=>M3 U dC U<|aK (G _ _ (aS [0,1,2,3,4,5,6,7,8,9]) ?_)
  refine fD U<|KK D<|ay<|hQ _ _ _ (nB 0 U U<|ig (vs:=[(vA (ab.cells (eG ts f.toNat (t-f).toNat))),(vA (ab.cells (fK ts f.toNat (t-f).toNat)))]) ⟨⟨_,U,.inl ⟨_,_,ct,mT (vs:=(ab.cells (eG ts f.toNat (t-f).toNat))) 5 U U,U,U⟩⟩,⟨_,U,.inl ⟨_,_,ct,mT (vs:=(ab.cells (fK ts f.toNat (t-f).toNat))) 4 U U,U,U⟩⟩,trivial⟩ fun w hs=>wE ?_ hs)
  show (vT [(vA (ab.cells (eG ts f.toNat (t-f).toNat))),(vA (ab.cells (fK ts f.toNat (t-f).toNat)))])=(vT [(vA (ab.cells (eG ts f.toNat (t-f).toNat))),(vA (ab.cells (fK ts f.toNat (t-f).toNat)))])
  clear hs w hQ hN G T31 E T30 D V AA M
  rfl
 ·rintro s _ Z
  cases Z
 rintro k x ⟨v,z2,m⟩ l ra rb S w1 K13 Qr14 hx AB N H L j
 obtain ⟨hk,rfl⟩:=BC hx
 obtain ⟨A,K⟩:=AB
 try dsimp only at A K
 try dsimp only
 refine WS fun _ O=>AL U eI fun o=>fF U dC U<|RK O<|aF<|AL U eI fun p=>fF U dC U<|aK<|jL (fun _ _ h=>h) (aS [2,0,1,3,4,5,6,7,8])<|bu (N _ _ ?_)
 refine aL<|aw fun _ P=>aw fun _ R=>dE cu [2,3] [] [] [0,1,2,5,6,7,8] [] U U U U U<|eS U (LW 2 U ct U U)<|eS U (LW 1 U ct U U)<|er U<|cb U fun T21 W=>M3 U dC U<|aK (W _ _ (aS [0,1,2,5,6,7,8]) ?_)
 refine cb U fun T22 X=>Oc U dC U<|aK (X _ _ (aS [0,1,2,5,6,7,8]) ?_)
 refine fD U<|KK R<|WS fun _ T=>rP 3 [0,1] (mc 6 U (mc 5 U I)) ?_
 refine RK T<|cO U (bc fun i=>?_) (bf fun i=>?_)
 ·refine bV<|ao<|dM U ?_
  rw [show m=t from by omega]
  obtain rfl:k=(t-f).toNat:=by omega
  exact L _ () _ _ (by exact U) (aS [0,3,4,5,6,7,8])
 refine WK P<|aF<|rP 2 [] (mc 6 U I) ?_
 refine Oq U Cr U U<|aK<|aW ?_
 exact H ((eG ts f.toNat k),(fK ts f.toNat k),(m+1)) _ _ (by refine ⟨om,?_⟩; dsimp only; omega) (aS [0,3,4,5,6,7,8])
end
section
open Go.RowKit
theorem Cz (i:Int) (s:cx) (ts:List av) (tsA:OA) (tsC g1:Nat) (hst: ∀ x∈ts,cL x) (hlen:ts.length≤12):
 c_ Tryz.prog 197 [(vI i),(vA (cx.cells s)),(vP g1)] [(rd tsA ts.length 9 (ts.map av.cells)),(bU g1 251 (dm.cells (dm.mk (bS.mk (bj.mk tsA ts.length tsC)))))] (vB (!(decide (eA ts s)))):=by
 refine bq kr Tryz.func197 U U fun AA Q hQ hN=>?_
 try dsimp only
 refine WS fun _ C=>e8 U fun G=>rP 1 [] I ?_
 refine RK C<|aw fun _ A=>mK cu [0,1,2,3,4,5,6] [7,8,9,10,11,12,13,14,15,16,17,18,19,20,21,22,23,24,25,26] [false,false,false,false,false,false,false] [] [(bU G 135 (cx.cells s)),(rd tsA ts.length 9 (ts.map av.cells)).ro,(bU g1 251 (dm.cells (dm.mk (bS.mk (bj.mk tsA ts.length tsC))))).ro] [] kr (aS [0,1,2]) (aS [])<|eS U (FA 0 U fc U)<|eS U (FA 0 U fc U)<|eS U (D_ (vS tsA ts.length tsC) 2 U ct U U)<|eS U (LN U Md)<|eS U (BI U (uw ⟨om,om⟩))<|eS U (FA 0 U fc U)<|eS U (L1 (vI s.bQ) 0 U ct U U)<|er U<|N1 7<|NO U U [8,9,10,11,12,13,14,15,16,17,18,19,20,21,22,23,24,25,26] fun T4 D=>dr (xs:=[.tmp 12]) (cs:=[(vI s.bQ)]) U de iy U U U U (by simp [Value.cells]) U U fun H=>RD D 1 U<|ID [14,15,16,17,18,19,20,21,22,23,24,25,26,27,28,29,30,31,5] kr kr U _ U U (aS [1,2,3]) ?_
 refine dS (CL (c_.eq (l8 0 ((ts.length:Int)-1) ([s.bQ]) (some ⟨H,0,none⟩) 1 (by (simp; done))) bL) (ai (aT 0 U U (by simp [bp]) U)<|aH) U) ?_
 refine dP 2 [] I ?_
 refine vJ (t:=16) U (bI fun B=>?_) (bH fun B=>?_)
 ·refine qJ 9 U<|dP 7 [] I ?_
  refine du<|RK A<|ay<|Q1 hQ U U U ?_
  (refine cB ?_; rw [eV (Fm om)]; rfl)
 refine qJ 1 U<|dS (LP (ab.cells s.pt) 1 U ct U U U)<|dP 5 [0,1] (mr 3 U (mc 1 U I)) ?_
 obtain ⟨x,hx⟩:=aO ts ((s.bQ).toNat) om
 have E:=cD av.cells hx
 refine dS (IA ((s.bQ).toNat) U (aQ 2 U) Bq dc om om)<|dS (x9 ((((s.bQ).toNat)*9)+1) U (aQ 2 U) (Nat.mul_pos om dc) fc U) ?_
 have F:=(hst x (aP hx)).2.1
 simp only [gV] at F
 refine dS (x9 ((((s.bQ).toNat)*9)+1) U (aQ 2 U) (Nat.mul_pos om dc) fc U)<|dS (iY ((s.bQ).toNat) 1 (vI x.mA.Lo) U ct (aQ 2 U) E U dc U)<|qJ 1 U<|dS (CL (rE s.pt 0 (x.mA.Lo-1)) (aH) U)<|dP 3 [] I ?_
 refine du<|RK A<|ay<|Q1 hQ U U U ?_
 exact congrArg (fun b=>vB (!b)) (gM.2 (FF om hx).symm)
theorem yO (l:List cx) (lA:OA) (lC:Nat) (f:Value) (p:Int→cx→Bool) (X:au) (hf: ∀ x0 x1,(∃ k:Nat,x0=(k:Int)∧l[k]? =some x1)→yd Tryz.prog f [.int .i64 x0,.agg (cx.cells x1).toArray] [X] (.bool (p x0 x1))) (hlen:l.length≤1000000):
 lX Tryz.prog 196 [(vS lA l.length lC),f] [(rd lA l.length 3 (l.map cx.cells)),X] (fun (x:(OA)×Nat)=>(vS x.1 ((Ex (fun jj yy=>p (jj:Int) yy) l).length) x.2)) (fun (x:(OA)×Nat)=>True) (fun (x:(OA)×Nat)=>[(own x.1 x.2 3 1 ((Ex (fun jj yy=>p (jj:Int) yy) l).map iC))]):=by
 refine dI kr Tryz.func196 U U fun W Q hQ hN=>?_
 try dsimp only
 refine WS fun _ L=>br 1 U<|RK L<|WS fun _ M=>br 1 U<|RK M<|aw fun _ N=>WS fun _ O=>rP 3 [] I ?_
 refine RK O<|aL<|eH 3 1 ?_
 have A:(0≤l.length):=by exact Nat.zero_le _
 refine cq (ι:={z:Nat×(OA)×Nat // (z.1≤l.length)}) [0,1,8,9] [1,2] U U (fun z=>[(5,(vS z.1.2.1 ((o5 (fun jj yy=>p (jj:Int) yy) l z.1.1).length) z.1.2.2)),(10,(vI (z.1.1:Int)))]) (fun z=>[(own z.1.2.1 z.1.2.2 3 1 ((o5 (fun jj yy=>p (jj:Int) yy) l z.1.1).map iC))]) (fun _=>rfl) (fun _=>rfl) (fun z=>l.length-z.1.1) ⟨(0,none,0),A⟩ (bw U) (aS [1,2,0]) ?_
 clear A
 rintro ⟨⟨i,a,c⟩,B⟩ J5 C
 try dsimp only at B
 try dsimp only
 refine WS fun _ P=>rP 1 [] I ?_
 refine RK P<|aw fun _ R=>cP U (bf fun V=>?_) (bc fun V=>?_)
 ·refine bV<|ao<|ao<|aM<|KK N<|WS fun _ F=>?_
  rw [GR (p:=fun (i:Nat) x=>p (i:Int) x) (show i=l.length by omega)]
  refine rP 2 [] I ?_
  refine RK F<|ay<|LX hQ (a,c) [2] [] I U U U U ?_
  trivial
 refine WK R<|aw fun _ G=>aL<|WS fun _ D=>rP 1 [] I ?_
 obtain ⟨x,hx⟩:=aO l i om
 have S:=cD cx.cells hx
 refine rS (IA i U (aQ 0 U) Da dc om om)<|rS (nz i 0 (cx.cells x) U ct (aQ 0 U) S U dc U U)<|AL U Ax fun T=>br 1 U<|fF U Ib U<|RK D<|WS fun _ E=>rP 3 [] (mc 0 U I) ?_
 refine rS (SX (mQ U U U (hf (i:Int) x ⟨i,U,hx⟩) (aY [2])) U U)<|RK E<|cP U (fun hp=>?_) (fun hp=>?_)
 ·refine cT<|aW<|KK G<|aF ?_
  rw [← GH (p:=fun (i:Nat) x=>p (i:Int) x) hx hp]
  refine rP 2 [] I ?_
  refine aK ?_
  have AB:(vI (((i+1):Nat):Int))=(vI ((i:Int)+1)):=by exact cI om
  refine bu (C ⟨((i+1),a,c),(by first|omega|(simp only []; omega))⟩ _ _ _ U os (c0 5<|bJ U AB<|eb.nil _) (aS [1,2,3]))
 refine aF<|rP 2 [] I ?_
 refine dr (xs:=[.tmp 20]) (cs:=[(vI (i:Int))]) U de iy U U U U (by simp [Value.cells]) U U fun AA=>?_
 refine eD (es2:=(List.map iC (o5 (fun jj yy=>p (jj:Int) yy) l (i+1)))) (m':=(o5 (fun jj yy=>p (jj:Int) yy) l (i+1)).length) 4 U U U ve U U sm (aT (es:=List.map iC [(i:Int)]) 0 U U (by simp [bp]) U) (m8 _) (by have:=xj (p:=fun (i:Nat) x=>p (i:Int) x) (l:=l) (n:=i); simp; omega) (by have:=xj (p:=fun (i:Nat) x=>p (i:Int) x) (l:=l) (n:=i); simp only [maxLen]; omega) (by rw [CM hx hp]; simp) sm U fun J K=>?_
 try dsimp only
 refine br 1 U<|aK<|aW<|KK G<|aF<|rP 2 [] I ?_
 refine aK ?_
 have H:(vI (((i+1):Nat):Int))=(vI ((i:Int)+1)):=by exact cI om
 refine bu (C ⟨((i+1),J,K),(by first|omega|(simp only []; omega))⟩ _ _ _ U os (c0 5<|bJ U H<|eb.nil _) (aS [2,3,4]))
theorem wm (ts:List av) (tsA:OA) (tsC:Nat) (l:List cx) (lA:OA) (lC:Nat) (hst: ∀ x∈ts,cL x) (hlen:ts.length≤12) (hl:l.length≤4):
 c_ Tryz.prog 169 [(vA (dm.cells (dm.mk (bS.mk (bj.mk tsA ts.length tsC))))),(vS lA l.length lC)] [(rd tsA ts.length 9 (ts.map av.cells)),(rd lA l.length 3 (l.map cx.cells))] (vB (decide (∀ s∈l,eA ts s))):=by
 refine bq kr Tryz.func169 U U fun J Q hQ hN=>?_
 try dsimp only
 refine WS fun _ B=>e8 U fun A=>br 1 U<|RK B<|WS fun _ C=>rP 1 [] I ?_
 refine rS (FU U) ?_
 refine cX (yO l lA lC (Value.func (.func 197) [].toArray [(vP A)].toArray) (fun E D=>(!(decide (eA ts D)))) (dw [(rd tsA ts.length 9 (ts.map av.cells)),(bU A 251 (dm.cells (dm.mk (bS.mk (bj.mk tsA ts.length tsC)))))]) (by intro E D _; exact jd (fi:=[]) (ca:=[(vP A)]) (ib (Cz E D ts tsA tsC A (by first|assumption|omega) (by first|assumption|omega)) (aY [0,1]))) om) (dN 2 U U<|ai (ij (aY [1,0]))<|aH) U fun G F=>?_
 obtain ⟨H,AA⟩:=G
 try dsimp only
 refine rP 3 [] I ?_
 refine RK C<|ay<|Q1 hQ U U U ?_
 exact congrArg Value.bool (decide_eq_decide.2 (by rw [show ∀ n:Nat,((n:Int)=0)↔n=0 from fun n=>by omega,Ch]; simp only [Bool.not_eq_false',decide_eq_true_eq]; exact ⟨fun h s hs=>by obtain ⟨k,hk⟩:=List.getElem?_of_mem hs; exact h k s hk,fun h k s hk=>h s (List.mem_of_getElem? hk)⟩))
theorem zn (z:ab) (hz:lu z):
 c_ Tryz.prog 199 [(vA (ab.cells z))] [] (vA (ab.cells (n9 z))):=by
 unfold lu at hz
 refine bq kr Tryz.func199 U U fun E Q hQ hN=>?_
 try dsimp only
 refine WS fun _ A=>e8 U fun C=>AL U eI fun D=>RK A<|WS fun _ B=>gO 2 [] (mc 1 U I) U<|rS (NG U ⟨om,om⟩)<|rP 2 [] (mc 1 U I) ?_
 refine rS (NG U ⟨om,om⟩)<|rS (SX (aZ (xs:=[(0,.tmp 5),(1,.tmp 8)]) (cs:=(ab.cells (ab.mk (-z.Hi) (-z.Lo)))) U U (a_ jr U)) U U)<|fF U dC U<|RK B<|ay ?_
 exact yx hQ [0] (mc 0 U I) U U
theorem Lf (ts:List av) (tsA:OA) (tsC:Nat) (s:cx) (hlen:ts.length≤1000000) (hside: ∀ x∈ts,0≤x.jJ∧x.jJ≤255):
 c_ Tryz.prog 141 [(vA (bS.cells (bS.mk (bj.mk tsA ts.length tsC)))),(vA (cx.cells s))] [(rd tsA ts.length 9 (ts.map av.cells))] (vT [(vA (ab.cells (Kt ts s))),(vI (Bw ts s))]):=by
 refine bq kr Tryz.func141 U U fun Z Q hQ hN=>?_
 try dsimp only
 refine WS fun _ K=>e8 U fun V=>e8 U fun W=>AL U eI fun X=>br 1 U<|RK K<|WS fun _ L=>gO 1 [] (mc 2 U I) U<|rS (CL (z9 ts tsA tsC hlen hside) (aY [3]) U)<|br 3 U<|AL U ET fun Y=>fF U Dt U<|br 1 U<|RK L<|aw fun _ M=>WS fun _ N=>rP 2 [] I ?_
 refine RK N<|cO U (bI fun he=>?_) (bH fun he=>?_)
 ·refine WS fun _ O=>rS (SX (aZ (xs:=[]) (cs:=(ab.cells (ab.mk 0 0))) U U (a_ jr U)) U U)<|br 1 U<|rL U dC U<|rP 1 [] I ?_
  refine RK O<|ay<|qA hQ [0] (mc 1 U I) U ?_
  (have e:=Jw (s:=s) (uE he).1; rw [e.1,e.2,(uE he).2]<;>rfl)
 refine WK M<|aw fun _ C=>WS fun _ D=>?_
 have B:=yG he
 have H:=n3 B
 have R:=o9 B
 refine rP 2 [0,1] (mc 0 U (mc 2 U I)) ?_
 refine dr (xs:=[.tmp 20]) (cs:=(cx.cells s)) U Da Ax U U U U (by simp [Value.cells,cx.aN]) U U fun AB=>?_
 refine rS (CL (c_.eq (wm ts tsA tsC ([s]) (some ⟨AB,0,none⟩) 1 asm asm (by (simp; done))) zk) (dN 5 U U<|ai (aT 0 U U (by simp [cx.aN]) U)<|aH) U) ?_
 refine rP 1 [] I ?_
 refine RK D<|cO U (bI fun A=>?_) (bH fun A=>?_)
 ·refine WS fun _ E=>rS (SX (aZ (xs:=[]) (cs:=(ab.cells (ab.mk 0 0))) U U (a_ jr U)) U U)<|Jl U dC U<|rP 1 [] I ?_
  refine RK E<|ay<|qA hQ [0] (mc 2 U I) U ?_
  (have e:=JG B A; rw [e.1,e.2]<;>rfl)
 refine WK C<|WS fun _ F=>?_
 have AA:=A.1
 have P:=zo H A
 refine gO 3 [0,1] (mc 1 U (mc 3 U I)) U<|rS (CL (Fg ts tsA tsC 0 s.bQ asm asm om) (aY [5]) U)<|br 3 U<|AL U eI fun S=>AL U eI fun T=>rL U dC U<|fF U dC U<|RK F<|WS fun _ G=>rP 2 [] (mc 1 U I) ?_
 refine rS (LP (ab.cells s.pt) 5 U ct U U U)<|dr (xs:=[.tmp 34]) (cs:=(ab.cells s.pt)) U nt eI U U U U (by simp [Value.cells,ab.aN]) U U fun J=>?_
 refine rS (CL (c_.eq (m0 (eG ts (0:Int).toNat (s.bQ-0).toNat) ([s.pt]) (some ⟨J,0,none⟩) 1 (by exact nH H om) (by intro z hz; simp only [bW] at hz; subst hz; exact P) sm) kS) (ai (aT 0 rfl rfl (by simp [ab.aN]) rfl)<|aH) rfl) ?_
 refine G2 U dC U<|rP 1 [] I ?_
 refine RK G<|ay<|qA hQ [0] (mc 5 U I) U ?_
 (have e:=Im B A; rw [e.1,e.2]; unfold FY; rw [show (s.bQ-0).toNat=s.bQ.toNat by rw [Int.sub_zero]]<;>rfl)
theorem GF (ts:List av) (tsA:OA) (tsC:Nat) (p:cx) (q:cx) (hlen:ts.length≤1000000) (hside: ∀ x∈ts,0≤x.jJ∧x.jJ≤255):
 c_ Tryz.prog 172 [(vA (bS.cells (bS.mk (bj.mk tsA ts.length tsC)))),(vA (cx.cells p)),(vA (cx.cells q))] [(rd tsA ts.length 9 (ts.map av.cells))] (vT [(vA (ab.cells (qm ts p q))),(vI (lg ts p q))]):=by
 refine bq kr Tryz.func172 U U fun w Q hQ hN=>?_
 try dsimp only
 refine WS fun _ c=>e8 U fun r=>e8 U fun s=>e8 U fun t=>AL U eI fun u=>br 1 U<|RK c<|WS fun _ d=>gO 1 [] (mc 3 U I) U<|rS (CL (z9 ts tsA tsC hlen hside) (aY [4]) U)<|br 3 U<|AL U ET fun v=>fF U Dt U<|br 1 U<|RK d<|aw fun _ g=>WS fun _ h=>rP 2 [] I ?_
 refine RK h<|cO U (bI fun he=>?_) (bH fun he=>?_)
 ·refine WS fun _ G=>rS (SX (aZ (xs:=[]) (cs:=(ab.cells (ab.mk 0 0))) U U (a_ jr U)) U U)<|br 1 U<|rL U dC U<|rP 1 [] I ?_
  refine RK G<|ay<|qA hQ [0] (mc 1 U I) U ?_
  (have e:=BB (a:=p) (b:=q) (uE he).1; rw [e.1,e.2,(uE he).2]<;>rfl)
 refine WK g<|aw fun _ H=>WS fun _ AB=>?_
 have A:=yG he
 have F:=n3 A
 have j:=o9 A
 refine rP 3 [0,1,2] (mc 0 U (mc 3 U (mc 2 U I))) ?_
 refine dr (xs:=[.tmp 22,.tmp 23]) (cs:=((cx.cells p)++(cx.cells q))) U Da Ax U U U U (by simp [Value.cells,cx.aN]) U U fun X=>?_
 refine rS (CL (c_.eq (wm ts tsA tsC ([p,q]) (some ⟨X,0,none⟩) 2 asm asm (by (simp; done))) yg) (dN 6 U U<|ai (aT 0 U U (by simp [cx.aN]) U)<|aH) U) ?_
 refine rP 1 [] I ?_
 refine RK AB<|cO U (bI fun D=>?_) (bH fun D=>?_)
 ·refine WS fun _ J=>rS (SX (aZ (xs:=[]) (cs:=(ab.cells (ab.mk 0 0))) U U (a_ jr U)) U U)<|Jl U dC U<|rP 1 [] I ?_
  refine RK J<|ay<|qA hQ [0] (mc 2 U I) U ?_
  (have e:=Cc A D; rw [e.1,e.2]<;>rfl)
 refine WK H<|WS fun _ K=>?_
 obtain ⟨hp,hq⟩:=D
 have n:=hp.1
 have o:=hq.1
 have i:=zo F hp
 have W:=zo F hq
 have V:=uY i
 have B:=nH F (f:=(min p.bQ q.bQ).toNat) (k:=(max p.bQ q.bQ-min p.bQ q.bQ).toNat) om
 refine gO 5 [0,1,2] (mc 1 U (mc 4 U (mc 3 U I))) U<|rS (MN U)<|gO 4 [0,1] (mc 4 U (mc 3 U I)) U<|rS (MX U)<|rS (CL (Fg ts tsA tsC (min p.bQ q.bQ) (max p.bQ q.bQ) asm asm om) (aY [6]) U)<|br 3 U<|AL U eI fun l=>AL U eI fun m=>rL U dC U<|fF U dC U<|RK K<|aw fun _ C=>WS fun _ L=>rP 5 [0,1] (mc 5 U (mc 6 U I)) ?_
 refine RK L<|cP U (bf fun E=>?_) (bc fun E=>?_)
 ·refine WK C<|aw fun _ N=>dE cu [6,7,8] [] [] [0,1,2,3,5,6,7,8] [] U U U U U<|eS U (LW 1 U ct U U)<|eS U (FA 1 U fc U)<|eS U (LP (ab.cells q.pt) 4 U ct U U U)<|eS U (FA 1 U fc U)<|eS U (LP (ab.cells p.pt) 5 U ct U U U)<|eS U (CL (zn p.pt asm) (aH) U)<|eS U (AG U)<|er U<|cb U fun T26 S=>dr (xs:=[.tmp 52,.tmp 55]) (cs:=((ab.cells q.pt)++(ab.cells (n9 p.pt)))) U nt eI U U U U (by simp [Value.cells,ab.aN]) U U fun Z=>aK (S _ _ (aS [1,2,3,4,6,7,8,9]) ?_)
  refine cb U fun T28 T=>?_
  refine rS (CL (c_.eq (m0 (eG ts (min p.bQ q.bQ).toNat ((max p.bQ q.bQ)-(min p.bQ q.bQ)).toNat) ([q.pt,(n9 p.pt)]) (some ⟨Z,0,none⟩) 2 (by first|exact B|exact uY B) (by intro z hz; simp only [bB,List.not_mem_nil,or_false] at hz; rcases hz with rfl|rfl; exact W; exact V) sm) xR) (ai (aT 0 rfl rfl (by simp [ab.aN]) rfl)<|aH) rfl) ?_
  refine aK (T _ _ (aS [1,2,3,4,6,7,8,9]) ?_)
  refine cb U fun T29 AA=>G2 U dC U<|aK (AA _ _ (aS [1,2,3,4,6,7,8,9]) ?_)
  refine fD U<|KK N<|ay<|qA hQ [0] (mc 5 U I) U ?_
  (have e:=sn A ⟨hp,hq⟩; rw [e.1,e.2]; unfold kR uW; rw [if_neg E]<;>rfl)
 refine aF<|rP 1 [] (mc 1 U I) ?_
 refine rS (CL (zn (eG ts (min p.bQ q.bQ).toNat ((max p.bQ q.bQ)-(min p.bQ q.bQ)).toNat) asm) (aH) U)<|rL U dC U<|RK C<|aw fun _ M=>dE cu [6,7,8] [] [] [0,1,2,3,5,6,7,8] [] U U U U U<|eS U (LW 1 U ct U U)<|eS U (FA 1 U fc U)<|eS U (LP (ab.cells q.pt) 4 U ct U U U)<|eS U (FA 1 U fc U)<|eS U (LP (ab.cells p.pt) 5 U ct U U U)<|eS U (CL (zn p.pt asm) (aH) U)<|eS U (AG U)<|er U<|cb U fun T21 O=>dr (xs:=[.tmp 52,.tmp 55]) (cs:=((ab.cells q.pt)++(ab.cells (n9 p.pt)))) U nt eI U U U U (by simp [Value.cells,ab.aN]) U U fun Y=>aK (O _ _ (aS [1,2,3,4,6,7,8,9]) ?_)
 refine cb U fun T23 P=>?_
 refine rS (CL (c_.eq (m0 (n9 (eG ts (min p.bQ q.bQ).toNat ((max p.bQ q.bQ)-(min p.bQ q.bQ)).toNat)) ([q.pt,(n9 p.pt)]) (some ⟨Y,0,none⟩) 2 (by first|exact B|exact uY B) (by intro z hz; simp only [bB,List.not_mem_nil,or_false] at hz; rcases hz with rfl|rfl; exact W; exact V) sm) xR) (ai (aT 0 rfl rfl (by simp [ab.aN]) rfl)<|aH) rfl) ?_
 refine aK (P _ _ (aS [1,2,3,4,6,7,8,9]) ?_)
 refine cb U fun T24 R=>G2 U dC U<|aK (R _ _ (aS [1,2,3,4,6,7,8,9]) ?_)
 refine fD U<|KK M<|ay<|qA hQ [0] (mc 5 U I) U ?_
 (have e:=sn A ⟨hp,hq⟩; rw [e.1,e.2]; unfold kR uW; rw [if_pos E]<;>rfl)
end
section
open Go.RowKit
theorem JC (l:bk) (kA:OA) (kC:Nat) (az:List RA) (cA:OA) (cC:Nat) (bA:OA) (bC:Nat) (hin:eM l az):
 c_ Tryz.prog 132 [(vA (cy.cells (kh l kA kC cA cC bA bC)))] [(rd kA l.aU.length 9 (l.aU.map av.cells)),(rd cA l.ar.length 2 (List.zipWith aB.cells l.ar az)),(dw (aX aB.gQ l.ar az)),(rd bA l.aa.length 4 (l.aa.map bD.cells))] (vB (decide (fP l))):=by
 have R:=hin.vZ
 have P:=hin.v7
 have N:=hin.oL
 have O:=hin.vW
 refine bq kr Tryz.func132 U U fun T Q hQ hN=>?_
 try dsimp only
 refine WS fun _ G=>e8 U fun S=>br 1 U<|RK G<|WS fun _ A=>rP 2 [] (mc 0 U I) ?_
 refine dr (xs:=[.tmp 4]) (cs:=[(vI l.iQ)]) U de iy U U U U (by simp [Value.cells]) U U fun H=>?_
 refine rS (CL (c_.eq (fB 1 5000 ([l.iQ]) (some ⟨H,0,none⟩) 1 (by (simp; done))) bL) (ai (aT 0 U U (by simp [bp]) U)<|aH) U) ?_
 refine rP 1 [] I ?_
 refine cw (t:=7) U (bf fun K=>?_) (bc fun K=>?_)
 ·refine rP 36 [] I ?_
  refine RK A<|ay<|Q1 hQ U U U ?_
  exact cB (eV (by unfold fP; omega)).symm
 refine rP 3 [] (mc 1 U I) ?_
 refine dr (xs:=[.tmp 10]) (cs:=[(vI (l.ar.length:Int))]) U de iy U U U U (by simp [Value.cells]) U U fun AA=>?_
 refine rS (CL (c_.eq (fB 1 4 ([(l.ar.length:Int)]) (some ⟨AA,0,none⟩) 1 (by (simp; done))) bL) (ai (aT 0 U U (by simp [bp]) U)<|aH) U) ?_
 refine rP 2 [] I ?_
 refine cw (t:=14) U (bf fun L=>?_) (bc fun L=>?_)
 ·refine rP 29 [] I ?_
  refine RK A<|ay<|Q1 hQ U U U ?_
  exact cB (eV (by unfold fP; omega)).symm
 refine rP 3 [] (mc 2 U I) ?_
 refine dr (xs:=[.tmp 17]) (cs:=[(vI (l.aa.length:Int))]) U de iy U U U U (by simp [Value.cells]) U U fun J=>?_
 refine rS (CL (c_.eq (fB 1 6 ([(l.aa.length:Int)]) (some ⟨J,0,none⟩) 1 (by (simp; done))) bL) (ai (aT 0 U U (by simp [bp]) U)<|aH) U) ?_
 refine rP 2 [] I ?_
 refine cw (t:=21) U (bf fun M=>?_) (bc fun M=>?_)
 ·refine rP 22 [] I ?_
  refine RK A<|ay<|Q1 hQ U U U ?_
  exact cB (eV (by unfold fP; omega)).symm
 refine rP 6 [] (mc 3 U I) ?_
 refine dr (xs:=[.tmp 27]) (cs:=[(vI l.cj)]) U de iy U U U U (by simp [Value.cells]) U U fun B=>?_
 refine rS (CL (c_.eq (fB 0 ((l.aa.length:Int)-1) ([l.cj]) (some ⟨B,0,none⟩) 1 (by (simp; done))) bL) (ai (aT 0 U U (by simp [bp]) U)<|aH) U) ?_
 refine rP 2 [] I ?_
 refine cw (t:=31) U (bf fun E=>?_) (bc fun E=>?_)
 ·refine rP 12 [] I ?_
  refine RK A<|ay<|Q1 hQ U U U ?_
  exact cB (eV (by unfold fP; omega)).symm
 refine rP 2 [] (mc 4 U I) ?_
 refine dr (xs:=[.tmp 33]) (cs:=[(vI l.fZ)]) U de iy U U U U (by simp [Value.cells]) U U fun C=>?_
 refine rS (CL (c_.eq (fB 0 3 ([l.fZ]) (some ⟨C,0,none⟩) 1 (by (simp; done))) bL) (ai (aT 0 U U (by simp [bp]) U)<|aH) U) ?_
 refine rP 2 [] I ?_
 refine cw (t:=37) U (bf fun F=>?_) (bc fun F=>?_)
 ·refine rP 6 [] I ?_
  refine RK A<|ay<|Q1 hQ U U U ?_
  exact cB (eV (by unfold fP; omega)).symm
 refine rP 2 [] (mc 5 U I) ?_
 refine dr (xs:=[.tmp 39]) (cs:=[(vI l.eR)]) U de iy U U U U (by simp [Value.cells]) U U fun D=>?_
 refine rS (CL (c_.eq (fB 0 3 ([l.eR]) (some ⟨D,0,none⟩) 1 (by (simp; done))) bL) (ai (aT 0 U U (by simp [bp]) U)<|aH) U) ?_
 refine rP 2 [] I ?_
 refine RK A<|ay<|Q1 hQ U U U ?_
 exact cB (gM.2 (by unfold fP; omega))
theorem Jz (l:bk) (kA:OA) (kC:Nat) (az:List RA) (cA:OA) (cC:Nat) (bA:OA) (bC:Nat) (hin:eM l az):
 c_ Tryz.prog 134 [(vA (cy.cells (kh l kA kC cA cC bA bC)))] [(rd kA l.aU.length 9 (l.aU.map av.cells)),(rd cA l.ar.length 2 (List.zipWith aB.cells l.ar az)),(dw (aX aB.gQ l.ar az)),(rd bA l.aa.length 4 (l.aa.map bD.cells))] (vB (decide (∀ c∈l.ar,eU c))):=by
 have H:=hin.vZ
 have G:=hin.v7
 have E:=hin.oL
 have F:=hin.vW
 refine bq kr Tryz.func134 U U fun K Q hQ hN=>?_
 try dsimp only
 refine WS fun _ C=>e8 U fun J=>br 1 U<|RK C<|WS fun _ D=>rP 2 [] (mc 0 U I) ?_
 refine rS (CL (vz l.ar az cA cC (Value.func (.func 136) [].toArray [].toArray) (fun m=>(!(decide (eU m)))) (dw (aX aB.gQ l.ar az)) (by intro AA m a B A; exact jd (fi:=[]) (ca:=[]) (MH l.ar az AA m a (by exact B) (by exact A) (by exact hin.M0 _ _ _ B A))) asm asm) (JD 2 3 3 U U U U U U) U) ?_
 refine rP 2 [] I ?_
 refine RK D<|ay<|Q1 hQ U U U ?_
 exact cB (by rw [Bool.eq_iff_iff,decide_eq_true_eq]; exact zi)
theorem IT (b:bD) (l:bk) (kA:OA) (kC:Nat) (az:List RA) (cA:OA) (cC:Nat) (bA:OA) (bC g1:Nat) (hin:eM l az) (htr:cQ l.aU=true):
 c_ Tryz.prog 140 [(vA (bD.cells b)),(vP g1)] [(rd kA l.aU.length 9 (l.aU.map av.cells)),(rd cA l.ar.length 2 (List.zipWith aB.cells l.ar az)),(dw (aX aB.gQ l.ar az)),(rd bA l.aa.length 4 (l.aa.map bD.cells)),(bU g1 28 (cy.cells (kh l kA kC cA cC bA bC)))] (vB (!(decide (kj l b)))):=by
 have J:=hin.vZ
 have H:=hin.v7
 have F:=hin.oL
 have G:=hin.vW
 have AA:=hin.side
 refine bq kr Tryz.func140 U U fun M Q hQ hN=>?_
 try dsimp only
 refine WS fun _ C=>e8 U fun K=>br 1 U<|RK C<|WS fun _ D=>br 1 U<|rS (Ou (bS.cells (bS.mk (bj.mk kA l.aU.length kC))) 5 U ct U U U)<|br 1 U<|rS (LP (cx.cells b.pg) 0 U ct U U U)<|rS (CL (Lf l.aU kA kC b.pg asm asm) (aY [1]) U)<|br 3 U<|AL U eI fun L=>fF U dC U<|br 1 U<|RK D<|WS fun _ B=>rP 3 [] I ?_
 refine cE (t:=16) U (bI fun A=>?_) (bH fun A=>?_)
 ·refine rP 11 [] I ?_
  refine RK B<|ay<|Q1 hQ U U U ?_
  (refine cB ?_; rw [eV (fun h:kj l b=>A ((zF htr).2 h.1))]; rfl)
 refine rP 6 [0,1] (mr 6 U (mc 1 U I)) ?_
 refine dr (xs:=[.tmp 22]) (cs:=[(vI b.mj)]) U de iy U U U U (by simp [Value.cells]) U U fun E=>?_
 refine rS (CL (c_.eq (fB 0 ((l.ar.length:Int)-1) ([b.mj]) (some ⟨E,0,none⟩) 1 (by (simp; done))) bL) (ai (aT 0 U U (by simp [bp]) U)<|aH) U) ?_
 refine rP 3 [] I ?_
 refine RK B<|ay<|Q1 hQ U U U ?_
 (refine cB ?_; refine congrArg Bool.not (gM.2 ⟨fun h=>⟨(zF htr).1 A,om,om⟩,fun h=>by have:=h.2; omega⟩))
theorem Jy (l:bk) (kA:OA) (kC:Nat) (az:List RA) (cA:OA) (cC:Nat) (bA:OA) (bC:Nat) (hin:eM l az) (htr:cQ l.aU=true):
 c_ Tryz.prog 138 [(vA (cy.cells (kh l kA kC cA cC bA bC)))] [(rd kA l.aU.length 9 (l.aU.map av.cells)),(rd cA l.ar.length 2 (List.zipWith aB.cells l.ar az)),(dw (aX aB.gQ l.ar az)),(rd bA l.aa.length 4 (l.aa.map bD.cells))] (vB (decide (∀ b∈l.aa,kj l b))):=by
 have H:=hin.vZ
 have G:=hin.v7
 have E:=hin.oL
 have F:=hin.vW
 refine bq kr Tryz.func138 U U fun AA Q hQ hN=>?_
 try dsimp only
 refine WS fun _ B=>e8 U fun A=>br 1 U<|RK B<|WS fun _ C=>rP 2 [] (mc 0 U I) ?_
 refine rS (FU U) ?_
 refine rS (CL (vU l.aa bA bC (Value.func (.func 140) [].toArray [(vP A)].toArray) (fun D=>(!(decide (kj l D)))) (dw [(rd kA l.aU.length 9 (l.aU.map av.cells)),(rd cA l.ar.length 2 (List.zipWith aB.cells l.ar az)),(dw (aX aB.gQ l.ar az)),(rd bA l.aa.length 4 (l.aa.map bD.cells)),(bU A 28 (cy.cells (kh l kA kC cA cC bA bC)))]) (by intro D _; exact jd (fi:=[]) (ca:=[(vP A)]) (ib (IT D l kA kC az cA cC bA bC A (by first|assumption|omega) (by first|assumption|omega)) (aY [0,1,2,3,4]))) asm) (dN 4 U U<|ai (ij (aY [1,2,3,4,0]))<|aH) U) ?_
 refine rP 2 [] I ?_
 refine RK C<|ay<|Q1 hQ U U U ?_
 exact cB (by rw [Bool.eq_iff_iff,decide_eq_true_eq]; exact Ce)
theorem D1 (l:bk) (kA:OA) (kC:Nat) (az:List RA) (cA:OA) (cC:Nat) (bA:OA) (bC:Nat) (n:Int) (hin:eM l az) (htr:cQ l.aU=true) (hbk: ∀ b∈l.aa,kj l b) (hn:0≤n∧n<(l.aa.length:Int)):
 c_ Tryz.prog 143 [(vA (cy.cells (kh l kA kC cA cC bA bC))),(vI n)] [(rd kA l.aU.length 9 (l.aU.map av.cells)),(rd cA l.ar.length 2 (List.zipWith aB.cells l.ar az)),(dw (aX aB.gQ l.ar az)),(rd bA l.aa.length 4 (l.aa.map bD.cells))] (vI (kl l n.toNat)):=by
 have P:=hin.vZ
 have N:=hin.v7
 have L:=hin.oL
 have M:=hin.vW
 have O:=hin.side
 refine bq kr Tryz.func143 U U fun AA Q hQ hN=>?_
 try dsimp only
 refine WS fun _ E=>e8 U fun R=>br 1 U<|RK E<|WS fun _ F=>rP 3 [] (mc 0 U I) ?_
 obtain ⟨x,hx⟩:=aO l.aa ((n).toNat) om
 have J:=cD bD.cells hx
 refine rS (IA ((n).toNat) U (aQ 4 U) B7 dc om om)<|rS (x9 (((n).toNat)*4) U (aQ 4 U) (Nat.mul_pos om dc) fc U)<|rS (nz ((n).toNat) 0 (cx.cells x.pg) U ct (aQ 4 U) J U dc U U)<|AL U Ax fun S=>fF U Ib U<|RK F<|WS fun _ G=>br 1 U<|rS (LP (bS.cells (bS.mk (bj.mk kA l.aU.length kC))) 1 U ct U U U)<|gO 1 [] (mc 0 U I) U<|rS (CL (Lf l.aU kA kC x.pg asm asm) (aY [2]) U)<|br 3 U<|AL U eI fun T=>fF U dC U<|br 1 U<|RK G<|aw fun _ C=>WS fun _ H=>rP 2 [] I ?_
 refine RK H<|cP U (bf fun D=>?_) (bc fun D=>?_)
 ·refine WK C<|WS fun _ B=>rP 3 [] (mc 0 U I) ?_
  refine RK B<|ay<|Q1 hQ U U U ?_
  (refine congrArg (Value.int .i64) ?_; rw [show n.toNat=0 by omega] at hx ⊢; rw [BL hx,(Im htr (hbk _ (List.mem_of_getElem? hx)).1).2])
 refine dE cu [14] [] [] [1,2,3,4,5,6] [] U U U U U<|eS U (FA 0 U fc U)<|eS U (LP (bS.cells (bS.mk (bj.mk kA l.aU.length kC))) 1 U ct U U U)<|eS U (FA 3 U fc U)<|eS U (L1 (vS bA l.aa.length bC) 1 U ct U U)<|eS U (MV U)<|eS U (BI U (uw ⟨om,om⟩)) ?_
 obtain ⟨y,hy⟩:=aO l.aa (((n-1)).toNat) om
 have K:=cD bD.cells hy
 refine eS U (IA (((n-1)).toNat) U (aQ 5 U) B7 dc om om)<|eS U (x9 ((((n-1)).toNat)*4) U (aQ 5 U) (Nat.mul_pos om dc) fc U)<|eS U (nz (((n-1)).toNat) 0 (cx.cells y.pg) U ct (aQ 5 U) K U dc U U)<|eS U (LW 0 U ct U U)<|eS U (CL (GF l.aU kA kC y.pg x.pg asm asm) (aY [2]) U)<|eS U (MV U)<|eS U (EX U)<|eS U (EX U)<|er U<|cb U fun T9 AB=>fF U dC U<|aK (AB _ _ (aS [1,2,3,4,5,6]) ?_)
 refine fD U<|KK C<|WS fun _ A=>rP 3 [] (mc 0 U I) ?_
 refine RK A<|ay<|Q1 hQ U U U ?_
 (refine congrArg (Value.int .i64) ?_; rw [E1 om hx (by rw [show n.toNat-1=(n-1).toNat by omega]; exact hy),(sn htr ⟨(hbk _ (List.mem_of_getElem? hy)).1,(hbk _ (List.mem_of_getElem? hx)).1⟩).2])
theorem JM (l:bk) (kA:OA) (kC:Nat) (az:List RA) (cA:OA) (cC:Nat) (bA:OA) (bC:Nat) (hin:eM l az) (htr:cQ l.aU=true) (hbk: ∀ b∈l.aa,kj l b):
 c_ Tryz.prog 142 [(vA (cy.cells (kh l kA kC cA cC bA bC)))] [(rd kA l.aU.length 9 (l.aU.map av.cells)),(rd cA l.ar.length 2 (List.zipWith aB.cells l.ar az)),(dw (aX aB.gQ l.ar az)),(rd bA l.aa.length 4 (l.aa.map bD.cells))] (vB (decide (∀ i,i<l.aa.length→1≤kl l i))):=by
 have V:=hin.vZ
 have AA:=hin.v7
 have S:=hin.oL
 have T:=hin.vW
 refine bq kr Tryz.func142 U U fun X Q hQ hN=>?_
 try dsimp only
 refine WS fun _ J=>e8 U fun W=>br 1 U<|RK J<|aw fun _ K=>WS fun _ L=>rP 4 [] (mc 0 U I) ?_
 refine RK L<|aL ?_
 have A:(0≤l.aa.length)∧(∀ j,j<0→1≤kl l j):=by exact ⟨Nat.zero_le _,fun j hj=>absurd hj (Nat.not_lt_zero _)⟩
 refine cq (ι:={z:Nat // (z≤l.aa.length)∧(∀ j,j<z→1≤kl l j)}) [1,6] [0,1,2,3,4] U U (fun z=>[(7,(vI (z.1:Int)))]) (fun z=>[]) (fun _=>rfl) (fun _=>rfl) (fun z=>l.aa.length-z.1) ⟨0,A⟩ (bw U) (aS [0,1,2,3,4]) ?_
 clear A
 rintro ⟨i,⟨P,B⟩⟩ J5 AB
 try dsimp only
 refine WS fun _ M=>rP 1 [] I ?_
 refine RK M<|aw fun _ N=>cP U (bf fun R=>?_) (bc fun R=>?_)
 ·refine bV<|ao<|ao<|aM<|KK K<|WS fun _ G=>rP 1 [] I ?_
  refine RK G<|ay<|Q1 hQ U U U ?_
  exact cB (gX (fun j hj=>B j om)).symm
 refine WK N<|aw fun _ O=>aL<|WS fun _ D=>br 2 U<|RK D<|WS fun _ E=>gO 2 [] (mc 0 U I) U<|rS (CL (D1 l kA kC az cA cC bA bC (i:Int) hin htr hbk om) (aY [1,2,3,4]) U)<|rP 1 [] I ?_
 refine RK E<|cO U (bc fun C=>?_) (bf fun C=>?_)
 ·refine WS fun _ F=>rP 1 [] I ?_
  refine RK F<|ay<|Q1 hQ U U U ?_
  exact cB (eV (fun h=>by have:=h i om; simp only [Int.toNat_natCast] at C; omega)).symm
 refine cT<|aW<|KK O<|aF<|rP 2 [] I ?_
 refine aK ?_
 have H:(vI (((i+1):Nat):Int))=(vI ((i:Int)+1)):=by exact cI om
 refine bu (AB ⟨(i+1),⟨om,fun j hj=>by rcases Nat.lt_or_ge j i with q|q; exact B j q; (obtain rfl:j=i:=by omega); simp only [Int.toNat_natCast] at C; omega⟩⟩ _ _ _ rfl os (eb.cons rfl<|eb.cons rfl<|bJ rfl H<|eb.nil _) (aS [0,1,2,3,4]))
end
section
open Go.RowKit
theorem JU:
 c_ Tryz.prog 108 [] [] (vA ((e_.cells (e_.mk (Value.func (.func 132) [].toArray [].toArray)))++(e_.cells (e_.mk (Value.func (.func 134) [].toArray [].toArray)))++(e_.cells (e_.mk (Value.func (.func 138) [].toArray [].toArray)))++(e_.cells (e_.mk (Value.func (.func 142) [].toArray [].toArray))))):=by
 refine bq kr Tryz.func108 U U fun D Q hQ hN=>?_
 try dsimp only
 refine WS fun _ A=>AL U KA fun C=>RK A<|WS fun _ B=>rS (SX (aZ (xs:=[(0,.func 132)]) (cs:=(e_.cells (e_.mk (Value.func (.func 132) [].toArray [].toArray)))) U U (a_ Aj U)) U U)<|rS (SX (aZ (xs:=[(0,.func 134)]) (cs:=(e_.cells (e_.mk (Value.func (.func 134) [].toArray [].toArray)))) U U (a_ Aj U)) U U)<|rS (SX (aZ (xs:=[(0,.func 138)]) (cs:=(e_.cells (e_.mk (Value.func (.func 138) [].toArray [].toArray)))) U U (a_ Aj U)) U U)<|rS (SX (aZ (xs:=[(0,.func 142)]) (cs:=(e_.cells (e_.mk (Value.func (.func 142) [].toArray [].toArray)))) U U (a_ Aj U)) U U)<|rS (SX (aZ (xs:=[(0,.tmp 1),(1,.tmp 2),(2,.tmp 3),(3,.tmp 4)]) (cs:=((e_.cells (e_.mk (Value.func (.func 132) [].toArray [].toArray)))++(e_.cells (e_.mk (Value.func (.func 134) [].toArray [].toArray)))++(e_.cells (e_.mk (Value.func (.func 138) [].toArray [].toArray)))++(e_.cells (e_.mk (Value.func (.func 142) [].toArray [].toArray))))) U U (a_ Lb U)) U U)<|fF U K1 U<|RK B<|ay ?_
 exact yx hQ [0] (mc 0 U I) U U
theorem rX (l:bk) (kA:OA) (kC:Nat) (az:List RA) (cA:OA) (cC:Nat) (bA:OA) (bC:Nat) (hin:eM l az):
 c_ Tryz.prog 88 [(vA (cy.cells (kh l kA kC cA cC bA bC)))] [(rd kA l.aU.length 9 (l.aU.map av.cells)),(rd cA l.ar.length 2 (List.zipWith aB.cells l.ar az)),(dw (aX aB.gQ l.ar az)),(rd bA l.aa.length 4 (l.aa.map bD.cells))] (vI (dR l)):=by
 have A2:=hin.vZ
 have A0:=hin.v7
 have AO:=hin.oL
 have AP:=hin.vW
 have A1:=hin.side
 refine bq kr Tryz.func88 U U fun w0 Q hQ hN=>?_
 try dsimp only
 refine WS fun _ m=>e8 U fun b2=>br 1 U<|RK m<|aw fun _ n=>WS fun _ o=>br 1 U<|rS (LP (bS.cells (bS.mk (bj.mk kA l.aU.length kC))) 0 U ct U U U)<|rS (CL (wC l.aU kA kC asm asm) (aY [1]) U)<|br 1 U<|RK o<|WS fun _ p=>rP 2 [] I ?_
 refine RK p<|cO U (bI fun B=>?_) (bH fun B=>?_)
 ·refine WS fun _ q=>rP 2 [] I ?_
  refine RK q<|ay<|Q1 hQ U U U ?_
  (refine cI ?_; rw [(uE B).2,Cg (uE B).1])
 refine WK n<|aw fun _ s=>WS fun _ t=>?_
 have A:=yG B
 refine rS (CL JU (aH) U)<|br 1 U<|RK t<|aL<|nO 5<|iX fun R9 u=>WS fun _ C=>rS (SX (ef (r:= .bool true) U U U nv) U U)<|RK C<|aw fun _ D=>bo U<|WK D<|aw fun _ E=>aL<|WS fun _ F=>rS (SX (pX (vs:=(e_.cells (e_.mk (Value.func (.func 132) [].toArray [].toArray)))) 0 U U U Ae ct U dc U) U U)<|AL U Av fun x=>fF U Ak U<|RK F<|WS fun _ G=>gO 3 [0,1] (mc 0 U (mc 1 U I)) U<|rS (CL (JC l kA kC az cA cC bA bC hin) (aY [2,3,4,5]) U)<|rP 1 [] I ?_
 refine RK G<|cO U (bI fun g=>?_) (bH fun g=>?_)
 ·refine WS fun _ H=>rP 1 [] I ?_
  refine RK H<|ay<|Q1 hQ U U U ?_
  exact cI (pQ A fun h=>absurd h.head asm).symm
 refine cT<|aW<|KK E<|aF<|rS (SX (ef (r:= .int .i64 1) U U U (ly ⟨dc,dc⟩)) U U)<|br 1 U<|RK u<|iX fun R18 d=>WS fun _ AB=>rS (SX (ef (r:= .bool true) U U U nv) U U)<|RK AB<|aw fun _ J=>bo U<|WK J<|aw fun _ K=>aL<|WS fun _ L=>rS (SX (pX (vs:=(e_.cells (e_.mk (Value.func (.func 134) [].toArray [].toArray)))) 1 U U U Ae ct U dc U) U U)<|AL U Av fun y=>fF U Ak U<|RK L<|WS fun _ M=>gO 3 [0,1] (mc 0 U (mc 2 U I)) U<|rS (CL (Jz l kA kC az cA cC bA bC hin) (aY [3,4,5,6]) U)<|rP 1 [] I ?_
 refine RK M<|cO U (bI fun i=>?_) (bH fun i=>?_)
 ·refine WS fun _ N=>rP 1 [] I ?_
  refine RK N<|ay<|Q1 hQ U U U ?_
  exact cI (pQ A fun h=>absurd h.clock asm).symm
 refine cT<|aW<|KK K<|aF<|rS (SX (ef (r:= .int .i64 2) U U U (ly ⟨dc,dc⟩)) U U)<|br 1 U<|RK d<|iX fun R27 e=>WS fun _ O=>rS (SX (ef (r:= .bool true) U U U nv) U U)<|RK O<|aw fun _ P=>bo U<|WK P<|aw fun _ R=>aL<|WS fun _ S=>rS (SX (pX (vs:=(e_.cells (e_.mk (Value.func (.func 138) [].toArray [].toArray)))) 2 U U U Ae ct U dc U) U U)<|AL U Av fun z=>fF U Ak U<|RK S<|WS fun _ T=>gO 3 [0,1] (mc 0 U (mc 3 U I)) U<|rS (CL (Jy l kA kC az cA cC bA bC hin asm) (aY [4,5,6,7]) U)<|rP 1 [] I ?_
 refine RK T<|cO U (bI fun j=>?_) (bH fun j=>?_)
 ·refine WS fun _ AA=>rP 1 [] I ?_
  refine RK AA<|ay<|Q1 hQ U U U ?_
  exact cI (pQ A fun h=>absurd h.zt asm).symm
 refine cT<|aW<|KK R<|aF<|rS (SX (ef (r:= .int .i64 3) U U U (ly ⟨dc,dc⟩)) U U)<|br 1 U<|RK e<|iX fun R36 f=>WS fun _ V=>rS (SX (ef (r:= .bool true) U U U nv) U U)<|RK V<|aw fun _ W=>bo U<|WK W<|aw fun _ X=>aL<|WS fun _ Y=>rS (SX (pX (vs:=(e_.cells (e_.mk (Value.func (.func 142) [].toArray [].toArray)))) 3 U U U Ae ct U dc U) U U)<|AL U Av fun AC=>fF U Ak U<|RK Y<|WS fun _ Z=>gO 3 [0,1] (mc 0 U (mc 4 U I)) U<|rS (CL (JM l kA kC az cA cC bA bC hin asm asm) (aY [5,6,7,8]) U)<|rP 1 [] I ?_
 refine RK Z<|cO U (bI fun k=>?_) (bH fun k=>?_)
 ·refine WS fun _ a=>rP 1 [] I ?_
  refine RK a<|ay<|Q1 hQ U U U ?_
  exact cI (pQ A fun h=>absurd h.MY asm).symm
 refine cT<|aW<|KK X<|aF<|rS (SX (ef (r:= .int .i64 4) U U U (ly ⟨dc,dc⟩)) U U)<|br 1 U<|RK f<|iX fun R45 w=>WS fun _ b=>rS (SX (ef (r:= .bool false) U U U nv) U U)<|RK b<|aw fun _ v=>bT U<|bV<|ao<|ao<|aM<|KK s<|WS fun _ c=>rP 1 [] I ?_
 refine RK c<|ay<|Q1 hQ U U U ?_
 exact cI (xX A (Bb asm asm asm asm)).symm
theorem wB (lo hi:Int) (f:Value) (p:Int→Bool) (X:au) (r:Int) (hf: ∀ x0,0≤x0∧x0<hi→yd Tryz.prog f [.int .i64 x0] [X] (.bool (p x0))) (hb:0≤lo∧lo≤r∧r≤hi∧hi≤100000000) (hno: ∀ x,lo≤x→x<r→p x=false) (hyes: ∀ x,r≤x→x<hi→p x=true):
 c_ Tryz.prog 206 [(vI lo),(vI hi),f] [X] (vI r):=by
 refine bq kr Tryz.func206 U U fun N Q hQ hN=>?_
 try dsimp only
 refine WS fun _ F=>rP 1 [] I ?_
 refine RK F<|aw fun _ G=>aL ?_
 have A:(lo≤lo∧lo≤r)∧(r≤hi∧hi≤hi):=by omega
 refine cq (ι:={z:Int×Int // (lo≤z.1∧z.1≤r)∧(r≤z.2∧z.2≤hi)}) [2] [0] U U (fun z=>[(0,(vI z.1.1)),(1,(vI z.1.2))]) (fun z=>[]) (fun _=>rfl) (fun _=>rfl) (fun z=>(z.1.2-z.1.1).toNat) ⟨(lo,hi),A⟩ (bw U) (aS [0]) ?_
 clear A
 rintro ⟨⟨a,b⟩,⟨B,C⟩⟩ J3 D
 try dsimp only at B C
 try dsimp only
 refine aw fun _ H=>WS fun _ AA=>rP 3 [] I ?_
 refine RK AA<|cP U (bf fun M=>?_) (bc fun M=>?_)
 ·refine bV<|ao<|ao<|aM<|KK G<|WS fun _ L=>rP 2 [] I ?_
  refine RK L<|ay<|Q1 hQ U U U ?_
  exact cI om
 refine WK H<|aL<|WS fun _ J=>br 4 U<|rS (BI U (zE om om om))<|br 2 U<|RK J<|WS fun _ K=>rP 2 [] I ?_
 refine rS (SX (mQ U U U (hf (a+((b-a)/2)) om) (aY [0])) U U)<|RK K<|cO U (fun hp=>?_) (fun hp=>?_)
 ·refine aF<|rP 2 [] I ?_
  refine aK<|aW ?_
  refine bu (D ⟨(a,(a+((b-a)/2))),(by dsimp only; rcases Int.lt_or_le (a+(b-a)/2) r with q|q; (have E:=hno _ om q; (rw [E] at hp; cases hp)); (have E:=hyes _ q om; (refine ⟨⟨om,om⟩,om,om⟩)))⟩ _ _ _ rfl (by simp only []; omega) (bw rfl) (aS [0]))
 refine aF<|rP 3 [] I ?_
 refine aK<|aW ?_
 refine bu (D ⟨(((a+((b-a)/2))+1),b),(by dsimp only; rcases Int.lt_or_le (a+(b-a)/2) r with q|q; (have E:=hno _ om q; (refine ⟨⟨om,om⟩,om,om⟩)); (have E:=hyes _ q om; (rw [E] at hp; cases hp)))⟩ _ _ _ rfl (by simp only []; omega) (bw rfl) (aS [0]))
theorem C8 (u:Int) (c:aB) (sA:OA) (sC g1:Nat) (s:aG) (g2:Nat) (hc:eU c) (hu:0≤u∧u≤90000000):
 c_ Tryz.prog 207 [(vI u),(vP g1),(vP g2)] [(rd sA c.bO.length 3 (c.bO.map cV.cells)),(bU g1 133 (dV.cells (dV.mk c.eC (bj.mk sA c.bO.length sC)))),(bU g2 113 (aG.cells s))] (vB (decide (s.Read≤u+(g5 c u).Hi))):=by
 have C:=sx hc hu
 refine bq kr Tryz.func207 U U fun D Q hQ hN=>?_
 try dsimp only
 refine WS fun _ A=>br 1 U<|RK A<|aw fun _ B=>dh cu 10 kr<|mW 3 [] (mr 1 U I) U<|dS (CL (Ag c sA sC u hc hu) (aY [0]) U)<|dS (SX (tS (v:=(vI ((g5 c u).Hi))) U U fc Jo U) U U)<|dP 5 [] (mr 2 U I) ?_
 refine du<|RK B<|ay ?_
 exact Q1 hQ U U U U
theorem DE (u:Int) (c:aB) (sA:OA) (sC g1:Nat) (s:aG) (g2:Nat) (hc:eU c) (hu:0≤u∧u≤90000000):
 c_ Tryz.prog 209 [(vI u),(vP g1),(vP g2)] [(rd sA c.bO.length 3 (c.bO.map cV.cells)),(bU g1 133 (dV.cells (dV.mk c.eC (bj.mk sA c.bO.length sC)))),(bU g2 113 (aG.cells s))] (vB (decide (s.Read<u+(g5 c u).Lo))):=by
 have C:=sx hc hu
 refine bq kr Tryz.func209 U U fun D Q hQ hN=>?_
 try dsimp only
 refine WS fun _ A=>br 1 U<|RK A<|aw fun _ B=>dh cu 10 kr<|mW 3 [] (mr 1 U I) U<|dS (CL (Ag c sA sC u hc hu) (aY [0]) U)<|dS (SX (tS (v:=(vI ((g5 c u).Lo))) U U fc Kh U) U U)<|dP 5 [] (mr 2 U I) ?_
 refine du<|RK B<|ay ?_
 exact Q1 hQ U U U U
theorem vH (l:bk) (kA:OA) (kC:Nat) (az:List RA) (cA:OA) (cC:Nat) (bA:OA) (bC:Nat) (s:aG) (hin:eM l az) (hok:lZ l) (hs:(0≤s.e6∧s.e6≤(l.aa.length:Int)-1)∧0≤s.Read∧s.Read≤86400000):
 c_ Tryz.prog 184 [(vA (cy.cells (kh l kA kC cA cC bA bC))),(vA (aG.cells s))] [(rd kA l.aU.length 9 (l.aU.map av.cells)),(rd cA l.ar.length 2 (List.zipWith aB.cells l.ar az)),(dw (aX aB.gQ l.ar az)),(rd bA l.aa.length 4 (l.aa.map bD.cells))] (vA (ab.cells (dG l s))):=by
 have V:=hin.vZ
 have S:=hin.v7
 have P:=hin.oL
 have R:=hin.vW
 refine bq kr Tryz.func184 U U fun Z Q hQ hN=>?_
 try dsimp only
 refine WS fun _ AB=>e8 U fun X=>e8 U fun D=>AL U eI fun Y=>RK AB<|aw fun _ J=>dE cu [11,12] [] [] [0,1,2,3,4,5,6] [] U U U U U<|eS U (FA 2 U fc U)<|eS U (L1 (vS cA l.ar.length cC) 2 U ct U U)<|eS U (FA 3 U fc U)<|eS U (L1 (vS bA l.aa.length bC) 2 U ct U U)<|eS U (FA 0 U fc U)<|eS U (L1 (vI s.e6) 1 U ct U U) ?_
 obtain ⟨y,hy⟩:=aO l.aa ((s.e6).toNat) om
 have O:=cD bD.cells hy
 refine eS U (IA ((s.e6).toNat) U (aQ 6 U) B7 dc om om)<|eS U (x9 ((((s.e6).toNat)*4)+3) U (aQ 6 U) (Nat.mul_pos om dc) fc U)<|eS U (iY ((s.e6).toNat) 3 (vI y.mj) U ct (aQ 6 U) O U dc U) ?_
 have W:=(hok.zt _ (aP hy)).2
 obtain ⟨x,hx⟩:=aO l.ar ((y.mj).toNat) om
 obtain ⟨xa,F⟩:=aO az ((y.mj).toNat) om
 have N:(List.zipWith aB.cells l.ar az)[(y.mj).toNat]? =some (aB.cells x xa):=dj hx F
 refine eS U (IA ((y.mj).toNat) U (aQ 4 U) BN dc om om)<|eS U (nz ((y.mj).toNat) 0 (dV.cells (dV.mk x.eC (bj.mk xa.1 x.bO.length xa.2))) U ct (aQ 4 U) N U dc U U)<|er U<|cb U fun T6 L=>AL U Ia fun E=>aK (L _ _ (aS [1,2,3,4,5,6,7]) ?_)
 refine cb U fun T8 M=>fF U Ld U<|aK (M _ _ (aS [1,2,3,4,5,6,7]) ?_)
 refine fD U<|KK J<|WS fun _ K=>?_
 have A:=hok.clock _ (aP hx)
 have AA:=ld (p:=jc x s.Read) (n:=86400001)
 have T:=ld (p:=je x s.Read) (n:=86400001)
 refine rS (FU U) ?_
 refine rS (CL (wB 0 86400001 (Value.func (.func 207) [].toArray [(vP E),(vP D)].toArray) (fun B=>(decide (s.Read≤B+(g5 x B).Hi))) (dw [(rd xa.1 x.bO.length 3 (x.bO.map cV.cells)),(bU E 133 (dV.cells (dV.mk x.eC (bj.mk xa.1 x.bO.length xa.2)))),(bU D 113 (aG.cells s))]) (gK (jc x s.Read) 86400001) (by intro B _; exact jd (fi:=[]) (ca:=[(vP E),(vP D)]) (ib (C8 B x xa.1 xa.2 E s D (by first|assumption|omega) (by first|assumption|omega)) (JD 0 1 2 U U U U U U))) om (by intro z G hz; exact (oz A G om).1 hz) (by intro z hz H; exact (oz A om H).2.1 hz)) (ai (ij (ai (show iE _ (rd xa.1 x.bO.length 3 (x.bO.map cV.cells)).holds from (cY 6 U (bM hx F (by simp [aB.gQ]))))<|dN 0 U U<|dN 2 U U<|aH))<|aH) U) ?_
 refine rS (FU U) ?_
 refine rS (CL (wB 0 86400001 (Value.func (.func 209) [].toArray [(vP E),(vP D)].toArray) (fun C=>(decide (s.Read<C+(g5 x C).Lo))) (dw [(rd xa.1 x.bO.length 3 (x.bO.map cV.cells)),(bU E 133 (dV.cells (dV.mk x.eC (bj.mk xa.1 x.bO.length xa.2)))),(bU D 113 (aG.cells s))]) (gK (je x s.Read) 86400001) (by intro C _; exact jd (fi:=[]) (ca:=[(vP E),(vP D)]) (ib (DE C x xa.1 xa.2 E s D (by first|assumption|omega) (by first|assumption|omega)) (JD 0 1 2 U U U U U U))) om (by intro z G hz; exact (oz A G om).2.2.1 hz) (by intro z hz H; exact (oz A om H).2.2.2 hz)) (ai (ij (ai (show iE _ (rd xa.1 x.bO.length 3 (x.bO.map cV.cells)).holds from (cY 6 U (bM hx F (by simp [aB.gQ]))))<|dN 0 U U<|dN 2 U U<|aH))<|aH) U) ?_
 refine rP 1 [] I ?_
 refine rS (SX (aZ (xs:=[(0,.tmp 18),(1,.tmp 21)]) (cs:=(ab.cells (ab.mk (gK (jc x s.Read) 86400001) ((gK (je x s.Read) 86400001)-1)))) U U (a_ jr U)) U U)<|rL U dC U<|RK K<|ay<|yx hQ [0] (mc 1 U I) U ?_
 unfold dG pO; rw [yh hy hx]
end
section
open Go.RowKit
structure C4 (S:BS) (w0:World) (X:au) (C0:List au) (w:World) (S':BS):Prop where
 st:St S w0 (X::C0) w
 w_: ∀ b,S'.w b↔ ∃ A∈C0,A.wf b
theorem zc {A B:au} (h:x3 A B):x3 A.ro B:=fun b C D=>⟨fun h=>h,(h b C D).2⟩
theorem EY {E:dK} {c:Code} {Q:cv} {D:fu} {L:cJ} {C C0:List au} {X:au} (i:Nat) (hn:decide (i::(List.range C.length).filter fun k=>k != i).Nodup=true) (hC:jq C (i::(List.range C.length).filter fun k=>k != i)=X::C0)
 (h: ∀ w S',C4 E.S E.w0 X C0 w S'→WJ ⟨E.P,E.r,E.n,S',w⟩ c Q D L (X.ro::C0)):WJ E c Q D L C:=fun a w hf hs=>by
 have F:=St.jq _ hn hC hs
 obtain ⟨G,H⟩:=List.pairwise_cons.1 F.sep
 refine h w ⟨fun b=> ∃ A∈C0,A.wf b,fun _=>True⟩ ⟨F,fun b=>Iff.rfl⟩ a w hf ⟨cW.refl _ _,fun A hA=>?_,List.Pairwise.cons (fun B hB=>zc (G B hB)) H,fun A hA b hb=>?_,fun A hA b hb=> .inr trivial⟩
 ·rcases bB.1 hA with rfl|hA
  ·exact F.holds X (cf ..)
  ·exact F.holds A (db _ hA)
 ·rcases bB.1 hA with rfl|hA
  ·exact hb.elim
  ·exact .inr ⟨A,hA,hb⟩
theorem Js {E:dK} {S':BS} {w:World} {K:Act→World→Prop} {D:fu} {L:cJ} {C0 C1 C2:List au} {X:au} (hz:C4 E.S E.w0 X C0 w S') (is:List Nat) (hn:decide is.Nodup=true) (hC:jq C2 is=C1) (hwr:C1.all (·.wr)=true)
 (h:KJ E K D L (X::C1)):KJ ⟨E.P,E.r,E.n,S',w⟩ K D L C2:=fun a w' hf hs=>by
 have F:=St.jq is hn hC hs
 have C:=hz.st
 obtain ⟨J,M⟩:=List.pairwise_cons.1 C.sep
 have AA: ∀ b,X.dQ b→ ¬ S'.w b:=fun b hb hw=>by
  obtain ⟨A,hA,hw⟩:=(hz.w_ b).1 hw
  exact (J A hA b hb (A.iW b hw)).2 hw
 have G: ∀ b,S'.w b→E.w0.heap.size≤b∨E.S.w b:=fun b hb=>by
  obtain ⟨A,hA,hw⟩:=(hz.w_ b).1 hb
  exact C.own A (db _ hA) b hw
 have H: ∀ A∈C1,∀ b,A.dQ b→w.heap.size≤b∨S'.w b:=fun A hA b hb=>F.own A hA b (A.whole (cm.1 hwr A hA) b hb)
 refine h a w' hf ⟨?_,fun A hA=>?_,List.Pairwise.cons (fun B hB b hb hb'=>?_) F.sep,fun A hA b hb=>?_,fun A hA b hb=>?_⟩
 ·refine ⟨F.keeps.os.trans C.keeps.os,F.keeps.tape.trans C.keeps.tape,F.keeps.output.trans C.keeps.output,Nat.le_trans C.keeps.size F.keeps.size,fun k hk hn'=>?_⟩
  refine (F.keeps.block k (Nat.lt_of_lt_of_le hk C.keeps.size) fun hw=>?_).trans (C.keeps.block k hk hn')
  rcases G k hw with q|q
  ·omega
  ·exact hn' q
 ·rcases bB.1 hA with rfl|hA
  ·have hh:=C.holds A (cf ..)
   exact A.mo w w' (fun b hb=>F.keeps.block b (A.lt w hh b hb) (AA b hb)) hh
  ·exact F.holds A hA
 ·exfalso
  have hl:=X.lt w (C.holds X (cf ..)) b hb
  rcases H B hB b hb' with q|q
  ·omega
  ·exact AA b hb q
 ·rcases bB.1 hA with rfl|hA
  ·exact C.own A (cf ..) b hb
  ·rcases F.own A hA b hb with q|q
   ·exact .inl (Nat.le_trans C.keeps.size q)
   ·exact G b q
 ·rcases bB.1 hA with rfl|hA
  ·exact C.seen A (cf ..) b hb
  ·rcases H A hA b hb with q|q
   ·exact .inl (Nat.le_trans C.keeps.size q)
   ·obtain ⟨B,hB,hw⟩:=(hz.w_ b).1 q
    exact C.seen B (db _ hB) b (B.iW b hw)
/-- put back, as it was -/
theorem B5 {M A:Type} {f:M→A→List au} {S:BS} {w0 w:World} {C:List au} {ms:List M} {asl:List A} {k:Nat} {m:M} {a:A} {X:au} (hm:ms[k]? =some m) (ha:asl[k]? =some a) (hf:f m a=[X]) (h:St S w0 (X::bx (eF f ms asl k)::C) w):St S w0 (bx (aX f ms asl)::C) w:=by
 have B:St S w0 (bx (eF f ms asl k)::X::C) w:=h.perm (List.Perm.swap _ _ _)
 have D:St S w0 ((f m a++eF f ms asl k)++C) w:=by
  rw [hf]
  exact B.iA.perm (List.perm_middle (a:=X) (l₁:=eF f ms asl k) (l₂:=C))
 exact jX (jT hm ha).symm D.tied
theorem CW {E:dK} {K:Act→World→Prop} {D:fu} {L:cJ} {C C1:List au} {M A:Type} {f:M→A→List au} {ms:List M} {asl:List A} {k:Nat} {m:M} {a:A} {X:au} (i j:Nat) (hm:ms[k]? =some m) (ha:asl[k]? =some a) (hf:f m a=[X])
 (hn:decide (j::i::(List.range C.length).filter fun k=>k != i&&k != j).Nodup=true) (hC:jq C (j::i::(List.range C.length).filter fun k=>k != i&&k != j)=X::bx (eF f ms asl k)::C1)
 (h:KJ E K D L (bx (aX f ms asl)::C1)):KJ E K D L C:=fun a w hf' hs=>h a w hf' (B5 hm ha hf (St.jq _ hn hC hs))
theorem tI {M A:Type} {f:M→A→List au} {ms:List M} {asl:List A} {m:M} {a:A} {X:au} (hl:ms.length=asl.length) (hf:f m a=[X]):aX f ms asl++[X]=aX f (ms++[m]) (asl++[a]):=by
 rw [kf hl,← hf]; simp [aX]
theorem uf {E:dK} {K:Act→World→Prop} {D:fu} {L:cJ} {C C1:List au} {M A:Type} {f:M→A→List au} {ms:List M} {asl:List A} {m:M} {a:A} {X:au} (i j:Nat) (hf:f m a=[X])
 (hn:decide (j::i::(List.range C.length).filter fun k=>k != i&&k != j).Nodup=true) (hC:jq C (j::i::(List.range C.length).filter fun k=>k != i&&k != j)=X::bx (aX f ms asl)::C1)
 (h:KJ E K D L (bx (aX f (m::ms) (a::asl))::C1)):KJ E K D L C:=fun b w hf' hs=>by
 have B:=St.jq _ hn hC hs
 have F:St E.S E.w0 (bx (aX f ms asl)::X::C1) w:=B.perm (List.Perm.swap _ _ _)
 have G:St E.S E.w0 (aX f (m::ms) (a::asl)++C1) w:=by
  show St E.S E.w0 ((f m a++aX f ms asl)++C1) w
  rw [hf]
  exact F.iA.perm (List.perm_middle (a:=X) (l₁:=aX f ms asl) (l₂:=C1))
 exact h b w hf' G.tied
end
section
open Go.RowKit
abbrev jS (r:Nat):au:=gL r (.deferred (some []))
theorem Gh (rs:List Nat):(bx (rs.map jS)).wr=true:=by
 show (rs.map jS).all (·.wr)=true
 rw [cm]
 intro X hX
 obtain ⟨r,_,rfl⟩:=cp.1 hX
 rfl
theorem rQ {E:dK} {c:Code} {Q:cv} {D:fu} {L:cJ} {C:List au} {ι:Type} (Di:ι→fu) (Li:ι→cJ) (Ci:ι→List au) (μ:ι→Nat) (x0:ι)
 (hD:D=Di x0) (h0:eb L (Li x0)) (hC: ∀ w,St E.S E.w0 C w→St E.S E.w0 (Ci x0) w)
 (round: ∀ x (J:Act→World→Prop),(∀ y D' L' C',D'=Di y→μ y<μ x→eb L' (Li y)→(∀ w,St E.S E.w0 C' w→St E.S E.w0 (Ci y) w)→KJ E J D' L' C')→WJ E c (Exit.then J Q) (Di x) (Li x) (Ci x)):WJ E (.loop c) Q D L C:=by
 intro a w hf hs
 subst hD
 have H: ∃ x,Fr E.n (Di x) (Li x) a∧St E.S E.w0 (Ci x) w:=⟨x0,hf.sub h0,hC w hs⟩
 clear hf hs
 have key: ∀ (m:Nat) (a:Act) (w:World),(∃ x,μ x=m∧Fr E.n (Di x) (Li x) a∧St E.S E.w0 (Ci x) w)→(Code.loop c).wpIn (Fw E.r) 0 E.P Q a w:=by
  intro m a w hx
  refine wpIn_loop (fun a w=> ∃ x,Fr E.n (Di x) (Li x) a∧St E.S E.w0 (Ci x) w) (fun a w=>leastOf fun k=> ∃ x,μ x=k∧Fr E.n (Di x) (Li x) a∧St E.S E.w0 (Ci x) w) (by obtain ⟨x,_,h⟩:=hx; exact ⟨x,h⟩) ?_
  intro a w hx
  have F: ∃ k,∃ x,μ x=k∧Fr E.n (Di x) (Li x) a∧St E.S E.w0 (Ci x) w:=by obtain ⟨x,h⟩:=hx; exact ⟨_,x,rfl,h⟩
  obtain ⟨x,K,AA,M⟩:=(leastOf_spec F).1
  refine round x _ ?_ a w AA M
  intro y D' L' C' hD G A B a' w' hf' hs'
  subst hD
  refine ⟨⟨y,hf'.sub A,B _ hs'⟩,?_⟩
  rw [← K]
  exact Nat.lt_of_le_of_lt ((leastOf_spec ⟨_,y,U,hf'.sub A,B _ hs'⟩).2 _ ⟨y,U,hf'.sub A,B _ hs'⟩) G
 obtain ⟨x,h⟩:=H
 exact key _ a w ⟨x,U,h⟩
theorem St.Nz {S:BS} {w0 w:World} {C X:List au} {A:au} (h:St S w0 (A::bx X::C) w):St S w0 (bx (A::X)::C) w:=by
 have B:St S w0 (bx X::A::C) w:=h.perm (List.Perm.swap _ _ _)
 have D:St S w0 ((A::X)++C) w:=B.iA.perm (List.perm_middle (a:=A) (l₁:=X) (l₂:=C))
 exact D.tied
theorem Fp {E:dK} {K:Act→World→Prop} {D:fu} {L:cJ} {C C1 X:List au} {A:au} (i j:Nat) (hn:decide (j::i::(List.range C.length).filter fun k=>k != i&&k != j).Nodup=true) (hC:jq C (j::i::(List.range C.length).filter fun k=>k != i&&k != j)=A::bx X::C1)
 (h:KJ E K D L (bx (A::X)::C1)):KJ E K D L C:=fun a w hf hs=>h a w hf ((St.jq _ hn hC hs).Nz)
theorem Jm {E:dK} {K:Act→World→Prop} {D:fu} {L:cJ} {C:List au} (h:KJ E K D L (bx []::C)):KJ E K D L C:=fun a w hf hs=>h a w hf hs.Ja
theorem IK {E:dK} {K:Act→World→Prop} {D:fu} {L:cJ} (C1 C2:List au) (h:KJ E K D L (bx C1::C2)):KJ E K D L (C1++C2):=fun a w hf hs=>h a w hf (St.tied hs)
theorem HG {E:dK} {fn:Func} {R:Ending→World→Prop} {D:fu} {L:cJ} {C C1:List au} {rs:List Nat} (i:Nat) (hn:decide (i::(List.range C.length).filter fun k=>k != i).Nodup=true) (hC:jq C (i::(List.range C.length).filter fun k=>k != i)=bx (rs.map jS)::C1)
 (h:LJ E fn R D L C1):LJ E fn R (rs.map ia++D) L C:=by
 have key: ∀ rs:List Nat,LJ E fn R (rs.map ia++D) L (bx (rs.map jS)::C1):=by
  intro rs
  induction rs with
  |nil=>exact fun a w hf hs=>h a w hf (hs.take (List.sublist_cons_self _ _))
  |cons r rs ih=>
   have A:LJ E fn R (ia r::(rs.map ia++D)) L (jS r::bx (rs.map jS)::C1):=nB 0 rfl rfl (fun a w hf hs=>ih a w hf (hs.take (List.sublist_cons_self _ _)))
   intro a w hf hs
   refine A a w hf ?_
   have B:St E.S E.w0 ((jS r::rs.map jS)++C1) w:=St.iA (C1:=jS r::rs.map jS) hs
   have F:St E.S E.w0 (rs.map jS++(jS r::C1)) w:=B.perm (List.perm_middle (a:=jS r) (l₁:=rs.map jS) (l₂:=C1)).symm
   exact F.tied.perm (List.Perm.swap _ _ _)
 exact fun a w hf hs=>key rs a w hf (St.jq _ hn hC hs)
theorem C9 {E:dK} {fn:Func} {R:Ending→World→Prop} {L:cJ} {C C1:List au} {rs:List Nat} (i:Nat) (hn:decide (i::(List.range C.length).filter fun k=>k != i).Nodup=true) (hC:jq C (i::(List.range C.length).filter fun k=>k != i)=bx (rs.map jS)::C1)
 (h:LJ E fn R [] L C1):LJ E fn R (rs.map ia) L C:=by
 have:=HG (D:=[]) i hn hC h
 rwa [List.append_nil] at this
end
section
open Go.RowKit
theorem AD (fs:List FM) (fb:List Nat):(bx (aX km fs fb)).wr=true:=by
 show (aX km fs fb).all (·.wr)=true
 rw [cm]
 intro X hX
 obtain ⟨k,m,a,_,_,h⟩:=iw hX
 simp only [km,bW] at h
 subst h; rfl
theorem HT (fs:List TM) (fb:List Nat):(bx (aX na fs fb)).wr=true:=by
 show (aX na fs fb).all (·.wr)=true
 rw [cm]
 intro X hX
 obtain ⟨k,m,a,_,_,h⟩:=iw hX
 simp only [na,bW] at h
 subst h; rfl
end
section
def cK (bl:List Nat) (n:Nat):List (Option Nat):=bl.map some++List.replicate (n-bl.length) none
def fJ (bl:List Nat) (n:Nat):List (Option Nat):=List.replicate (n-bl.length) none++bl.map some
theorem kB {bl:List Nat} {n:Nat} (h:bl.length≤n):(cK bl n).length=n:=by simp [cK]; omega
theorem uq {bl:List Nat} {n:Nat} (h:bl.length≤n):(fJ bl n).length=n:=by simp [fJ]; omega
theorem qI {n:Nat}:List.replicate n none=cK [] n:=by simp [cK]
theorem B6 {n:Nat}:List.replicate n none=fJ [] n:=by simp [fJ]
theorem tM {bl:List Nat} {n:Nat} (h:bl.length=n):cK bl n=bl.map some:=by simp [cK,h]
theorem BR {bl:List Nat} {n:Nat} (h:bl.length=n):fJ bl n=bl.map some:=by simp [fJ,h]
theorem j5 {bl:List Nat} {n k g:Nat} (h:bl[k]? =some g):(cK bl n)[k]? =some (some g):=by
 have hk:=(bg.1 h).1
 unfold cK
 rw [List.getElem?_append_left (by simpa using hk),fT,h]; rfl
theorem px {bl:List Nat} {n k i g:Nat} (h:bl[i]? =some g) (hk:k=n-bl.length+i):(fJ bl n)[k]? =some (some g):=by
 subst hk
 unfold fJ
 rw [List.getElem?_append_right sm,fT,List.length_replicate,Nat.add_sub_cancel_left,h]; rfl
theorem oq {bl:List Nat} {n k g:Nat} (hk:k=bl.length) (h:bl.length<n):(cK bl n).set k (some g)=cK (bl++[g]) n:=by
 subst hk
 unfold cK
 rw [List.set_append_right _ _ sm]
 have e:n-bl.length=(n-(bl++[g]).length)+1:=by simp; omega
 rw [e,List.replicate_succ]
 simp
theorem Bc {bl:List Nat} {n k g:Nat} (hk:k+1+bl.length=n):(fJ bl n).set k (some g)=fJ (g::bl) n:=by
 unfold fJ
 have e:n-bl.length=k+1:=by omega
 have A:n-(g::bl).length=k:=by simp; omega
 rw [e,A,List.set_append_left _ _ sm,List.replicate_succ',List.set_append_right _ _ sm]
 simp
theorem ng {l:List (Option Nat)} {k g:Nat} (h:l[k]? =some (some g)):(l.map oC)[k]? =some (oC (some g)):=by rw [fT,h]; rfl
theorem uP {α:Type} {l:List α} {x:α} {k:Nat} (h:k=l.length):(l++[x])[k]? =some x:=by subst h; simp
theorem EP {α:Type} {l:List α} {x y:α} {k:Nat} (h:l[k]? =some y):(l++[x])[k]? =some y:=by rw [List.getElem?_append_left (bg.1 h).1]; exact h
structure nd (w:bG) (fs:List FM):Prop where
 all: ∀ (b:Nat) m,fs[b]? =some m→pH m (fwd w b)∧(m.map (·.1)).Nodup
structure fR (w:bG) (k:Nat) (bs:List FM):Prop where
 all: ∀ (i:Nat) m,bs[i]? =some m→q8 m (back w (k+i))∧(m.map (·.1)).Nodup
variable {w:bG} {b:Nat} {mb m left:List (aA×Int)} {o:Int×ab} {os:List (Int×ab)} {p:aA×Int}
theorem nd.first:nd w [[(⟨0,0⟩,w.Start)]]:=⟨fun b m h=>by
 match b with
 |0=>simp at h; subst h; exact ⟨BX,sm⟩
 |n+1=>simp at h⟩
theorem nd.add {fs:List FM} (h:nd w fs) (hl:fs.length=b+1) (hmb:fs[b]? =some mb) (hm:sG w b m) (hd:iD w b mb m left) (h0:left=[]):nd w (fs++[m]):=⟨fun i x hx=>by
 rcases Nat.lt_or_ge i fs.length with q|q
 ·rw [List.getElem?_append_left q] at hx; exact h.all i x hx
 ·rw [List.getElem?_append_right q] at hx
  have hi:i-fs.length=0:=by
   rcases Nat.eq_zero_or_pos (i-fs.length) with z|z
   ·exact z
   ·rw [List.getElem?_eq_none (by simp; omega)] at hx; cases hx
  rw [hi] at hx
  simp at hx; subst hx
  obtain rfl:i=b+1:=by omega
  have A:=h.all b mb hmb
  exact ⟨D9 A.2 A.1 hm.snd (hd.fin h0),hm.keys⟩⟩
theorem nd.ok {fs:List FM} (h:nd w fs) (hl:fs.length=w.n+1):qU w fs:=⟨hl,fun b m hm=>(h.all b m hm).1,fun b m hm=>(h.all b m hm).2⟩
theorem fR.none_:fR w b []:=⟨fun i m h=>by simp at h⟩
theorem fR.last (hb:w.n≤b):fR w b [[(⟨0,0⟩,w.gp)]]:=⟨fun i m h=>by
 match i with
 |0=>simp at h; subst h; exact ⟨EA om,sm⟩
 |n+1=>simp at h⟩
theorem fR.add {bs:List FM} (h:fR w (b+1) bs) (hb:b<w.n) (hmb:bs[0]? =some mb) (hm:rj w b m) (hd:h_ w b mb m left) (h0:left=[]):fR w b (m::bs):=⟨fun i x hx=>by
 match i with
 |0=>
  simp at hx; subst hx
  have A:=h.all 0 mb hmb
  exact ⟨EL hb A.2 A.1 hm.snd hm.zero (hd.fin h0),hm.keys⟩
 |n+1=>
  have:=h.all n x (by simpa using hx)
  rw [show b+1+n=b+(n+1) by omega] at this
  exact this⟩
theorem fR.ok {bs:List FM} (h:fR w 0 bs) (hl:bs.length=w.n+1):pj w bs:=⟨hl,fun b m hm=>by have:=(h.all b m hm).1; rwa [Nat.zero_add] at this,fun b m hm=>(h.all b m hm).2⟩
/-- on the way through one entry's options -/
structure kO (w:bG) (b:Nat) (mb left m:List (aA×Int)) (p:aA×Int) (os:List (Int×ab)):Prop where
 on:sG w b m
 p9:iD w b mb m left
 done:gW w b m p os
structure kU (w:bG) (b:Nat) (mb left m:List (aA×Int)) (p:aA×Int) (os:List (Int×ab)):Prop where
 on:rj w b m
 p9:h_ w b mb m left
 done:gY w b m p os
theorem kO.start (h:sG w b m) (h2:iD w b mb m left):kO w b mb left m p []:=⟨h,h2,fun o ho=>by cases ho⟩
theorem kU.start (h:rj w b m) (h2:h_ w b mb m left):kU w b mb left m p []:=⟨h,h2,fun o ho=>by cases ho⟩
theorem AR {q:aA×Int} (h:(m.lookup q.1).isSome=false∨q.2<(m.lookup q.1).getD 0):mE m q=c3 m q.1 q.2:=by
 unfold mE
 cases e:m.lookup q.1 with
 |none=>rfl
 |some v=>rw [e] at h; simp at h; simp only; rw [if_pos h]
theorem yU {q:aA×Int} (h:(m.lookup q.1).isSome=true) (h2: ¬ q.2<(m.lookup q.1).getD 0):mE m q=m:=by
 unfold mE
 cases e:m.lookup q.1 with
 |none=>rw [e] at h; cases h
 |some v=>rw [e] at h2; simp only [Option.getD_some] at h2; simp only; rw [if_neg h2]
theorem Bp {q:aA×Int} (h:(m.lookup q.1).isSome=false∨(m.lookup q.1).getD 0<q.2):mi m q=c3 m q.1 q.2:=by
 unfold mi
 cases e:m.lookup q.1 with
 |none=>rfl
 |some v=>rw [e] at h; simp at h; simp only; rw [if_pos h]
theorem yT {q:aA×Int} (h:(m.lookup q.1).isSome=true) (h2: ¬ (m.lookup q.1).getD 0<q.2):mi m q=m:=by
 unfold mi
 cases e:m.lookup q.1 with
 |none=>rw [e] at h; cases h
 |some v=>rw [e] at h2; simp only [Option.getD_some] at h2; simp only; rw [if_neg h2]
theorem uV {t:aA} {v y:Int} (hy:w.nj[b]? =some y) (h:max (v+y) o.2.Lo≤min o.2.Hi w.gp):iZ w b (t,v) o=some (dv t (eo o.1),max (v+y) o.2.Lo):=by
 have e:=kX hy
 subst e
 exact CR h
theorem Ef {t:aA} {v y:Int} (hy:w.nj[b]? =some y) (h: ¬ max (v+y) o.2.Lo≤min o.2.Hi w.gp):iZ w b (t,v) o=none:=by
 have e:=kX hy
 subst e
 exact GD h
theorem vQ {t:aA} {v y:Int} (hy:w.nj[b]? =some y) (h:o.2.Lo≤min v o.2.Hi):lq w b (t,v) o=some (dv t (eo o.1),min v o.2.Hi-y):=by
 have e:=kX hy
 subst e
 exact E3 h
theorem kO.set {q:aA×Int} (h:kO w b mb left m p os) (hp:p∈fwd w b) (ho:o∈gP w b) (he:iZ w b p o=some q) (hs:(m.lookup q.1).isSome=false∨q.2<(m.lookup q.1).getD 0):kO w b mb left (c3 m q.1 q.2) p (os++[o]):=by
 rw [← AR hs]
 exact ⟨h.on.add hp ho he,h.p9.lower qV,h.done.E2 he⟩
theorem kO.mo {q:aA×Int} (h:kO w b mb left m p os) (he:iZ w b p o=some q) (hs:(m.lookup q.1).isSome=true) (h2: ¬ q.2<(m.lookup q.1).getD 0):kO w b mb left m p (os++[o]):=by
 have:=h.done.E2 he
 rw [yU hs h2] at this
 exact ⟨h.on,h.p9,this⟩
theorem kO.skip (h:kO w b mb left m p os) (he:iZ w b p o=none):kO w b mb left m p (os++[o]):=⟨h.on,h.p9,h.done.none_ he⟩
theorem kU.set {q:aA×Int} (hb:b<w.n) (h:kU w b mb left m p os) (hp:p∈back w (b+1)) (ho:o∈gP w b) (he:lq w b p o=some q) (hs:(m.lookup q.1).isSome=false∨(m.lookup q.1).getD 0<q.2):kU w b mb left (c3 m q.1 q.2) p (os++[o]):=by
 rw [← Bp hs]
 exact ⟨h.on.add hb hp ho he,h.p9.upper oa,h.done.E2 he⟩
theorem kU.mo {q:aA×Int} (h:kU w b mb left m p os) (he:lq w b p o=some q) (hs:(m.lookup q.1).isSome=true) (h2: ¬ (m.lookup q.1).getD 0<q.2):kU w b mb left m p (os++[o]):=by
 have:=h.done.E2 he
 rw [yT hs h2] at this
 exact ⟨h.on,h.p9,this⟩
theorem kU.skip (h:kU w b mb left m p os) (he:lq w b p o=none):kU w b mb left m p (os++[o]):=⟨h.on,h.p9,h.done.none_ he⟩
theorem kO.next {t:aA} {v:Int} (hn:(left.map (·.1)).Nodup) (hm:(t,v)∈left) (h:kO w b mb left m (t,v) os) (ho: ∀ o∈gP w b,o∈os):iD w b mb m (dF left t):=h.p9.next hn hm h.done ho
theorem kU.next {t:aA} {v:Int} (hn:(left.map (·.1)).Nodup) (hm:(t,v)∈left) (h:kU w b mb left m (t,v) os) (ho: ∀ o∈gP w b,o∈os):h_ w b mb m (dF left t):=h.p9.next hn hm h.done ho
theorem nd.mem {fs:List FM} (h:nd w fs) (hm:fs[b]? =some mb) (hp:p∈mb):p∈fwd w b:=(h.all b mb hm).1.1 _ _ ((dU (h.all b mb hm).2).1 hp)
theorem fR.Oa {bs:List FM} {k:Nat} (h:fR w k bs) (hk:k=b+1) (hm:bs[0]? =some mb) (hp:p∈mb):p∈back w (b+1):=by
 subst hk
 exact (h.all 0 mb hm).1.1 _ _ ((dU (h.all 0 mb hm).2).1 hp)
theorem fR.end_ {bs:List FM} {k j:Nat} (h:fR w k bs) (hj:bs.length=0) (hk:j=b) (hb:w.n≤b):fR w j ([(⟨0,0⟩,w.gp)]::bs):=by
 subst hk
 rw [oB hj]
 exact fR.last hb
theorem fR.more {bs:List FM} {k j:Nat} (h:fR w k bs) (hk:k=b+1) (hj:j=b) (hb:b<w.n) (hmb:bs[0]? =some mb) (hm:rj w b m) (hd:h_ w b mb m left) (h0:left=[]):fR w j (m::bs):=by
 subst hk hj
 exact h.add hb hmb hm hd h0
end
section
open Go.RowKit
theorem jk {a:OA} {c e sz n:Nat} {es:List (List Value)} (h:es.length=n):Dc (own a c e sz es) (rd a n sz es):=by subst h; exact Gr
theorem nI {L:List au}:Dc (bx L) (dw L):=⟨fun w h=>h.1,fun b h=>h⟩
theorem AE {b:Nat} {fb:List Nat} {g:Nat} (h:fb.length=b):aX na (List.replicate b ([]:TM)) fb++[iB iV g (b0 ik [])]=aX na (List.replicate (b+1) ([]:TM)) (fb++[g]):=by
 rw [List.replicate_succ']
 exact tI (by rw [List.length_replicate]; exact h.symm) U
theorem Me {α:Type} {ms:List α} {fb:List Nat} {n:Nat} (h:fb.length=n) (h2:ms.length=n):List.map oC (cK fb n)=List.zipWith eu ms fb:=by
 rw [tM h]; exact (vk om).symm
theorem lJ {l:bk} {r:cM} {i:Nat} {x:aG} (hx:r.aj[i]? =some x) (h: ¬ iu l r.aj i x): ¬ fE l r:=fun q=>h (q.sig i x hx)
end
section
open Go.RowKit
theorem o8 (ln:cy) (ri:cS) (e:List Int) (tms:List TM) (e_A:OA) (e_C:Nat) (tb:List Nat) (t_A:OA) (t_C:Nat) (fA:OA) (fN fC:Nat) (bA:OA) (bN bC:Nat) (gw b:Nat) (g1 g2:Nat) (hb:b<tms.length) (htb:tb.length=tms.length):
 GN Tryz.prog 210 [] [(vP g1),(vP g2)] [(rd e_A e.length 1 (e.map iC)),(rd t_A tms.length 1 (List.zipWith eu tms tb)),(dw (aX na tms tb)),(bU gw 276 (bE.cells (bE.mk ln ri (bj.mk e_A e.length e_C) (bj.mk t_A tms.length t_C) (bj.mk fA fN fC) (bj.mk bA bN bC)))),(bU g1 228 [(vP gw)]),(bU g2 3 [(vI (b:Int))])] ([]:List (Int×ab)) (fun ys x ys'=> ∃ o,o∈gP (cd ln ri e tms) b∧x=H0 o∧ys'=ys++[o]) (fun ys=> ∀ o∈gP (cd ln ri e tms) b,o∈ys):=by
 refine zS kr Tryz.func210 U U fun l J Z A0 d Q hY V AA hQ hN=>?_
 try dsimp only
 refine aw fun _ X=>aw fun _ R=>dh cu 12 kr<|mW 2 [] (mr 5 U I) U<|dS (SX (bK U U) U U)<|mW 4 [0,1] (mr 4 U (mr 5 U I)) U<|dS (SX (bK U U) U U)<|dP 3 [] (mr 4 U I) ?_
 refine dS (SX (aZ (xs:=[(0,.tmp 11),(1,.tmp 16)]) (cs:=(ab.cells (ab.mk ri.Start ri.gp))) U U (a_ jr U)) U U)<|du<|sS (k:=([]:List (Int×ab))) (k':=(([]:List (Int×ab))++[((-1),(ab.mk ri.Start ri.gp))])) 0 (by first|exact hsz|exact Nat.le_refl _) hY V AA U U U (by exact ⟨(-1,⟨ri.Start,ri.gp⟩),cf ..,U,U⟩) U U (fun B3 N M=>?_) (fun B3 N M=>?_)
 rotate_left 1
 ·refine rP 1 [] I ?_
  refine RK R<|bo U<|ay ?_
  refine hQ _ _ _ (ig (vs:=[]) trivial fun w hs=>zI 0 U N M hs)
 refine br 1 U<|RK R<|bT U<|WK X<|aw fun _ Y=>dh cu 7 kr<|mW 1 [] (mr 5 U I) U<|dS (SX (bK U U) U U)<|dP 3 [0,1] (mr 4 U (mr 6 U I)) ?_
 obtain ⟨x,hx⟩:=aO tms b om
 obtain ⟨xa,L⟩:=aO tb b om
 have a:(List.zipWith eu tms tb)[b]? =some (eu x xa):=dj hx L
 refine dS (IA b U (aQ 2 U) se dc om om)<|dS (iY b 0 (Value.map (some xa)) U ct (aQ 2 U) a U dc U)<|du<|m4 (kV:=iV) (m:=b0 ik x) 3 U U oO U ⟨⟨(iB iV xa (b0 ik x)),(bM hx L (by simp [na])),U⟩,fun h=>h⟩ (show iE _ (iB iV xa (b0 ik x)).holds from cY 3 U (bM hx L (by simp [na]))) U fun j=>?_
 try dsimp only
 refine RK Y<|aL ?_
 have G:(∀ o∈x,o∈x∨o∈(([]:List (Int×ab))++[((-1),(ab.mk ri.Start ri.gp))]))∧(∀ o∈x,o∈x)∧(J (([]:List (Int×ab))++[((-1),(ab.mk ri.Start ri.gp))]) B3)∧(Fo A0 d B3)∧((-1,(⟨ri.Start,ri.gp⟩:ab))∈(([]:List (Int×ab))++[((-1),(ab.mk ri.Start ri.gp))])):=by exact ⟨fun o ho=> .inl ho,fun o ho=>ho,asm,asm,sm⟩
 refine cq (ι:={z:TM×(List (Int×ab))×au // (∀ o∈x,o∈z.1∨o∈z.2.1)∧(∀ o∈z.1,o∈x)∧(J z.2.1 z.2.2)∧(Fo A0 d z.2.2)∧((-1,(⟨ri.Start,ri.gp⟩:ab))∈z.2.1)}) [0,1,2,27] [2,3,4,6,7] U U (fun z=>[]) (fun z=>[(yb iV j xa (b0 ik x) (b0 ik z.1.1) none),z.1.2.2]) (fun _=>rfl) (fun _=>rfl) (fun z=>z.1.1.length) ⟨(x,(([]:List (Int×ab))++[((-1),(ab.mk ri.Start ri.gp))]),B3),G⟩ (eb.nil _) (aS [2,3,4,6,7,0,1]) ?_
 clear G
 rintro ⟨⟨left,ys,A⟩,⟨B,C,D,E,F⟩⟩ J8 W
 try dsimp only at B C D E F
 try dsimp only
 refine WS fun _ S=>lG (fM pq).inj (f:=ik) 5 U U U U (fun T=>?_) (fun i z hm hn=>?_)
 ·refine rP 1 [] I ?_
  refine RK S<|aw fun _ c=>bT U<|bV<|ao<|ao<|aM ?_
  refine hN _ _ _ (ig (vs:=[]) trivial fun w hs=>JL 6 U (by exact Bf hx B T F) D E hs)
 try dsimp only
 refine br 1 U<|RK S<|aw fun _ O=>bo U<|WK O<|aL<|WS fun _ P=>rS (SX (lR 5 U U U) U U)<|br 2 U<|AL U eI fun g=>br 1 U<|fF U dC U<|RK P<|WS fun _ K=>rP 3 [] (mc 0 U I) ?_
 refine sS (k:=ys) (k':=(ys++[(i,z)])) 7 (by first|exact hsz|exact Nat.le_refl _) hY D E U U U (by exact ⟨(i,z),(sP hx).2 (.inr (C _ hm)),U,U⟩) U U (fun B15 AB H=>?_) (fun B15 AB H=>?_)
 rotate_left 1
 ·refine rP 1 [] I ?_
  refine RK K<|bo U<|ay ?_
  refine hQ _ _ _ (ig (vs:=[]) trivial fun w hs=>zI 7 U AB H hs)
 refine rP 1 [] I ?_
 refine RK K<|bT U<|cT<|aW<|n8 6 U l9 U ?_
 refine bu (W ⟨((dF left i),(ys++[(i,z)]),B15),⟨Ca hn hm B,j4 C,asm,asm,by simp [F]⟩⟩ _ _ _ U (ka hm) (bw U) (aS [1,2,3,4,5,6,7]))
theorem qy (gw b:Nat):
 lX Tryz.prog 187 [(vP gw),(vI (b:Int))] [] (fun (x:Nat×Nat)=>(Value.func (.func 210) [].toArray [(Value.pointer (some ⟨x.1,0,none⟩)),(Value.pointer (some ⟨x.2,0,none⟩))].toArray)) (fun (x:Nat×Nat)=>True) (fun (x:Nat×Nat)=>[(bU x.1 228 [(vP gw)]),(bU x.2 3 [(vI (b:Int))])]):=by
 refine dI kr Tryz.func187 U U fun E Q hQ hN=>?_
 try dsimp only
 refine WS fun _ A=>rJ U U fun C=>rJ U U fun D=>br 1 U<|RK A<|WS fun _ B=>rS (FU U)<|rP 1 [] I ?_
 refine RK B<|ay<|LX hQ (C,D) [1,0] [] I U U U U ?_
 trivial
theorem CS (gw b:Nat):
 lX Tryz.prog 149 [(vP gw),(vI (b:Int))] [] (fun (x:Nat×Nat)=>(Value.func (.func 186) [].toArray [(Value.pointer (some ⟨x.1,0,none⟩)),(Value.pointer (some ⟨x.2,0,none⟩))].toArray)) (fun (x:Nat×Nat)=>True) (fun (x:Nat×Nat)=>[(bU x.1 228 [(vP gw)]),(bU x.2 3 [(vI (b:Int))])]):=by
 refine dI kr Tryz.func149 U U fun E Q hQ hN=>?_
 try dsimp only
 refine WS fun _ A=>rJ U U fun C=>rJ U U fun D=>br 1 U<|RK A<|WS fun _ B=>rS (FU U)<|rP 1 [] I ?_
 refine RK B<|ay<|LX hQ (C,D) [1,0] [] I U U U U ?_
 trivial
end
section
open Go.RowKit
theorem mg:qp Tryz.prog 281 df:=F6 HR (fun x y w=>JY 9998 x y w) (fun x y h=>by cases x; cases y; simp [aA.cells] at h; simp [h]) (fun x=>by simp [aA.cells,Instr.sameBits]) (fun x w=>⟨_,rfl,fun p hp=>by
 simp only [bB,List.not_mem_nil,or_false] at hp
 rcases hp with rfl|rfl
 ·exact ⟨⟨_,eW ct U w⟩,_,pq⟩
 ·exact ⟨⟨_,eW ct U w⟩,_,pq⟩⟩)
theorem FK (s:Int):
 c_ Tryz.prog 190 [(vI s)] [] (vA (aA.cells (eo s))):=by
 refine bq kr Tryz.func190 U U fun H Q hQ hN=>?_
 try dsimp only
 refine WS fun _ B=>AL U pE fun G=>RK B<|aw fun _ C=>WS fun _ D=>rP 2 [] I ?_
 refine RK D<|cO U (bc fun A=>?_) (bf fun A=>?_)
 ·refine WS fun _ E=>rS (SX (aZ (xs:=[(1,.const (vI 1))]) (cs:=(aA.cells (aA.mk 0 1))) U U (a_ xg U)) U U)<|fF U oR U<|RK E<|ay<|yx hQ [0] (mc 0 U I) U ?_
  unfold eo; first|rw [if_pos A]|rw [if_neg A]
 refine WK C<|WS fun _ F=>rS (SX (aZ (xs:=[(0,.const (vI 1))]) (cs:=(aA.cells (aA.mk 1 0))) U U (a_ xg U)) U U)<|fF U oR U<|RK F<|ay<|yx hQ [0] (mc 0 U I) U ?_
 unfold eo; first|rw [if_pos A]|rw [if_neg A]
theorem rM (x:aA) (y:aA) (hx:(0≤x.right∧x.right≤1000)∧0≤x.eO∧x.eO≤1000) (hy:(0≤y.right∧y.right≤1000)∧0≤y.eO∧y.eO≤1000):
 c_ Tryz.prog 189 [(vA (aA.cells x)),(vA (aA.cells y))] [] (vA (aA.cells (dv x y))):=by
 refine bq kr Tryz.func189 U U fun F Q hQ hN=>?_
 try dsimp only
 refine WS fun _ A=>e8 U fun C=>e8 U fun D=>AL U pE fun E=>RK A<|WS fun _ B=>rP 10 [0,1,0,1] (mc 2 U (mc 1 U I)) ?_
 refine rS (SX (aZ (xs:=[(0,.tmp 9),(1,.tmp 14)]) (cs:=(aA.cells (aA.mk (x.right+y.right) (x.eO+y.eO)))) U U (a_ xg U)) U U)<|fF U oR U<|RK B<|ay ?_
 exact yx hQ [0] (mc 0 U I) U U
theorem HZ (ln:cy) (ri:cS) (e:List Int) (tms:List TM) (e_A:OA) (e_C:Nat) (tb:List Nat) (t_A:OA) (t_C:Nat) (fs:List FM) (bs:List FM) (fb:List Nat) (f_A:OA) (f_C:Nat) (bb:List Nat) (b_A:OA) (b_C gw:Nat) (x:aA) (hx:(0≤x.right∧x.right≤1000)∧0≤x.eO∧x.eO≤1000) (hn:ri.aj.n≤1000):
 c_ Tryz.prog 188 [(vP gw),(vA (aA.cells x))] [(rd e_A e.length 1 (e.map iC)),(rd t_A tms.length 1 (List.zipWith eu tms tb)),(dw (aX na tms tb)),(rd f_A fs.length 1 (List.zipWith eu fs fb)),(dw (aX km fs fb)),(rd b_A bs.length 1 (List.zipWith eu bs bb)),(dw (aX km bs bb)),(bU gw 276 (bE.cells (bE.mk ln ri (bj.mk e_A e.length e_C) (bj.mk t_A tms.length t_C) (bj.mk f_A fs.length f_C) (bj.mk b_A bs.length b_C))))] (vB (lx (cd ln ri e tms) x)):=by
 refine bq kr Tryz.func188 U U fun E Q hQ hN=>?_
 try dsimp only
 refine WS fun _ C=>e8 U fun D=>br 1 U<|RK C<|aw fun _ B=>dh cu 26 kr<|mW 3 [] (mc 0 U I) U<|dS (SX (bK U U) U U)<|dP 5 [] (mr 8 U I) ?_
 refine f_ (t:=13) U (bf fun A=>?_) (bc fun A=>?_)
 ·refine dP 17 [] I ?_
  refine du<|RK B<|ay<|Q1 hQ U U U ?_
  exact cB (eV (fun h=>A h.1)).symm
 refine qJ 1 U<|dS (SX (bK U U) U U)<|mW 8 [0,1] (mr 8 U (mc 0 U I)) U<|dS (SX (bK U U) U U)<|dP 6 [] (mr 8 U I) ?_
 refine du<|RK B<|ay<|Q1 hQ U U U ?_
 exact cB (gM.2 ⟨fun h=>⟨A,h⟩,fun h=>h.2⟩)
end
section
open Go.RowKit
theorem AQ (ln:cy) (ri:cS) (e:List Int) (tms:List TM) (e_A:OA) (e_C:Nat) (tb:List Nat) (t_A:OA) (t_C:Nat) (fs:List FM) (bs:List FM) (fb:List Nat) (f_A:OA) (f_C:Nat) (bb:List Nat) (b_A:OA) (b_C gw:Nat) (b g1 g2:Nat) (mf:FM) (mb:FM) (hb:b<e.length) (hw:Br (cd ln ri e tms)) (htb:tb.length=tms.length) (hfw:qU (cd ln ri e tms) fs) (hfb:fb.length=fs.length) (hbw:pj (cd ln ri e tms) bs) (hbb:bb.length=bs.length) (hsg:ri.aj.n≤1000) (hm1:fs[b]? =some mf) (hm2:bs[b+1]? =some mb):
 GN Tryz.prog 186 [] [(vP g1),(vP g2)] [(rd e_A e.length 1 (e.map iC)),(rd t_A tms.length 1 (List.zipWith eu tms tb)),(dw (aX na tms tb)),(rd f_A fs.length 1 (List.zipWith eu fs fb)),(dw (aX km fs fb)),(rd b_A bs.length 1 (List.zipWith eu bs bb)),(dw (aX km bs bb)),(bU gw 276 (bE.cells (bE.mk ln ri (bj.mk e_A e.length e_C) (bj.mk t_A tms.length t_C) (bj.mk f_A fs.length f_C) (bj.mk b_A bs.length b_C)))),(bU g1 228 [(vP gw)]),(bU g2 3 [(vI (b:Int))])] ([]:List (Int×ab)) (fun ys x ys'=> ∃ q,q∈nu (cd ln ri e tms) b mf mb∧x=H0 q∧ys'=ys++[q]) (fun ys=> ∀ q∈nu (cd ln ri e tms) b mf mb,q∈ys):=by
 have J4:e.length≤6:=hw.n
 have J5:tms.length=e.length:=hw.times
 have JR:fs.length=e.length+1:=hfw.len
 have JJ:bs.length=e.length+1:=hbw.len
 refine zS kr Tryz.func186 U U fun l J Z A0 w0 Q hY Eq ER hQ hN=>?_
 try dsimp only
 refine WS fun _ E2=>rJ U U fun b2=>RK E2<|WS fun _ FI=>rP 2 [0,1] (mr 10 U (mr 11 U I)) ?_
 refine cX (qy gw b) (aH) U fun y4 J6=>?_
 obtain ⟨C1,C2⟩:=y4
 try dsimp only
 refine RK FI<|aL<|gN 4 U (by exact fun _ h=>h)<|gN 6 U (by exact fun _ h=>h)<|gN 8 U (by exact fun _ h=>h)<|gN 14 U (by exact fun _ h=>h) ?_
 refine pR (L0:=[(0,(Value.func (.yield l) #[] #[])),(1,(vP g1)),(2,(vP g2)),(3,(vP b2))]) (F:=[(rd e_A e.length 1 (e.map iC)).ro,(rd t_A tms.length 1 (List.zipWith eu tms tb)).ro,(dw (aX na tms tb)).ro,(bU gw 276 (bE.cells (bE.mk ln ri (bj.mk e_A e.length e_C) (bj.mk t_A tms.length t_C) (bj.mk f_A fs.length f_C) (bj.mk b_A bs.length b_C)))).ro,(bU C1 228 [(vP gw)]),(bU C2 3 [(vI (b:Int))])]) (fun k (y:(List (Int×ab))×au)=>(jK (cd ln ri e tms) b mf mb k y.1)∧(J y.1 y.2)∧(Fo A0 w0 y.2)) (fun k y=>[(bU b2 278 [(Value.func (.yield l) #[] #[])]),y.2,(rd e_A e.length 1 (e.map iC)).ro,(rd t_A tms.length 1 (List.zipWith eu tms tb)).ro,(dw (aX na tms tb)).ro,(rd f_A fs.length 1 (List.zipWith eu fs fb)).ro,(dw (aX km fs fb)).ro,(rd b_A bs.length 1 (List.zipWith eu bs bb)).ro,(dw (aX km bs bb)).ro,(bU gw 276 (bE.cells (bE.mk ln ri (bj.mk e_A e.length e_C) (bj.mk t_A tms.length t_C) (bj.mk f_A fs.length f_C) (bj.mk b_A bs.length b_C)))).ro,(bU g1 228 [(vP gw)]).ro,(bU g2 3 [(vI (b:Int))]).ro]) (fun c (z:au)=>(c= .ret∧(Z z)∧(Fo A0 w0 z))) (fun _ z=>[(bU b2 278 [(Value.func (.yield l) #[] #[])]),z,(rd e_A e.length 1 (e.map iC)).ro,(rd t_A tms.length 1 (List.zipWith eu tms tb)).ro,(dw (aX na tms tb)).ro,(rd f_A fs.length 1 (List.zipWith eu fs fb)).ro,(dw (aX km fs fb)).ro,(rd b_A bs.length 1 (List.zipWith eu bs bb)).ro,(dw (aX km bs bb)).ro,(bU gw 276 (bE.cells (bE.mk ln ri (bj.mk e_A e.length e_C) (bj.mk t_A tms.length t_C) (bj.mk f_A fs.length f_C) (bj.mk b_A bs.length b_C)))).ro,(bU g1 228 [(vP gw)]).ro,(bU g2 3 [(vI (b:Int))]).ro]) [6,7,8,9,10,11,12,13,14,15,16,17] [3,2,1,0,4,5] (([]:List (Int×ab)),A0) rfl rfl (o8 ln ri e tms e_A e_C tb t_A t_C f_A fs.length f_C b_A bs.length b_C gw b C1 C2 om om) rfl rfl rfl (by exact ⟨jK.nil,Eq,ER⟩) (by simp only [List.forall_mem_cons,List.not_mem_nil,false_imp_iff,implies_true,and_true]; exact ⟨⟨_,aP (i:=0) rfl,(dy (bR _))⟩,⟨_,aP (i:=1) rfl,(dy (bR _))⟩,⟨_,aP (i:=2) rfl,(dy (bR _))⟩,⟨_,aP (i:=3) rfl,(dy (bR _))⟩,⟨_,aP (i:=4) rfl,(bR _)⟩,⟨_,aP (i:=5) rfl,(bR _)⟩⟩) (by rintro k x k2 ⟨o,_,rfl,_⟩; rfl) rfl (bw rfl) ?_ ?_ ?_ ?_
 rotate_left 1
 ·rintro J8 k ⟨ys,A⟩ Ck AP
  obtain ⟨X,Y,a⟩:=AP
  try dsimp only at X Y a
  try dsimp only
  refine aW ?_
  refine hN _ _ _ (nB 0 U U<|ig (vs:=[]) trivial fun w hs=>JL 8 U (by exact jK.fin X Ck) Y a hs)
 ·rintro J9 id A Cx
  simp at Cx
 ·rintro KL A C0
  obtain ⟨hc,Fn,Ft⟩:=C0
  try dsimp only
  refine hQ _ _ _ (nB 0 U U<|ig (vs:=[]) trivial fun w hs=>zI 8 U Fn Ft hs)
 rintro k x k2 ⟨ys,A⟩ lr ra rb S w1 K8 Qr9 GE hx AO FS CK IO C3
 obtain ⟨o,ho,rfl,rfl⟩:=hx
 obtain ⟨X,Y,a⟩:=AO
 try dsimp only at X Y a
 try dsimp only
 refine WS fun _ A5=>rP 1 [] I ?_
 refine RK A5<|aF<|AL U eI fun IR=>fF U dC U<|aK<|jL (fun _ _ h=>h) (aS [1,0,2,3,4,5,6,7,8,9,10,11,12,13])<|bu (FS _ _ ?_)
 refine aL<|aw fun _ A6=>dh cu 7 kr<|mW 1 [] (mr 12 U I) U<|dS (SX (bK U U) U U)<|dP 3 [0,1] (mr 11 U (mr 13 U I)) ?_
 obtain ⟨ga,s⟩:=aO fb b om
 have Cp:(List.zipWith eu fs fb)[b]? =some (eu mf ga):=dj hm1 s
 refine dS (IA b U (aQ 7 U) lB dc om om)<|dS (iY b 0 (Value.map (some ga)) U ct (aQ 7 U) Cp U dc U)<|du<|m4 (kV:=df) (m:=b0 iV mf) 8 U U mu U ⟨⟨(iB df ga (b0 iV mf)),(bM hm1 s (by simp [km])),U⟩,fun h=>h⟩ (show iE _ (iB df ga (b0 iV mf)).holds from cY 8 U (bM hm1 s (by simp [km]))) U fun GV=>?_
 try dsimp only
 refine RK A6<|aL ?_
 have C:(∀ p∈mf,p∈mf)∧(k7 (cd ln ri e tms) b mf mb o mf ys)∧(jK (cd ln ri e tms) b mf mb k ys)∧(J ys A)∧(Fo A0 w0 A):=by exact ⟨fun p hp=>hp,k7.start,X,Y,a⟩
 refine cq (ι:={z:FM×(List (Int×ab))×au // (∀ p∈z.1,p∈mf)∧(k7 (cd ln ri e tms) b mf mb o z.1 z.2.1)∧(jK (cd ln ri e tms) b mf mb k z.2.1)∧(J z.2.1 z.2.2)∧(Fo A0 w0 z.2.2)}) [0,1,2,3,4,5,23] [1,2,3,5,6,7,8,9,10,11,12,13,14] U U (fun z=>[]) (fun z=>[(yb df GV ga (b0 iV mf) (b0 iV z.1.1) none),z.1.2.2]) (fun _=>rfl) (fun _=>rfl) (fun z=>z.1.1.length) ⟨(mf,ys,A),C⟩ (eb.nil _) (aS [1,2,3,5,6,7,8,9,10,11,12,13,14,0,4]) ?_
 clear C
 rintro ⟨⟨left,ys,A⟩,⟨K,M,N,O,P⟩⟩ J15 A4
 try dsimp only at K M N O P
 try dsimp only
 refine WS fun _ j=>lG mg.inj (f:=iV) 13 U U U U (fun Do=>?_) (fun t v hm hn=>?_)
 ·refine rP 1 [] I ?_
  refine RK j<|aw fun _ HH=>bT U<|bV<|ao<|ao<|aM<|aW ?_
  exact CK (ys,A) _ _ (by exact ⟨jK.next N M Do,O,P⟩) (aS [0,2,14,3,4,5,6,7,8,9,10,11,12])
 try dsimp only
 refine br 1 U<|RK j<|aw fun _ A7=>bo U<|WK A7<|aL<|WS fun _ A8=>rS (SX (lR 13 U U U) U U)<|br 2 U<|AL U pE fun Id=>fF U oR U<|br 1 U<|RK A8<|aw fun _ A9=>dh cu 8 kr<|mW 1 [] (mr 12 U I) U<|dS (SX (bK U U) U U)<|dP 4 [0,1] (mr 11 U (mr 13 U I)) ?_
 obtain ⟨gb,AC⟩:=aO bb (b+1) om
 have Cu:(List.zipWith eu bs bb)[(b+1)]? =some (eu mb gb):=dj hm2 AC
 refine dS (IA (b+1) U (aQ 9 U) lB dc om om)<|dS (iY (b+1) 0 (Value.map (some gb)) U ct (aQ 9 U) Cu U dc U)<|du<|m4 (kV:=df) (m:=b0 iV mb) 10 U U mu U ⟨⟨(iB df gb (b0 iV mb)),(bM hm2 AC (by simp [km])),U⟩,fun h=>h⟩ (show iE _ (iB df gb (b0 iV mb)).holds from cY 10 U (bM hm2 AC (by simp [km]))) U fun Go=>?_
 try dsimp only
 refine RK A9<|aL ?_
 have C:(∀ p∈mb,p∈mb)∧(kM (cd ln ri e tms) b mb o (t,v) mb ys)∧(k7 (cd ln ri e tms) b mf mb o left ys)∧(jK (cd ln ri e tms) b mf mb k ys)∧(J ys A)∧(Fo A0 w0 A):=by exact ⟨fun p hp=>hp,kM.start,M,N,O,P⟩
 refine cq (ι:={z:FM×(List (Int×ab))×au // (∀ p∈z.1,p∈mb)∧(kM (cd ln ri e tms) b mb o (t,v) z.1 z.2.1)∧(k7 (cd ln ri e tms) b mf mb o left z.2.1)∧(jK (cd ln ri e tms) b mf mb k z.2.1)∧(J z.2.1 z.2.2)∧(Fo A0 w0 z.2.2)}) [0,1,2,3,4,5,6,7,23,37] [1,2,3,4,5,6,7,8,9,10,11,12,13,14,15] U U (fun z=>[]) (fun z=>[(yb df Go gb (b0 iV mb) (b0 iV z.1.1) none),z.1.2.2]) (fun _=>rfl) (fun _=>rfl) (fun z=>z.1.1.length) ⟨(mb,ys,A),C⟩ (eb.nil _) (aS [1,2,3,4,5,6,7,8,9,10,11,12,13,14,15,0,16]) ?_
 clear C
 rintro ⟨⟨l2,T,A2⟩,⟨B,D,E,G,H,AB⟩⟩ J23 V
 try dsimp only at B D E G H AB
 try dsimp only
 refine WS fun _ r=>lG mg.inj (f:=iV) 15 U U U U (fun EQ=>?_) (fun u z L A1=>?_)
 ·refine rP 1 [] I ?_
  refine RK r<|aw fun _ H1=>bT U<|bV<|ao<|ao<|aM<|aW<|n8 14 U l9 U ?_
  refine bu (A4 ⟨((dF left t),T,A2),⟨j4 K,k7.next hn hm E D EQ,G,H,AB⟩⟩ _ _ _ U (ka hm) (bw U) (aS [1,2,3,4,5,6,7,8,9,10,11,12,13,14,16]))
 try dsimp only
 refine br 1 U<|RK r<|aw fun _ B3=>bo U<|WK B3<|aL<|WS fun _ B8=>rS (SX (lR 15 U U U) U U)<|br 2 U<|AL U pE fun If=>fF U oR U<|rP 1 [] I ?_
 refine RK B8<|aw fun _ B9=>dE cu [17,18] [] [] [0,1,2,3,4,5,6,7,8,9,10,11,12,13,14,15,16,17] [] U U U U U<|eS U (MV U)<|eS U (Oj 13 U ct U)<|eS U (SX (bK U U) U U)<|eS U (FA 10 U fc U)<|eS U (D_ (vS e_A e.length e_C) 12 U ct U U)<|eS U (Oj 14 U ct U) ?_
 obtain ⟨y,hy⟩:=aO e b om
 have GG:=cD iC hy
 refine eS U (IA b U (aQ 5 U) de dc om om)<|eS U (iY b 0 (vI y) U ct (aQ 5 U) GG U dc U) ?_
 have Ja:=hw.least y (aP hy)
 have Fk:=Ek hw _ _ (hfw.mem hm1 (K _ hm))
 have Fd:=Ei hw (hbw.mem hm2 (B _ L))
 have Jt:=th o.1
 have J1:=hw.opt ho
 dsimp only at Fk Fd
 refine eS U (BI U (ly ⟨om,om⟩))<|eS U (FA 0 U fc U)<|eS U (L1 (vI o.2.Lo) 3 U ct U U)<|eS U (MX U)<|eS U (MV U)<|eS U (FA 1 U fc U)<|eS U (L1 (vI o.2.Hi) 3 U ct U U)<|eS U (MN U)<|eS U (SX (aZ (xs:=[(0,.tmp 54),(1,.tmp 58)]) (cs:=(ab.cells (ab.mk (max (v+y) o.2.Lo) (min z o.2.Hi)))) U U (a_ jr U)) U U)<|er U<|cb U fun T30 CV=>AL U eI fun In=>aK (CV _ _ (aS [1,2,3,4,5,6,7,8,9,10,11,12,13,14,15,16,17,18]) ?_)
 refine cb U fun T32 Ci=>fF U dC U<|aK (Ci _ _ (aS [1,2,3,4,5,6,7,8,9,10,11,12,13,14,15,16,17,18]) ?_)
 refine fD U<|KK B9<|aw fun _ R=>dh cu 19 kr<|dP 6 [] (mc 0 U I) ?_
 refine f_ (t:=65) U (bf fun d=>?_) (bc fun d=>?_)
 ·refine qJ 3 U<|qJ 10 U<|du<|rP 3 [] I ?_
  refine RK R<|bT U<|cT<|aW<|n8 17 U l9 U ?_
  refine bu (V ⟨((dF l2 u),T,A2),⟨j4 B,kM.skip A1 L D (by exact AM hy d),E,G,H,AB⟩⟩ _ _ _ U (ka L) (bw U) (aS [2,3,4,5,6,7,8,9,10,11,12,13,14,15,16,17,18]))
 refine dP 3 [0,1,2] (mr 14 U (mc 2 U (mc 1 U I))) ?_
 have J3:(0≤(dv t u).right∧(dv t u).right≤1000)∧0≤(dv t u).eO∧(dv t u).eO≤1000:=by simp only [dv]; omega
 have J2:(0≤(dv (dv t u) (eo o.1)).right∧(dv (dv t u) (eo o.1)).right≤1000)∧0≤(dv (dv t u) (eo o.1)).eO∧(dv (dv t u) (eo o.1)).eO≤1000:=by simp only [dv]; omega
 refine dS (CL (rM t u om om) (aH) U)<|qJ 1 U<|dS (CL (FK o.1) (aH) U)<|dS (CL (rM (dv t u) (eo o.1) asm om) (aH) U)<|dS (CL (HZ ln ri e tms e_A e_C tb t_A t_C fs bs fb f_A f_C bb b_A b_C gw (dv (dv t u) (eo o.1)) asm hsg) (aY [6,7,8,9,10,11,12,13]) U)<|dP 2 [] I ?_
 refine f_ (t:=75) U (fun g=>?_) (fun g=>?_)
 ·refine qJ 3 U<|du<|rP 3 [] I ?_
  refine RK R<|bT U<|cT<|aW<|n8 17 U l9 U ?_
  refine bu (V ⟨((dF l2 u),T,A2),⟨j4 B,kM.skip A1 L D (by exact AK g),E,G,H,AB⟩⟩ _ _ _ U (ka L) (bw U) (aS [2,3,4,5,6,7,8,9,10,11,12,13,14,15,16,17,18]))
 refine dP 3 [0,1] (mc 5 U (mc 0 U I)) ?_
 refine du<|sS (k:=T) (k':=(T++[(o.1,(ab.mk (max (v+y) o.2.Lo) (min z o.2.Hi)))])) 18 (by first|exact GE|exact Nat.le_refl _) hY H AB U U U (by exact ⟨(o.1,_),fW.2 ⟨o,ho,(t,v),K _ hm,(u,z),B _ L,(w9 hy d g)⟩,U,U⟩) U U (fun B34 W AA=>?_) (fun B34 W AA=>?_)
 rotate_left 1
 ·refine rP 2 [] I ?_
  refine RK R<|bo U<|ay ?_
  exact C3 B34 _ _ (by exact ⟨U,W,AA⟩) (aS [3,5,18,6,7,8,9,10,11,12,13,14,15])
 refine rP 2 [] I ?_
 refine RK R<|bT U<|cT<|aW<|n8 17 U l9 U ?_
 refine bu (V ⟨((dF l2 u),(T++[(o.1,(ab.mk (max (v+y) o.2.Lo) (min z o.2.Hi)))]),B34),⟨j4 B,kM.Nf A1 L D (w9 hy d g),E.app,G.app,W,AA⟩⟩ _ _ _ U (ka L) (bw U) (aS [2,3,4,5,6,7,8,9,10,11,12,13,14,15,16,17,18]))
end
section
open Go.RowKit
theorem qM (ln:cy) (ri:cS) (e:List Int) (tms:List TM) (e_A:OA) (e_C:Nat) (tb:List Nat) (t_A:OA) (t_C:Nat) (fs:List FM) (bs:List FM) (fb:List Nat) (f_A:OA) (f_C:Nat) (bb:List Nat) (b_A:OA) (b_C gw:Nat) (hw:Br (cd ln ri e tms)) (hsg:ri.aj.n≤1000) (hn:ln.aa.n=e.length) (hfw:qU (cd ln ri e tms) fs) (hfb:fb.length=fs.length):
 lX Tryz.prog 150 [(vP gw)] [(rd e_A e.length 1 (e.map iC)),(rd t_A tms.length 1 (List.zipWith eu tms tb)),(dw (aX na tms tb)),(rd f_A fs.length 1 (List.zipWith eu fs fb)),(dw (aX km fs fb)),(rd b_A bs.length 1 (List.zipWith eu bs bb)),(dw (aX km bs bb)),(bU gw 276 (bE.cells (bE.mk ln ri (bj.mk e_A e.length e_C) (bj.mk t_A tms.length t_C) (bj.mk f_A fs.length f_C) (bj.mk b_A bs.length b_C))))] (fun (x:(OA)×Nat)=>(vS x.1 ((hG (cd ln ri e tms)).length) x.2)) (fun (x:(OA)×Nat)=>True) (fun (x:(OA)×Nat)=>[(own x.1 x.2 3 1 ((hG (cd ln ri e tms)).map iC))]):=by
 have y:e.length≤6:=hw.n
 have u:fs.length=e.length+1:=hfw.len
 refine dI kr Tryz.func150 U U fun w0 Q hQ hN=>?_
 try dsimp only
 refine WS fun _ X=>br 1 U<|RK X<|WS fun _ Y=>br 1 U<|RK Y<|aw fun _ Z=>WS fun _ b=>br 1 U<|rS (SX (bK U U) U U)<|rP 6 [] (mr 7 U I) ?_
 refine RK b<|aL<|eH 3 1 ?_
 have A:(0≤e.length+1):=by exact Nat.zero_le _
 refine cq (ι:={z:Nat×(OA)×Nat // (z.1≤e.length+1)}) [0,12] [1,2,3,4,5,6,7,8] U U (fun z=>[(3,(vS z.1.2.1 ((iO (cd ln ri e tms) z.1.1).length) z.1.2.2)),(13,(vI (z.1.1:Int)))]) (fun z=>[(own z.1.2.1 z.1.2.2 3 1 ((iO (cd ln ri e tms) z.1.1).map iC))]) (fun _=>rfl) (fun _=>rfl) (fun z=>e.length+1-z.1.1) ⟨(0,none,0),A⟩ (bw U) (aS [1,2,3,4,5,6,7,8,0]) ?_
 clear A
 rintro ⟨⟨n,a,c⟩,G⟩ J5 AB
 try dsimp only at G
 try dsimp only
 refine WS fun _ d=>rP 1 [] I ?_
 refine RK d<|aw fun _ g=>cP U (bf fun s=>?_) (bc fun s=>?_)
 ·refine bV<|ao<|ao<|aM<|KK Z<|WS fun _ P=>?_
  rw [show iO (cd ln ri e tms) n=hG (cd ln ri e tms) by (obtain rfl:n=e.length+1:=by omega); rfl]
  refine rP 2 [] I ?_
  refine RK P<|ay<|LX hQ (a,c) [8] [] I U U U U ?_
  trivial
 refine WK g<|aw fun _ R=>aL<|WS fun _ J=>br 2 U<|RK J<|WS fun _ K=>br 1 U<|rS (SX (bK U U) U U)<|rP 3 [] (mr 7 U I) ?_
 obtain ⟨m,B⟩:=aO fs n om
 obtain ⟨ma,hm0a⟩:=aO fb n om
 have hm0m:(List.zipWith eu fs fb)[n]? =some (eu m ma):=dj B hm0a
 refine rS (IA n U (aQ 3 U) lB dc om om)<|rS (iY n 0 (Value.map (some ma)) U ct (aQ 3 U) hm0m U dc U)<|m4 (kV:=df) (m:=b0 iV m) 4 U U mu U ⟨⟨(iB df ma (b0 iV m)),(bM B hm0a (by simp [km])),U⟩,fun h=>h⟩ (show iE _ (iB df ma (b0 iV m)).holds from cY 4 U (bM B hm0a (by simp [km]))) U fun l=>?_
 try dsimp only
 refine RK K<|aL ?_
 have A:(∀ p∈m,p∈m)∧(∀ p∈m,p∈m∨lx (cd ln ri e tms) p.1=false):=by exact ⟨fun p hp=>hp,fun p hp=> .inl hp⟩
 refine cq (ι:={z:FM // (∀ p∈z,p∈m)∧(∀ p∈m,p∈z∨lx (cd ln ri e tms) p.1=false)}) [0,3,4,12,13,23] [1,2,3,4,5,6,7,8,9] U U (fun z=>[]) (fun z=>[(yb df l ma (b0 iV m) (b0 iV z.1) none)]) (fun _=>rfl) (fun _=>rfl) (fun z=>z.1.length) ⟨m,A⟩ (eb.nil _) (aS [1,2,3,4,5,6,7,8,9,0]) ?_
 clear A
 rintro ⟨left,⟨C,D⟩⟩ J13 H
 try dsimp only
 refine WS fun _ F=>lG mg.inj (f:=iV) 9 U U U U (fun W=>?_) (fun t v hm i=>?_)
 ·refine br 1 U<|RK F<|aw fun _ o=>bT U<|bV<|ao<|ao<|aM<|aW<|KK R<|aF<|rP 2 [] I ?_
  refine aK ?_
  rw [← Bl (w:=(cd ln ri e tms)) (k:=n) ((wK (hfw.min _ _ B) (hfw.keys _ _ B)).symm.trans (E7 D W))]
  have S:(vI (((n+1):Nat):Int))=(vI ((n:Int)+1)):=by exact cI om
  refine bu (AB ⟨((n+1),a,c),(by first|omega|(simp only []; omega))⟩ _ _ _ U os (c0 3<|bJ U S<|eb.nil _) (aS [0,1,2,3,4,5,6,7,8]))
 try dsimp only
 refine br 1 U<|RK F<|aw fun _ L=>bo U<|WK L<|aL<|WS fun _ M=>rS (SX (lR 9 U U U) U U)<|br 1 U<|AL U pE fun q=>fF U oR U<|RK M<|WS fun _ N=>rP 2 [] (mc 0 U I) ?_
 have j:=Ek hw _ _ (hfw.mem B (C _ hm))
 dsimp only at j
 refine rS (CL (HZ ln ri e tms e_A e_C tb t_A t_C fs bs fb f_A f_C bb b_A b_C gw t om hsg) (aY [1,2,3,4,5,6,7,8]) U)<|RK N<|cP U (fun E=>?_) (fun E=>?_)
 ·refine cT<|aW<|n8 10 U l9 U ?_
  refine bu (H ⟨(dF left t),⟨j4 C,ES i hm D (by first|exact E|simpa using E)⟩⟩ _ _ _ U (ka hm) (bw U) (aS [1,2,3,4,5,6,7,8,9,10]))
 refine WS fun _ O=>rP 2 [] I ?_
 refine dr (xs:=[.tmp 32]) (cs:=[(vI (n:Int))]) U de iy U U U U (by simp [Value.cells]) U U fun r=>?_
 have hy:iL (cd ln ri e tms) (fwd (cd ln ri e tms) n)=true:=(wK (hfw.min _ _ B) (hfw.keys _ _ B)).symm.trans (HM (C _ hm) E)
 refine eD (es2:=(List.map iC (iO (cd ln ri e tms) (n+1)))) (m':=(iO (cd ln ri e tms) (n+1)).length) 10 U U U ve U U sm (aT (es:=List.map iC [(n:Int)]) 0 U U (by simp [bp]) U) (m8 _) (by have:=oZ (w:=(cd ln ri e tms)) (k:=n); first|omega|(simp; omega)) (by have:=oZ (w:=(cd ln ri e tms)) (k:=n); simp only [maxLen]; omega) (by rw [yZ hy]; simp) sm U fun AA V=>?_
 try dsimp only
 refine br 1 U<|RK O<|bV<|dM U<|ao<|aM<|aW<|KK R<|aF<|rP 2 [] I ?_
 refine aK ?_
 have T:(vI (((n+1):Nat):Int))=(vI ((n:Int)+1)):=by exact cI om
 refine bu (AB ⟨((n+1),AA,V),(by first|omega|(simp only []; omega))⟩ _ _ _ U os (c0 3<|bJ U T<|eb.nil _) (aS [2,3,4,5,6,7,8,9,10]))
end
section
open Go.RowKit
theorem xd (ln:cy) (ri:cS) (e:List Int) (tms:List TM) (e_A:OA) (e_C:Nat) (tb:List Nat) (t_A:OA) (t_C gw:Nat) (hw:Br (cd ln ri e tms)) (hn:ln.aa.n=e.length) (htb:tb.length=tms.length):
 Ji Tryz.prog 185 [(vP gw)] [(rd e_A e.length 1 (e.map iC)),(rd t_A tms.length 1 (List.zipWith eu tms tb)),(dw (aX na tms tb))] (bU gw 276 (bE.cells (bE.mk ln ri (bj.mk e_A e.length e_C) (bj.mk t_A tms.length t_C) (bj.mk none 0 0) (bj.mk none 0 0)))) (fun (x:(List FM)×(List Nat)×(OA)×Nat×(List FM)×(List Nat)×(OA)×Nat)=>(vT [])) (fun (x:(List FM)×(List Nat)×(OA)×Nat×(List FM)×(List Nat)×(OA)×Nat)=>qU (cd ln ri e tms) x.1∧pj (cd ln ri e tms) x.2.2.2.2.1∧x.2.1.length=x.1.length∧x.2.2.2.2.2.1.length=x.2.2.2.2.1.length) (fun (x:(List FM)×(List Nat)×(OA)×Nat×(List FM)×(List Nat)×(OA)×Nat)=>(bx [(bU gw 276 (bE.cells (bE.mk ln ri (bj.mk e_A e.length e_C) (bj.mk t_A tms.length t_C) (bj.mk x.2.2.1 x.1.length x.2.2.2.1) (bj.mk x.2.2.2.2.2.2.1 x.2.2.2.2.1.length x.2.2.2.2.2.2.2)))),(own x.2.2.1 x.2.2.2.1 279 1 (List.zipWith eu x.1 x.2.1)),(bx (aX km x.1 x.2.1)),(own x.2.2.2.2.2.2.1 x.2.2.2.2.2.2.2 279 1 (List.zipWith eu x.2.2.2.2.1 x.2.2.2.2.2.1)),(bx (aX km x.2.2.2.2.1 x.2.2.2.2.2.1))])):=by
 have Pa:e.length≤6:=hw.n
 have Pb:tms.length=e.length:=hw.times
 refine tg kr Tryz.func185 U U fun w0 Q hQ hN=>?_
 try dsimp only
 refine WS fun _ C3=>rJ U U fun W=>RK C3<|WS fun _ EQ=>gO 1 [] (mc 0 U I) U<|rS (SX (bK U U) U U)<|rP 5 [] (mc 1 U I) ?_
 refine RK EQ ?_
 refine p8 (ι:={z:(OA)×(OA) // True}) [0,1,2] [0,2,3,4] U U (fun z=>[]) (fun z=>[(own z.1.1 (ln.aa.n+1) 279 1 (List.map oC (List.replicate (ln.aa.n+1) (none:Option Nat)))),(own z.1.2 (ln.aa.n+1) 279 1 (List.map oC (List.replicate (ln.aa.n+1) (none:Option Nat)))),(bU gw 276 (bE.cells (bE.mk ln ri (bj.mk e_A e.length e_C) (bj.mk t_A tms.length t_C) (bj.mk z.1.1 (ln.aa.n+1) (ln.aa.n+1)) (bj.mk z.1.2 (ln.aa.n+1) (ln.aa.n+1)))))]) (fun _=>rfl) (fun _=>rfl) ?_ fun K4 ER=>?_
 ·rintro ⟨⟨fA,bA⟩,_⟩
  try dsimp only
  refine EY 6 U U fun wz Sz hz=>?_
  have PX:(List.replicate (ln.aa.n+1) (none:Option Nat)).length=(ln.aa.n+1):=List.length_replicate
  try dsimp only
  refine p8 (ι:={z:Nat // True}) [0,1,2] [0,1,2,3,4,6] U U (fun z=>[]) (fun z=>[(bx (aX km [[((aA.mk 0 0),ri.Start)]] [z.1])),(own fA (ln.aa.n+1) 279 1 (List.map oC (cK [z.1] (ln.aa.n+1))))]) (fun _=>rfl) (fun _=>rfl) ?_ fun K5 O3=>?_
  ·rintro ⟨ga,_⟩
   try dsimp only
   refine aw fun _ Eq=>WS fun _ E2=>rP 2 [] I ?_
   refine RK E2<|aL<|mM ?_
   have C:(0≤ln.aa.n)∧(([[((aA.mk 0 0),ri.Start)]]).length=0+1)∧(([ga]).length=0+1)∧(nd (cd ln ri e tms) ([[((aA.mk 0 0),ri.Start)]])):=by exact ⟨Nat.zero_le _,rfl,rfl,nd.first⟩
   refine rQ (ι:={z:Nat×(List FM)×(List Nat)×(List Nat) // (z.1≤ln.aa.n)∧(z.2.1.length=z.1+1)∧(z.2.2.1.length=z.1+1)∧(nd (cd ln ri e tms) z.2.1)}) (fun z=>z.1.2.2.2.map ia) (fun z=>[(0,(vP gw)),(1,(vP W)),(2,(vI (ln.aa.n:Int))),(52,(vI (ln.aa.n:Int))),(53,(vI (z.1.1:Int)))]) (fun z=>[(bx (z.1.2.2.2.map jS)),(bU gw 276 (bE.cells (bE.mk ln ri (bj.mk e_A e.length e_C) (bj.mk t_A tms.length t_C) (bj.mk fA (ln.aa.n+1) (ln.aa.n+1)) (bj.mk bA (ln.aa.n+1) (ln.aa.n+1))))).ro,(bU W 228 [(vP gw)]),(rd e_A e.length 1 (e.map iC)).ro,(rd t_A tms.length 1 (List.zipWith eu tms tb)).ro,(dw (aX na tms tb)).ro,(own bA (ln.aa.n+1) 279 1 (List.map oC (List.replicate (ln.aa.n+1) (none:Option Nat)))),(bx (aX km z.1.2.1 z.1.2.2.1)),(own fA (ln.aa.n+1) 279 1 (List.map oC (cK z.1.2.2.1 (ln.aa.n+1))))]) (fun z=>ln.aa.n-z.1.1) ⟨(0,[[((aA.mk 0 0),ri.Start)]],[ga],([]:List Nat)),C⟩ U (bw U) (aS [0,1,2,3,4,5,6,7,8]) ?_
   clear C
   rintro ⟨⟨b,fs,fb,Op⟩,⟨H1,A5,IO,M⟩⟩ J8 O2
   try dsimp only at H1 A5 IO M
   try dsimp only
   have PY:(cK fb (ln.aa.n+1)).length=(ln.aa.n+1):=kB om
   refine WS fun _ FI=>rP 1 [] I ?_
   refine RK FI<|aw fun _ AO=>cO U (bc fun O0=>?_) (bf fun O0=>?_)
   ·refine WK AO<|aw fun _ J6=>aL<|WS fun _ J7=>rP 1 [] I ?_
    refine AL U iy fun s=>GA U Cr U U<|RK J7<|aw fun _ J9=>dE cu [6,8] [6] [0] [0,1,2,3,4,5,6,7,8] [0,1,2,3,4,5,6,7,8,9] U U U U U<|eS U (yq 3 U ct U)<|eS U (SX (bK U U) U U)<|eS U (FA 12 U fc U)<|eS U (D_ (vS fA (ln.aa.n+1) (ln.aa.n+1)) 2 U ct U U)<|eS U (yq 0 U ct U)<|eS U (BI U (ly ⟨om,om⟩)) ?_
    obtain ⟨PE,OZ⟩:=aO (cK fb (ln.aa.n+1)) (b+1) om
    have hx17m:(List.map oC (cK fb (ln.aa.n+1)))[(b+1)]? =some (oC PE):=by rw [fT,OZ]; rfl
    refine fS U (IA (b+1) U (ag (n:=(ln.aa.n+1)) 9 U sq) lB dc om om) ?_
    refine er U<|gF U fun T18 No=>jy (kV:=df) U U fun B=>?_
    try dsimp only
    refine aK (No _ _ (aS [1,2,3,4,5,6,7,8,9]) (aS [1,2,3,4,5,6,7,8,9,10]) ?_)
    refine cb U fun T20 Nt=>?_
    have OP:((cK fb (ln.aa.n+1)).set (b+1) (some B))=(cK (fb++[B]) (ln.aa.n+1)):=by exact oq om om
    refine eK (k:=(b+1)) (o:=0) (vs:=[(Value.map (some B))]) (es':=(List.map oC (cK (fb++[B]) (ln.aa.n+1)))) (C':=[_,_,_,_,_,_,_,_,_,_,(own fA (ln.aa.n+1) 279 1 (List.map oC (cK (fb++[B]) (ln.aa.n+1))))]) 10 U U U DO U U U U hx17m U dc (by exact (List.map_set (f:=oC) (l:=(cK fb (ln.aa.n+1))) (i:=(b+1)) (a:=(some B))).symm.trans (congrArg _ OP)) U<|aK (Nt _ _ (aS [1,2,3,4,5,6,7,8,9]) ?_)
    refine fD U<|KK J9<|aw fun _ KL=>?_
    have O7:(cK (fb++[B]) (ln.aa.n+1)).length=(ln.aa.n+1):=kB (by simp; omega)
    obtain ⟨mb,N⟩:=aO fs b om
    obtain ⟨ga,Z⟩:=aO fb b om
    refine uc 9 N Z U U U ?_
    try dsimp only
    refine dh cu 7 kr<|mW 1 [] (mc 6 U I) U<|dS (SX (bK U U) U U)<|dP 3 [0,1] (mr 5 U (mc 3 U I)) ?_
    have OT:(List.map oC (cK (fb++[B]) (ln.aa.n+1)))[b]? =some (oC (some ga)):=ng (j5 (EP Z))
    refine dS (IA b U (ag (n:=(ln.aa.n+1)) 11 U sq) lB dc om om) ?_
    refine dS (iY b 0 (Value.map (some ga)) U ct (ag (n:=(cK (fb++[B]) (ln.aa.n+1)).length) 11 U sm) OT U dc U)<|du<|tN 0 U U mu U U fun B9=>?_
    try dsimp only
    refine RK KL<|aL ?_
    have C:(∀ p∈mb,p∈mb)∧(sG (cd ln ri e tms) b ([]:FM))∧(iD (cd ln ri e tms) b mb ([]:FM) mb):=by exact ⟨fun p hp=>hp,sG.start,iD.start⟩
    refine rQ (ι:={z:FM×FM×(List Nat) // (∀ p∈z.1,p∈mb)∧(sG (cd ln ri e tms) b z.2.1)∧(iD (cd ln ri e tms) b mb z.2.1 z.1)}) (fun z=>z.1.2.2.map ia) (fun z=>[(0,(vP gw)),(1,(vP W)),(2,(vI (ln.aa.n:Int))),(3,(vP s)),(52,(vI (ln.aa.n:Int))),(53,(vI (b:Int))),(71,(vP B9))]) (fun z=>[(vd df B9 ga (b0 iV mb) (b0 iV z.1.1) none),(bx (eF km fs fb b)),(iB df B (b0 iV z.1.2.1)),(bU s 3 [(vI (b:Int))]),(bx (z.1.2.2.map jS)),(bU gw 276 (bE.cells (bE.mk ln ri (bj.mk e_A e.length e_C) (bj.mk t_A tms.length t_C) (bj.mk fA (ln.aa.n+1) (ln.aa.n+1)) (bj.mk bA (ln.aa.n+1) (ln.aa.n+1))))).ro,(bU W 228 [(vP gw)]),(rd e_A e.length 1 (e.map iC)).ro,(rd t_A tms.length 1 (List.zipWith eu tms tb)).ro,(dw (aX na tms tb)).ro,(own bA (ln.aa.n+1) 279 1 (List.map oC (List.replicate (ln.aa.n+1) (none:Option Nat)))),(own fA (ln.aa.n+1) 279 1 (List.map oC (cK (fb++[B]) (ln.aa.n+1))))]) (fun z=>z.1.1.length) ⟨(mb,([]:FM),Op),C⟩ U (bw U) (aS [0,1,2,3,4,5,6,7,8,9,10,11]) ?_
    clear C
    rintro ⟨⟨left,m,A6⟩,⟨c,d,g⟩⟩ J26 J4
    try dsimp only at c d g
    try dsimp only
    refine WS fun _ Ci=>sO mg.inj (f:=iV) 0 U U U U (fun O1=>?_) (fun t v hm IR=>?_)
    ·refine br 1 U<|RK Ci<|aw fun _ PO=>bT U<|bV<|ao<|ao<|aM<|aW<|KK J6<|aF<|rP 2 [] I ?_
     refine aK<|DM (C':=[(iB df ga (b0 iV mb)),(bx (eF km fs fb b)),(iB df B (b0 iV m)),(bU s 3 [(vI (b:Int))]),(bx (A6.map jS)),(bU gw 276 (bE.cells (bE.mk ln ri (bj.mk e_A e.length e_C) (bj.mk t_A tms.length t_C) (bj.mk fA (ln.aa.n+1) (ln.aa.n+1)) (bj.mk bA (ln.aa.n+1) (ln.aa.n+1))))).ro,(bU W 228 [(vP gw)]),(rd e_A e.length 1 (e.map iC)).ro,(rd t_A tms.length 1 (List.zipWith eu tms tb)).ro,(dw (aX na tms tb)).ro,(own bA (ln.aa.n+1) 279 1 (List.map oC (List.replicate (ln.aa.n+1) (none:Option Nat)))),(own fA (ln.aa.n+1) 279 1 (List.map oC (cK (fb++[B]) (ln.aa.n+1))))]) 0 U DX U<|CW 1 0 N Z U U U ?_
     try dsimp only
     refine wI (X':=aX km (fs++[m]) (fb++[B])) 0 1 U U (tI om U) ?_
     try dsimp only
     have OQ:(vI (((b+1):Nat):Int))=(vI ((b:Int)+1)):=by exact cI om
     refine bu (O2 ⟨((b+1),(fs++[m]),(fb++[B]),A6),⟨om,by simp; omega,by simp; omega,M.add A5 N d g O1⟩⟩ _ _ _ U os (c0 4<|bJ U OQ<|eb.nil _) (aS [2,3,4,5,6,7,8,0,9]))
    try dsimp only
    refine br 1 U<|RK Ci<|aw fun _ Ks=>bo U<|WK Ks<|aL<|WS fun _ K0=>rS (SX (rZ 0 U U U) U U)<|br 2 U<|AL U pE fun In=>AL U iy fun JJ=>rL U oR U<|GA U Cr U U<|RK K0<|WS fun _ K2=>rP 2 [0,1] (mc 8 U (mc 5 U I)) ?_
    refine cX (qy gw b) (aH) U fun PI PR=>?_
    obtain ⟨Cu,C0⟩:=PI
    try dsimp only
    refine RK K2<|aL<|gN 11 U (by exact fun _ h=>h)<|gN 13 U (by exact fun _ h=>h)<|gN 15 U (by exact fun _ h=>h)<|gN 12 U (by exact fun _ h=>h) ?_
    refine pR (L0:=[(0,(vP gw)),(1,(vP W)),(2,(vI (ln.aa.n:Int))),(3,(vP s)),(4,(vP In)),(5,(vP JJ)),(52,(vI (ln.aa.n:Int))),(53,(vI (b:Int))),(71,(vP B9))]) (F:=[(rd e_A e.length 1 (e.map iC)).ro,(rd t_A tms.length 1 (List.zipWith eu tms tb)).ro,(dw (aX na tms tb)).ro,(bU gw 276 (bE.cells (bE.mk ln ri (bj.mk e_A e.length e_C) (bj.mk t_A tms.length t_C) (bj.mk fA (ln.aa.n+1) (ln.aa.n+1)) (bj.mk bA (ln.aa.n+1) (ln.aa.n+1))))).ro,(bU Cu 228 [(vP gw)]),(bU C0 3 [(vI (b:Int))])]) (fun k (y:FM)=>(kO (cd ln ri e tms) b mb left y (t,v) k)) (fun k y=>[(bU JJ 3 [(vI v)]),(bU In 281 (aA.cells t)),(vd df B9 ga (b0 iV mb) (b0 iV (dF left t)) (some (t,(vI v)))),(bx (eF km fs fb b)),(iB df B (b0 iV y)),(bU s 3 [(vI (b:Int))]),(bx (A6.map jS)),(bU gw 276 (bE.cells (bE.mk ln ri (bj.mk e_A e.length e_C) (bj.mk t_A tms.length t_C) (bj.mk fA (ln.aa.n+1) (ln.aa.n+1)) (bj.mk bA (ln.aa.n+1) (ln.aa.n+1))))).ro,(bU W 228 [(vP gw)]),(rd e_A e.length 1 (e.map iC)).ro,(rd t_A tms.length 1 (List.zipWith eu tms tb)).ro,(dw (aX na tms tb)).ro,(own bA (ln.aa.n+1) 279 1 (List.map oC (List.replicate (ln.aa.n+1) (none:Option Nat)))),(own fA (ln.aa.n+1) 279 1 (List.map oC (cK (fb++[B]) (ln.aa.n+1))))]) (fun _ (_:Unit)=>False) (fun _ _=>[]) [6,7,8,9,10,11,12,13,14,15,16,17,18,19] [3,2,1,0,4,5] m rfl rfl (o8 ln ri e tms e_A e_C tb t_A t_C fA (ln.aa.n+1) (ln.aa.n+1) bA (ln.aa.n+1) (ln.aa.n+1) gw b Cu C0 om om) rfl rfl rfl (by exact kO.start d g) (by simp only [List.forall_mem_cons,List.not_mem_nil,false_imp_iff,implies_true,and_true]; exact ⟨⟨_,aP (i:=0) rfl,(dy (bR _))⟩,⟨_,aP (i:=1) rfl,(dy (bR _))⟩,⟨_,aP (i:=2) rfl,(dy (bR _))⟩,⟨_,aP (i:=3) rfl,(dy (bR _))⟩,⟨_,aP (i:=4) rfl,(bR _)⟩,⟨_,aP (i:=5) rfl,(bR _)⟩⟩) (by rintro k x k2 ⟨o,_,rfl,_⟩; rfl) rfl (bw rfl) ?_ ?_ (fun _ _ _ h=>h.elim) (fun _ _ h=>h.elim)
    rotate_left 1
    ·rintro PD k O A4 GG
     have D:=GG
     try dsimp only
     refine aW<|aW<|Fp (X:=A6.map jS) 13 0 U U ?_
     try dsimp only
     refine n8 9 U xD U ?_
     refine bu (J4 ⟨((dF left t),O,(PD::A6)),⟨j4 c,D.on,D.next IR hm A4⟩⟩ _ _ _ U (ka hm) (bw U) (aS [9,10,11,12,0,4,14,1,2,3,18,19]))
    rintro k x k2 O l ra rb S w1 K39 Qr40 PA hx GE K8 H PG PL
    obtain ⟨o,ho,rfl,rfl⟩:=hx
    have D:=GE
    try dsimp only
    refine WS fun _ LA=>rP 1 [] I ?_
    refine RK LA<|aF<|AL U eI fun PT=>fF U dC U<|aK<|jL (fun _ _ h=>h) (aS [1,0,2,3,4,5,6,7,8,9,10,11,12,13,14,15])<|bu (K8 _ _ ?_)
    refine aL<|aw fun _ LE=>dE cu [16,18] [] [] [0,1,2,3,4,5,6,7,8,9,10,11,12,13,14,15] [] U U U U U<|eS U (yq 2 U ct U)<|eS U (yq 10 U ct U)<|eS U (SX (bK U U) U U)<|eS U (FA 10 U fc U)<|eS U (D_ (vS e_A e.length e_C) 9 U ct U U)<|eS U (yq 7 U ct U) ?_
    obtain ⟨y,hy⟩:=aO e b om
    have Id:=cD iC hy
    refine eS U (IA b U (aQ 11 U) de dc om om)<|eS U (iY b 0 (vI y) U ct (aQ 11 U) Id U dc U) ?_
    have O6:=hw.least y (aP hy)
    have hp:=M.mem N (c _ hm)
    have O5:=Ek hw _ _ hp
    have O9:=th o.1
    have O_:=hw.opt ho
    have PZ:=hw.now
    dsimp only at O5
    refine eS U (BI U (ly ⟨om,om⟩))<|eS U (FA 0 U fc U)<|eS U (L1 (vI o.2.Lo) 1 U ct U U)<|eS U (MX U)<|eS U (LW 3 U ct U U)<|eS U (MV U)<|eS U (CL (FK o.1) (aH) U)<|eS U (CL (rM t (eo o.1) om om) (aH) U)<|eS U (AG U)<|er U<|cb U fun T45 Nz=>AL U pE fun PU=>aK (Nz _ _ (aS [1,2,3,4,5,6,7,8,9,10,11,12,13,14,15,16]) ?_)
    refine cb U fun T47 OI=>fF U oR U<|aK (OI _ _ (aS [1,2,3,4,5,6,7,8,9,10,11,12,13,14,15,16]) ?_)
    refine fD U<|KK LE<|aw fun _ LO=>dh cu 15 kr<|mW 1 [] (mc 11 U I) U<|dS (SX (bK U U) U U)<|dP 4 [0,1] (mr 10 U (mc 8 U I)) ?_
    have OU:(List.map oC (cK (fb++[B]) (ln.aa.n+1)))[(b+1)]? =some (oC (some B)):=ng (j5 (uP om))
    refine dS (IA (b+1) U (ag (n:=(ln.aa.n+1)) 16 U sq) lB dc om om) ?_
    refine dS (iY (b+1) 0 (Value.map (some B)) U ct (ag (n:=(cK (fb++[B]) (ln.aa.n+1)).length) 16 U sm) OU U dc U)<|mW 1 [] (mc 0 U I) U<|dS (SX (o_ (kV:=df) (x:=(dv t (eo o.1))) (l:=O) (f:=iV) (z:=0) U U U mu mg Ol (by exact aQ 7 U)) U U)<|qJ 5 U<|du<|RK LO<|aw fun _ AP=>dh cu 19 kr<|mW 4 [0,1] (mc 2 U (mc 11 U I)) U<|dS (SX (bK U U) U U)<|mW 3 [] (mr 10 U I) U<|dS (MN U)<|dP 2 [] I ?_
    refine f_ (t:=121) U (bf fun P=>?_) (bc fun P=>?_)
    ·refine dP 8 [] I ?_
     refine du<|RK AP<|bT U<|cT<|aW ?_
     exact H O _ _ (by exact D.skip (Ef hy P)) (aS [1,3,4,5,6,7,8,9,10,11,12,13,14,15,16])
    refine dP 3 [] I ?_
    refine vJ (t:=124) U (fun R=>?_) (fun R=>?_)
    ·rw [Bool.not_eq_true'] at R
     refine qJ 5 U<|du<|RK AP<|bo U<|dh cu 10 kr<|mW 1 [] (mc 11 U I) U<|dS (SX (bK U U) U U)<|dP 4 [0,1] (mr 10 U (mc 8 U I)) ?_
     have OV:(List.map oC (cK (fb++[B]) (ln.aa.n+1)))[(b+1)]? =some (oC (some B)):=ng (j5 (uP om))
     refine dS (IA (b+1) U (ag (n:=(ln.aa.n+1)) 16 U sq) lB dc om om) ?_
     refine dS (iY (b+1) 0 (Value.map (some B)) U ct (ag (n:=(cK (fb++[B]) (ln.aa.n+1)).length) 16 U sm) OV U dc U)<|dP 2 [] (mc 0 U I) ?_
     refine du<|gu (kV:=df) (x:=(dv t (eo o.1))) (C':=[_,_,_,_,_,_,_,(iB df B (b0 iV (c3 O (dv t (eo o.1)) (max (v+y) o.2.Lo)))),_,_,_,_,_,_,_,_,_]) 7 U U U U mu mg U (ei _ _ _ _).symm U<|aK<|aW ?_
     exact H (c3 O (dv t (eo o.1)) (max (v+y) o.2.Lo)) _ _ (by exact D.set hp ho (uV hy P) (.inl (by simpa using R))) (aS [1,3,4,5,6,7,8,9,10,11,12,13,14,15,16])
    rw [Bool.not_eq_false'] at R
    refine dP 5 [] I ?_
    refine du<|RK AP<|cP U (bf fun u=>?_) (bc fun u=>?_)
    ·refine cT<|aW ?_
     exact H O _ _ (by exact D.mo (uV hy P) (by simpa using R) u) (aS [1,3,4,5,6,7,8,9,10,11,12,13,14,15,16])
    refine dh cu 10 kr<|mW 1 [] (mc 11 U I) U<|dS (SX (bK U U) U U)<|dP 4 [0,1] (mr 10 U (mc 8 U I)) ?_
    have OW:(List.map oC (cK (fb++[B]) (ln.aa.n+1)))[(b+1)]? =some (oC (some B)):=ng (j5 (uP om))
    refine dS (IA (b+1) U (ag (n:=(ln.aa.n+1)) 16 U sq) lB dc om om) ?_
    refine dS (iY (b+1) 0 (Value.map (some B)) U ct (ag (n:=(cK (fb++[B]) (ln.aa.n+1)).length) 16 U sm) OW U dc U)<|dP 2 [] (mc 0 U I) ?_
    refine du<|gu (kV:=df) (x:=(dv t (eo o.1))) (C':=[_,_,_,_,_,_,_,(iB df B (b0 iV (c3 O (dv t (eo o.1)) (max (v+y) o.2.Lo)))),_,_,_,_,_,_,_,_,_]) 7 U U U U mu mg U (ei _ _ _ _).symm U<|aK<|aW ?_
    exact H (c3 O (dv t (eo o.1)) (max (v+y) o.2.Lo)) _ _ (by exact D.set hp ho (uV hy P) (.inr u)) (aS [1,3,4,5,6,7,8,9,10,11,12,13,14,15,16])
   refine bV<|ao<|ao<|aM<|KK Eq<|WS fun _ A0=>rP 1 [] I ?_
   refine AL U iy fun Or=>GA U Cr U U<|RK A0<|aL ?_
   rw [B6]
   refine mM ?_
   have C:(0≤ln.aa.n+1)∧(([]:List FM).length=0)∧(([]:List Nat).length=0)∧(fR (cd ln ri e tms) (ln.aa.n+1-0) ([]:List FM)):=by exact ⟨Nat.zero_le _,rfl,rfl,fR.none_⟩
   refine rQ (ι:={z:Nat×(List FM)×(List Nat)×Nat×(List Nat) // (z.1≤ln.aa.n+1)∧(z.2.1.length=z.1)∧(z.2.2.1.length=z.1)∧(fR (cd ln ri e tms) (ln.aa.n+1-z.1) z.2.1)}) (fun z=>z.1.2.2.2.2.map ia) (fun z=>[(0,(vP gw)),(1,(vP W)),(2,(vI (ln.aa.n:Int))),(12,(Value.pointer (some ⟨z.1.2.2.2.1,0,none⟩)))]) (fun z=>[(bx (aX km z.1.2.1 z.1.2.2.1)),(bU z.1.2.2.2.1 3 [(vI ((ln.aa.n:Int)-(z.1.1:Int)))]),(bx (z.1.2.2.2.2.map jS)),(bU gw 276 (bE.cells (bE.mk ln ri (bj.mk e_A e.length e_C) (bj.mk t_A tms.length t_C) (bj.mk fA (ln.aa.n+1) (ln.aa.n+1)) (bj.mk bA (ln.aa.n+1) (ln.aa.n+1))))).ro,(bU W 228 [(vP gw)]),(rd e_A e.length 1 (e.map iC)).ro,(rd t_A tms.length 1 (List.zipWith eu tms tb)).ro,(dw (aX na tms tb)).ro,(own bA (ln.aa.n+1) 279 1 (List.map oC (fJ z.1.2.2.1 (ln.aa.n+1)))),(bx (aX km fs fb)),(own fA (ln.aa.n+1) 279 1 (List.map oC (cK fb (ln.aa.n+1))))]) (fun z=>ln.aa.n+1-z.1.1) ⟨(0,([]:List FM),([]:List Nat),Or,Op),C⟩ U (bw U) (aS [0,1,2,3,4,5,6,7,8,9,10]) ?_
   clear C
   rintro ⟨⟨j,bs,bb,gq,q⟩,⟨A9,B3,B8,E⟩⟩ J57 CV
   try dsimp only at A9 B3 B8 E
   try dsimp only
   refine aw fun _ A1=>WS fun _ A2=>rP 2 [] (mc 1 U I) ?_
   refine RK A2<|cP U (bf fun J1=>?_) (bc fun J1=>?_)
   ·refine bV<|ao<|ao<|aM ?_
    rw [show (List.map oC (cK fb (ln.aa.n+1)))=(List.zipWith eu fs fb) from by rw [tM om]; exact (vk om).symm]
    rw [show (List.map oC (fJ bb (ln.aa.n+1)))=(List.zipWith eu bs bb) from by rw [BR om]; exact (vk om).symm]
    refine Js (C1:=[(own fA (ln.aa.n+1) 279 1 (List.zipWith eu fs fb)),(bx (aX km fs fb)),(own bA (ln.aa.n+1) 279 1 (List.zipWith eu bs bb)),(bx (aX km bs bb)),(bx (q.map jS))]) hz [10,9,8,0,2] U U (by simp only [gf,List.all_nil,AD,Gh,Bool.and_true]; rfl) ?_
    rw [show (bU gw 276 (bE.cells (bE.mk ln ri (bj.mk e_A e.length e_C) (bj.mk t_A tms.length t_C) (bj.mk fA (ln.aa.n+1) (ln.aa.n+1)) (bj.mk bA (ln.aa.n+1) (ln.aa.n+1)))))=(bU gw 276 (bE.cells (bE.mk ln ri (bj.mk e_A e.length e_C) (bj.mk t_A tms.length t_C) (bj.mk fA fs.length (ln.aa.n+1)) (bj.mk bA bs.length (ln.aa.n+1))))) from by rw [show fs.length=(ln.aa.n+1) from by omega,show bs.length=(ln.aa.n+1) from by omega]]
    refine IK [(bU gw 276 (bE.cells (bE.mk ln ri (bj.mk e_A e.length e_C) (bj.mk t_A tms.length t_C) (bj.mk fA fs.length (ln.aa.n+1)) (bj.mk bA bs.length (ln.aa.n+1))))),(own fA (ln.aa.n+1) 279 1 (List.zipWith eu fs fb)),(bx (aX km fs fb)),(own bA (ln.aa.n+1) 279 1 (List.zipWith eu bs bb)),(bx (aX km bs bb))] [(bx (q.map jS))] ?_
    refine hN _ _ _ (C9 1 U U<|ig (vs:=[]) trivial fun w hs=>KG (fs,fb,fA,(ln.aa.n+1),bs,bb,bA,(ln.aa.n+1)) 0 ?_ ?_ U (by show List.all _ _=true; simp only [gf,List.all_nil,AD,Bool.and_true]; rfl) hs)
    ·clear hs w hQ hN A2 A1 A0 AO FI E2 Eq EQ C3; rfl
    ·clear hs w hQ hN A2 A1 A0 AO FI E2 Eq EQ C3; exact ⟨M.ok (by show fs.length=e.length+1; omega),fR.ok (by have:=E; rwa [show ln.aa.n+1-j=0 by omega] at this) (by show bs.length=e.length+1; omega),dso,dso⟩
   refine WK A1<|aw fun _ Ck=>aL<|aw fun _ LT=>?_
   obtain ⟨b,PW⟩: ∃ b:Nat,b+j=ln.aa.n:=⟨ln.aa.n-j,om⟩
   rw [show (ln.aa.n:Int)-(j:Int)=(b:Int) from by omega]
   have PQ:(fJ bb (ln.aa.n+1)).length=(ln.aa.n+1):=uq om
   refine dE cu [5,12,13,15] [11] [0,1,2] [0,1,2,3,4,5,6,7,9,10] [0,1,2,3,4,5,6,7,8,9,10] U U U U U<|eS U (yq 4 U ct U)<|eS U (SX (bK U U) U U)<|eS U (FA 13 U fc U)<|eS U (D_ (vS bA (ln.aa.n+1) (ln.aa.n+1)) 3 U ct U U)<|eS U (yq 1 U ct U)<|eS U (SX (aZ (xs:=[]) (cs:=(aA.cells (aA.mk 0 0))) U U (a_ xg U)) U U)<|eS U (yq 4 U ct U)<|eS U (SX (bK U U) U U)<|eS U (FA 7 U fc U)<|eS U (FA 8 U fc U)<|eS U (D_ (vI ri.gp) 3 U ct U U) ?_
   obtain ⟨PF,On⟩:=aO (fJ bb (ln.aa.n+1)) b om
   have hx63m:(List.map oC (fJ bb (ln.aa.n+1)))[b]? =some (oC PF):=by rw [fT,On]; rfl
   refine fS U (IA b U (ag (n:=(ln.aa.n+1)) 8 U sq) lB dc om om) ?_
   refine er U<|gF U fun T64 OJ=>jy (kV:=df) U U fun A=>?_
   try dsimp only
   refine aK (OJ _ _ (aS [1,2,3,4,5,6,7,8,10,11]) (aS [1,2,3,4,5,6,7,8,9,10,11]) ?_)
   refine gF U fun T66 OK=>?_
   have OR:(c3 ([]:List (aA×Int)) (aA.mk 0 0) ri.gp)=[((aA.mk 0 0),ri.gp)]:=by rfl
   refine qs (kV:=df) (x:=(aA.mk 0 0)) (C':=[(iB df A (b0 iV ([((aA.mk 0 0),ri.gp)]))),_,_,_,_,_,_,_,_,_,_,_]) 0 U U U U mu mg U ((ei _ _ _ _).symm.trans (congrArg _ OR)) U<|aK (OK _ _ (aS [1,2,3,4,5,6,7,8,10,11]) (aS [1,2,3,4,5,6,7,8,9,10,11]) ?_)
   refine gF U fun T68 OL=>rS (MV U)<|aK (OL _ _ (aS [1,2,3,4,5,6,7,8,10,11]) (aS [1,2,3,4,5,6,7,8,9,10,11]) ?_)
   refine cb U fun T69 OM=>?_
   have OS:((fJ bb (ln.aa.n+1)).set b (some A))=(fJ (A::bb) (ln.aa.n+1)):=by exact Bc om
   refine eK (k:=b) (o:=0) (vs:=[(Value.map (some A))]) (es':=(List.map oC (fJ (A::bb) (ln.aa.n+1)))) (C':=[_,_,_,_,_,_,_,_,_,(own bA (ln.aa.n+1) 279 1 (List.map oC (fJ (A::bb) (ln.aa.n+1)))),_,_]) 9 U U U DO U U U U hx63m U dc (by exact (List.map_set (f:=oC) (l:=(fJ bb (ln.aa.n+1))) (i:=b) (a:=(some A))).symm.trans (congrArg _ OS)) U<|aK (OM _ _ (aS [1,2,3,4,5,6,7,8,10,11]) ?_)
   refine fD U<|KK LT<|aw fun _ Li=>WS fun _ Lk=>rP 3 [] (mc 2 U I) ?_
   refine RK Lk<|cO U (bc fun J2=>?_) (bf fun J2=>?_)
   ·refine bV<|ao<|aM<|KK Ck<|aw fun _ L2=>WS fun _ L3=>gO 1 [] (mc 2 U I) U<|RK L3<|aF<|AL U iy fun Os=>GA U Cr U U<|RK L2<|aF<|rP 2 [] (mc 0 U I) ?_
    refine GA U Cr U U<|aK ?_
    rw [show (b:Int)-1=(ln.aa.n:Int)-(((j+1):Nat):Int) from by omega]
    refine uf (ms:=bs) (m:=[((aA.mk 0 0),ri.gp)]) (a:=A) 2 1 U U U ?_
    try dsimp only
    refine bu (CV ⟨((j+1),([((aA.mk 0 0),ri.gp)]::bs),(A::bb),Os,q),⟨om,by simp; omega,by simp; omega,by exact fR.end_ (b:=b) E om om (by show e.length≤b; omega)⟩⟩ _ _ _ U os (bw U) (aS [0,1,3,4,5,6,7,8,9,10,11]))
   refine WK Li<|aw fun _ L9=>?_
   have O8:(fJ (A::bb) (ln.aa.n+1)).length=(ln.aa.n+1):=uq (by simp; omega)
   obtain ⟨mb,N⟩:=aO bs 0 om
   obtain ⟨ga,Z⟩:=aO bb 0 om
   refine uc 1 N Z U U U ?_
   try dsimp only
   refine dh cu 8 kr<|mW 1 [] (mc 6 U I) U<|dS (SX (bK U U) U U)<|dP 4 [0,1] (mr 5 U (mc 3 U I)) ?_
   have OY:(List.map oC (fJ (A::bb) (ln.aa.n+1)))[(b+1)]? =some (oC (some ga)):=ng (px (i:=1) (by simpa using Z) (by simp; omega))
   refine dS (IA (b+1) U (ag (n:=(ln.aa.n+1)) 10 U sq) lB dc om om) ?_
   refine dS (iY (b+1) 0 (Value.map (some ga)) U ct (ag (n:=(fJ (A::bb) (ln.aa.n+1)).length) 10 U sm) OY U dc U)<|du<|tN 0 U U mu U U fun CK=>?_
   try dsimp only
   refine RK L9<|aL ?_
   have C:(∀ p∈mb,p∈mb)∧(rj (cd ln ri e tms) b ([((aA.mk 0 0),ri.gp)]))∧(h_ (cd ln ri e tms) b mb ([((aA.mk 0 0),ri.gp)]) mb):=by exact ⟨fun p hp=>hp,rj.start (by show b<e.length; omega),h_.start⟩
   refine rQ (ι:={z:FM×FM×(List Nat) // (∀ p∈z.1,p∈mb)∧(rj (cd ln ri e tms) b z.2.1)∧(h_ (cd ln ri e tms) b mb z.2.1 z.1)}) (fun z=>z.1.2.2.map ia) (fun z=>[(0,(vP gw)),(1,(vP W)),(2,(vI (ln.aa.n:Int))),(12,(vP gq)),(171,(vP CK))]) (fun z=>[(vd df CK ga (b0 iV mb) (b0 iV z.1.1) none),(bx (eF km bs bb 0)),(iB df A (b0 iV z.1.2.1)),(bU gq 3 [(vI (b:Int))]),(bx (z.1.2.2.map jS)),(bU gw 276 (bE.cells (bE.mk ln ri (bj.mk e_A e.length e_C) (bj.mk t_A tms.length t_C) (bj.mk fA (ln.aa.n+1) (ln.aa.n+1)) (bj.mk bA (ln.aa.n+1) (ln.aa.n+1))))).ro,(bU W 228 [(vP gw)]),(rd e_A e.length 1 (e.map iC)).ro,(rd t_A tms.length 1 (List.zipWith eu tms tb)).ro,(dw (aX na tms tb)).ro,(own bA (ln.aa.n+1) 279 1 (List.map oC (fJ (A::bb) (ln.aa.n+1)))),(bx (aX km fs fb)),(own fA (ln.aa.n+1) 279 1 (List.map oC (cK fb (ln.aa.n+1))))]) (fun z=>z.1.1.length) ⟨(mb,[((aA.mk 0 0),ri.gp)],q),C⟩ U (bw U) (aS [0,1,2,3,4,5,6,7,8,9,10,11,12]) ?_
   clear C
   rintro ⟨⟨left,m,V⟩,⟨J,K,L⟩⟩ J80 J5
   try dsimp only at J K L
   try dsimp only
   refine WS fun _ Cp=>sO mg.inj (f:=iV) 0 U U U U (fun J3=>?_) (fun t v hm IR=>?_)
   ·refine br 1 U<|RK Cp<|aw fun _ PP=>bT U<|bV<|ao<|ao<|aM<|aW<|KK Ck<|aw fun _ MY=>WS fun _ Mj=>gO 1 [] (mc 3 U I) U<|RK Mj<|aF<|AL U iy fun JR=>GA U Cr U U<|RK MY<|aF<|rP 2 [] (mc 0 U I) ?_
    refine GA U Cr U U<|aK<|DM (C':=[(bU JR 3 [(vI ((b:Int)-1))]),(iB df ga (b0 iV mb)),(bx (eF km bs bb 0)),(iB df A (b0 iV m)),(bU gq 3 [(vI (b:Int))]),(bx (V.map jS)),(bU gw 276 (bE.cells (bE.mk ln ri (bj.mk e_A e.length e_C) (bj.mk t_A tms.length t_C) (bj.mk fA (ln.aa.n+1) (ln.aa.n+1)) (bj.mk bA (ln.aa.n+1) (ln.aa.n+1))))).ro,(bU W 228 [(vP gw)]),(rd e_A e.length 1 (e.map iC)).ro,(rd t_A tms.length 1 (List.zipWith eu tms tb)).ro,(dw (aX na tms tb)).ro,(own bA (ln.aa.n+1) 279 1 (List.map oC (fJ (A::bb) (ln.aa.n+1)))),(bx (aX km fs fb)),(own fA (ln.aa.n+1) 279 1 (List.map oC (cK fb (ln.aa.n+1))))]) 1 U DX U<|CW 2 1 N Z U U U ?_
    try dsimp only
    rw [show (b:Int)-1=(ln.aa.n:Int)-(((j+1):Nat):Int) from by omega]
    refine uf (ms:=bs) (m:=m) (a:=A) 0 2 U U U ?_
    try dsimp only
    refine bu (CV ⟨((j+1),(m::bs),(A::bb),JR,V),⟨om,by simp; omega,by simp; omega,by exact fR.more (b:=b) E om om (by show b<e.length; omega) N K L J3⟩⟩ _ _ _ U os (bw U) (aS [0,1,3,4,5,6,7,8,9,10,11]))
   try dsimp only
   refine br 1 U<|RK Cp<|aw fun _ M0=>bo U<|WK M0<|aL<|WS fun _ M2=>rS (SX (rZ 0 U U U) U U)<|br 2 U<|AL U pE fun Ja=>AL U iy fun Jt=>rL U oR U<|GA U Cr U U<|RK M2<|WS fun _ NE=>rP 2 [0,1] (mc 8 U (mc 5 U I)) ?_
   refine cX (qy gw b) (aH) U fun PJ PS=>?_
   obtain ⟨Cx,C2⟩:=PJ
   try dsimp only
   refine RK NE<|aL<|gN 11 U (by exact fun _ h=>h)<|gN 13 U (by exact fun _ h=>h)<|gN 15 U (by exact fun _ h=>h)<|gN 12 U (by exact fun _ h=>h) ?_
   refine pR (L0:=[(0,(vP gw)),(1,(vP W)),(2,(vI (ln.aa.n:Int))),(12,(vP gq)),(13,(vP Ja)),(14,(vP Jt)),(171,(vP CK))]) (F:=[(rd e_A e.length 1 (e.map iC)).ro,(rd t_A tms.length 1 (List.zipWith eu tms tb)).ro,(dw (aX na tms tb)).ro,(bU gw 276 (bE.cells (bE.mk ln ri (bj.mk e_A e.length e_C) (bj.mk t_A tms.length t_C) (bj.mk fA (ln.aa.n+1) (ln.aa.n+1)) (bj.mk bA (ln.aa.n+1) (ln.aa.n+1))))).ro,(bU Cx 228 [(vP gw)]),(bU C2 3 [(vI (b:Int))])]) (fun k (y:FM)=>(kU (cd ln ri e tms) b mb left y (t,v) k)) (fun k y=>[(bU Jt 3 [(vI v)]),(bU Ja 281 (aA.cells t)),(vd df CK ga (b0 iV mb) (b0 iV (dF left t)) (some (t,(vI v)))),(bx (eF km bs bb 0)),(iB df A (b0 iV y)),(bU gq 3 [(vI (b:Int))]),(bx (V.map jS)),(bU gw 276 (bE.cells (bE.mk ln ri (bj.mk e_A e.length e_C) (bj.mk t_A tms.length t_C) (bj.mk fA (ln.aa.n+1) (ln.aa.n+1)) (bj.mk bA (ln.aa.n+1) (ln.aa.n+1))))).ro,(bU W 228 [(vP gw)]),(rd e_A e.length 1 (e.map iC)).ro,(rd t_A tms.length 1 (List.zipWith eu tms tb)).ro,(dw (aX na tms tb)).ro,(own bA (ln.aa.n+1) 279 1 (List.map oC (fJ (A::bb) (ln.aa.n+1)))),(bx (aX km fs fb)),(own fA (ln.aa.n+1) 279 1 (List.map oC (cK fb (ln.aa.n+1))))]) (fun _ (_:Unit)=>False) (fun _ _=>[]) [6,7,8,9,10,11,12,13,14,15,16,17,18,19,20] [3,2,1,0,4,5] m rfl rfl (o8 ln ri e tms e_A e_C tb t_A t_C fA (ln.aa.n+1) (ln.aa.n+1) bA (ln.aa.n+1) (ln.aa.n+1) gw b Cx C2 om om) rfl rfl rfl (by exact kU.start K L) (by simp only [List.forall_mem_cons,List.not_mem_nil,false_imp_iff,implies_true,and_true]; exact ⟨⟨_,aP (i:=0) rfl,(dy (bR _))⟩,⟨_,aP (i:=1) rfl,(dy (bR _))⟩,⟨_,aP (i:=2) rfl,(dy (bR _))⟩,⟨_,aP (i:=3) rfl,(dy (bR _))⟩,⟨_,aP (i:=4) rfl,(bR _)⟩,⟨_,aP (i:=5) rfl,(bR _)⟩⟩) (by rintro k x k2 ⟨o,_,rfl,_⟩; rfl) rfl (bw rfl) ?_ ?_ (fun _ _ _ h=>h.elim) (fun _ _ h=>h.elim)
   rotate_left 1
   ·rintro Oo k O A4 A8
    have D:=A8
    try dsimp only
    refine aW<|aW<|Fp (X:=V.map jS) 13 0 U U ?_
    try dsimp only
    refine n8 9 U xD U ?_
    refine bu (J5 ⟨((dF left t),O,(Oo::V)),⟨j4 J,D.on,D.next IR hm A4⟩⟩ _ _ _ U (ka hm) (bw U) (aS [9,10,11,12,0,4,14,1,2,3,18,19,20]))
   rintro k x k2 O l ra rb S w1 K95 Qr96 PA hx GT NJ AB PH PM
   obtain ⟨o,ho,rfl,rfl⟩:=hx
   have D:=GT
   try dsimp only
   refine WS fun _ Ne=>rP 1 [] I ?_
   refine RK Ne<|aF<|AL U eI fun PV=>fF U dC U<|aK<|jL (fun _ _ h=>h) (aS [1,0,2,3,4,5,6,7,8,9,10,11,12,13,14,15,16])<|bu (NJ _ _ ?_)
   refine aL<|aw fun _ Di=>dE cu [16,18] [] [] [0,1,2,3,4,5,6,7,8,9,10,11,12,13,14,15,16] [] U U U U U<|eS U (yq 2 U ct U)<|eS U (FA 1 U fc U)<|eS U (L1 (vI o.2.Hi) 1 U ct U U) ?_
   have hp:=E.Oa (b:=b) om N (J _ hm)
   have O4:=Ei hw hp
   have O9:=th o.1
   have O_:=hw.opt ho
   dsimp only at O4
   refine eS U (MN U)<|eS U (yq 10 U ct U)<|eS U (SX (bK U U) U U)<|eS U (FA 10 U fc U)<|eS U (D_ (vS e_A e.length e_C) 9 U ct U U)<|eS U (yq 7 U ct U) ?_
   obtain ⟨y,hy⟩:=aO e b om
   have Id:=cD iC hy
   refine eS U (IA b U (aQ 11 U) de dc om om)<|eS U (iY b 0 (vI y) U ct (aQ 11 U) Id U dc U) ?_
   have O6:=hw.least y (aP hy)
   refine eS U (BI U (uw ⟨om,om⟩))<|eS U (LW 3 U ct U U)<|eS U (MV U)<|eS U (CL (FK o.1) (aH) U)<|eS U (CL (rM t (eo o.1) om om) (aH) U)<|eS U (AG U)<|er U<|cb U fun T101 FS=>AL U pE fun PN=>aK (FS _ _ (aS [1,2,3,4,5,6,7,8,9,10,11,12,13,14,15,16,17]) ?_)
   refine cb U fun T103 Fd=>fF U oR U<|aK (Fd _ _ (aS [1,2,3,4,5,6,7,8,9,10,11,12,13,14,15,16,17]) ?_)
   refine fD U<|KK Di<|aw fun _ Do=>dh cu 14 kr<|mW 1 [] (mc 11 U I) U<|dS (SX (bK U U) U U)<|dP 3 [0,1] (mr 10 U (mc 8 U I)) ?_
   have GV:(List.map oC (fJ (A::bb) (ln.aa.n+1)))[b]? =some (oC (some A)):=ng (px (i:=0) rfl (by simp; omega))
   refine dS (IA b U (ag (n:=(ln.aa.n+1)) 15 U sq) lB dc om om) ?_
   refine dS (iY b 0 (Value.map (some A)) U ct (ag (n:=(fJ (A::bb) (ln.aa.n+1)).length) 15 U sm) GV U dc U)<|mW 1 [] (mc 0 U I) U<|dS (SX (o_ (kV:=df) (x:=(dv t (eo o.1))) (l:=O) (f:=iV) (z:=0) U U U mu mg Ol (by exact aQ 7 U)) U U)<|qJ 5 U<|du<|RK Do<|WS fun _ Y=>gO 3 [0,1] (mc 3 U (mc 2 U I)) U<|rS (MN U)<|rP 4 [] (mc 2 U I) ?_
   refine cw (t:=217) U (bf fun T=>?_) (bc fun T=>?_)
   ·refine rP 8 [] I ?_
    refine RK Y<|bT U<|cT<|aW ?_
    exact AB O _ _ (by exact D.skip (Gk T)) (aS [1,3,4,5,6,7,8,9,10,11,12,13,14,15,16,17])
   refine rP 3 [] I ?_
   refine cE (t:=220) U (fun AA=>?_) (fun AA=>?_)
   ·rw [Bool.not_eq_true'] at AA
    refine br 5 U<|RK Y<|bo U<|dh cu 9 kr<|mW 1 [] (mc 11 U I) U<|dS (SX (bK U U) U U)<|dP 3 [0,1] (mr 10 U (mc 8 U I)) ?_
    have Go:(List.map oC (fJ (A::bb) (ln.aa.n+1)))[b]? =some (oC (some A)):=ng (px (i:=0) rfl (by simp; omega))
    refine dS (IA b U (ag (n:=(ln.aa.n+1)) 15 U sq) lB dc om om) ?_
    refine dS (iY b 0 (Value.map (some A)) U ct (ag (n:=(fJ (A::bb) (ln.aa.n+1)).length) 15 U sm) Go U dc U)<|dP 2 [] (mc 0 U I) ?_
    refine du<|gu (kV:=df) (x:=(dv t (eo o.1))) (C':=[_,_,_,_,_,_,_,(iB df A (b0 iV (c3 O (dv t (eo o.1)) ((min v o.2.Hi)-y)))),_,_,_,_,_,_,_,_,_,_]) 7 U U U U mu mg U (ei _ _ _ _).symm U<|aK<|aW ?_
    exact AB (c3 O (dv t (eo o.1)) ((min v o.2.Hi)-y)) _ _ (by exact D.set (by show b<e.length; omega) hp ho (vQ hy T) (.inl (by simpa using AA))) (aS [1,3,4,5,6,7,8,9,10,11,12,13,14,15,16,17])
   rw [Bool.not_eq_false'] at AA
   refine rP 5 [] I ?_
   refine RK Y<|cP U (bf fun AC=>?_) (bc fun AC=>?_)
   ·refine cT<|aW ?_
    exact AB O _ _ (by exact D.mo (vQ hy T) (by simpa using AA) AC) (aS [1,3,4,5,6,7,8,9,10,11,12,13,14,15,16,17])
   refine dh cu 9 kr<|mW 1 [] (mc 11 U I) U<|dS (SX (bK U U) U U)<|dP 3 [0,1] (mr 10 U (mc 8 U I)) ?_
   have HH:(List.map oC (fJ (A::bb) (ln.aa.n+1)))[b]? =some (oC (some A)):=ng (px (i:=0) rfl (by simp; omega))
   refine dS (IA b U (ag (n:=(ln.aa.n+1)) 15 U sq) lB dc om om) ?_
   refine dS (iY b 0 (Value.map (some A)) U ct (ag (n:=(fJ (A::bb) (ln.aa.n+1)).length) 15 U sm) HH U dc U)<|dP 2 [] (mc 0 U I) ?_
   refine du<|gu (kV:=df) (x:=(dv t (eo o.1))) (C':=[_,_,_,_,_,_,_,(iB df A (b0 iV (c3 O (dv t (eo o.1)) ((min v o.2.Hi)-y)))),_,_,_,_,_,_,_,_,_,_]) 7 U U U U mu mg U (ei _ _ _ _).symm U<|aK<|aW ?_
   exact AB (c3 O (dv t (eo o.1)) ((min v o.2.Hi)-y)) _ _ (by exact D.set (by show b<e.length; omega) hp ho (vQ hy T) (.inr AC)) (aS [1,3,4,5,6,7,8,9,10,11,12,13,14,15,16,17])
  refine dE cu [4,11,12,14] [10] [0,1,2] [0,1,2,3,4,6] [0,1,2,3,4,5,6] U U U U U<|eS U (yq 1 U ct U)<|eS U (SX (bK U U) U U)<|eS U (FA 12 U fc U)<|eS U (D_ (vS fA (ln.aa.n+1) (ln.aa.n+1)) 0 U ct U U)<|eS U (SX (aZ (xs:=[]) (cs:=(aA.cells (aA.mk 0 0))) U U (a_ xg U)) U U)<|eS U (yq 1 U ct U)<|eS U (SX (bK U U) U U)<|eS U (FA 7 U fc U)<|eS U (FA 7 U fc U)<|eS U (D_ (vI ri.Start) 0 U ct U U) ?_
  obtain ⟨x6,PB⟩:=aO (List.replicate (ln.aa.n+1) (none:Option Nat)) 0 om
  have hx7m:(List.map oC (List.replicate (ln.aa.n+1) (none:Option Nat)))[0]? =some (oC x6):=by rw [fT,PB]; rfl
  refine fS U (IA 0 U (ag (n:=(ln.aa.n+1)) 5 U sq) lB dc U om) ?_
  refine er U<|gF U fun T8 Fn=>jy (kV:=df) U U fun r=>?_
  try dsimp only
  refine aK (Fn _ _ (aS [1,2,3,4,5,7]) (aS [1,2,3,4,5,6,7]) ?_)
  refine gF U fun T10 G=>?_
  have ON:(c3 ([]:List (aA×Int)) (aA.mk 0 0) ri.Start)=[((aA.mk 0 0),ri.Start)]:=by rfl
  refine qs (kV:=df) (x:=(aA.mk 0 0)) (C':=[(iB df r (b0 iV ([((aA.mk 0 0),ri.Start)]))),_,_,_,_,_,_,_]) 0 U U U U mu mg U ((ei _ _ _ _).symm.trans (congrArg _ ON)) U<|aK (G _ _ (aS [1,2,3,4,5,7]) (aS [1,2,3,4,5,6,7]) ?_)
  refine gF U fun T12 Nf=>rS (MV U)<|aK (Nf _ _ (aS [1,2,3,4,5,7]) (aS [1,2,3,4,5,6,7]) ?_)
  refine cb U fun T13 Ng=>?_
  have OO:((List.replicate (ln.aa.n+1) (none:Option Nat)).set 0 (some r))=(cK [r] (ln.aa.n+1)):=by rw [qI]; exact oq rfl sm
  refine eK (k:=0) (o:=0) (vs:=[(Value.map (some r))]) (es':=(List.map oC (cK [r] (ln.aa.n+1)))) (C':=[_,_,_,_,_,_,(own fA (ln.aa.n+1) 279 1 (List.map oC (cK [r] (ln.aa.n+1)))),_]) 6 U U U DO U U U U hx7m U dc (by exact (List.map_set (f:=oC) (l:=(List.replicate (ln.aa.n+1) (none:Option Nat))) (i:=0) (a:=(some r))).symm.trans (congrArg _ OO)) U<|aK (Ng _ _ (aS [1,2,3,4,5,7]) ?_)
  refine fD U<|Jm<|wI (X:=[]) (X':=aX km [[((aA.mk 0 0),ri.Start)]] [r]) 0 1 U U U ?_
  try dsimp only
  refine bu (jL (bw U) (aS [1,2,3,4,5,7,0,6]) (O3 ⟨r,trivial⟩))
 refine mK cu [0,1,2,3,5,6,8,9,11,12] [4,7,10,13] [false,false,false,false,false,false,false,false,false,false] [] [(bU W 228 [(vP gw)]),(rd e_A e.length 1 (e.map iC)).ro,(rd t_A tms.length 1 (List.zipWith eu tms tb)).ro,(dw (aX na tms tb)).ro] [] kr (aS [0,2,3,4]) (aS [])<|eS U (yq 0 U ct U)<|eS U (yq 0 U ct U)<|eS U (MV U)<|eS U (BI U (ly ⟨om,om⟩))<|eS U (MV U)<|eS U (BI U (ly ⟨om,om⟩))<|eS U (SX (bK U U) U U)<|eS U (FA 12 U fc U)<|eS U (SX (bK U U) U U)<|eS U (FA 13 U fc U)<|er U<|nE [4,7] kr (ja ?_<|ja ?_<|re)
 rotate_left 1
 ·refine NO U U [4,10,13] fun T5 Fk=>?_
  refine s7 (n:=(ln.aa.n+1)) (es:=(List.map oC (List.replicate (ln.aa.n+1) (none:Option Nat)))) U U U wX om om (by simp only [maxLen]; omega) (by rw [List.map_replicate]; rfl) U fun b6=>?_
  try dsimp only
  refine aK (Fk _ _ (aS [1,3,4,5]) ?_)
  refine N1 4<|NO U U [10,13] fun T7 A3=>?_
  refine s7 (n:=(ln.aa.n+1)) (es:=(List.map oC (List.replicate (ln.aa.n+1) (none:Option Nat)))) U U U wX om om (by simp only [maxLen]; omega) (by rw [List.map_replicate]; rfl) U fun b8=>?_
  try dsimp only
  refine aK (A3 _ _ (aS [2,4,5,6]) ?_)
  refine N1 10<|NO U U [13] fun T9 Ft=>LF (bE.cells (bE.mk ln ri (bj.mk e_A e.length e_C) (bj.mk t_A tms.length t_C) (bj.mk (some ⟨b8,0,none⟩) (ln.aa.n+1) (ln.aa.n+1)) (bj.mk none 0 0))) U uo U U<|aK (Ft _ _ (aS [2,4,5,6]) ?_)
  refine N1 13<|NO U U [] fun T10 G=>LF (bE.cells (bE.mk ln ri (bj.mk e_A e.length e_C) (bj.mk t_A tms.length t_C) (bj.mk (some ⟨b8,0,none⟩) (ln.aa.n+1) (ln.aa.n+1)) (bj.mk (some ⟨b6,0,none⟩) (ln.aa.n+1) (ln.aa.n+1)))) U uo U U<|aK (G _ _ (aS [2,4,5,6]) ?_)
  refine nq ?_
  refine bu (jL (bw U) (aS [2,4,5,6,0,1,3]) (ER ⟨((some ⟨b8,0,none⟩),(some ⟨b6,0,none⟩)),trivial⟩))
 refine NO U U [7,10,13] fun T5 Fk=>?_
 refine s7 (n:=(ln.aa.n+1)) (es:=(List.map oC (List.replicate (ln.aa.n+1) (none:Option Nat)))) U U U wX om om (by simp only [maxLen]; omega) (by rw [List.map_replicate]; rfl) U fun b6=>?_
 try dsimp only
 refine aK (Fk _ _ (aS [1,3,4,5]) ?_)
 refine nE [7,10] kr (ja ?_<|ja ?_<|re)
 rotate_left 1
 ·refine NO U U [7,13] fun T7 A3=>Ot (bE.cells (bE.mk ln ri (bj.mk e_A e.length e_C) (bj.mk t_A tms.length t_C) (bj.mk (some ⟨b6,0,none⟩) (ln.aa.n+1) (ln.aa.n+1)) (bj.mk none 0 0))) U uo U U<|aK (A3 _ _ (aS [1,3,4,5]) ?_)
  refine N1 7<|NO U U [13] fun T8 Fn=>?_
  refine s7 (n:=(ln.aa.n+1)) (es:=(List.map oC (List.replicate (ln.aa.n+1) (none:Option Nat)))) U U U wX om om (by simp only [maxLen]; omega) (by rw [List.map_replicate]; rfl) U fun r=>?_
  try dsimp only
  refine aK (Fn _ _ (aS [2,4,5,6]) ?_)
  refine N1 13<|NO U U [] fun T10 G=>LF (bE.cells (bE.mk ln ri (bj.mk e_A e.length e_C) (bj.mk t_A tms.length t_C) (bj.mk (some ⟨b6,0,none⟩) (ln.aa.n+1) (ln.aa.n+1)) (bj.mk (some ⟨r,0,none⟩) (ln.aa.n+1) (ln.aa.n+1)))) U uo U U<|aK (G _ _ (aS [2,4,5,6]) ?_)
  refine nq ?_
  refine bu (jL (bw U) (aS [2,4,5,6,1,0,3]) (ER ⟨((some ⟨b6,0,none⟩),(some ⟨r,0,none⟩)),trivial⟩))
 refine NO U U [10,13] fun T7 A3=>?_
 refine s7 (n:=(ln.aa.n+1)) (es:=(List.map oC (List.replicate (ln.aa.n+1) (none:Option Nat)))) U U U wX om om (by simp only [maxLen]; omega) (by rw [List.map_replicate]; rfl) U fun b8=>?_
 try dsimp only
 refine aK (A3 _ _ (aS [2,4,5,6]) ?_)
 refine N1 10<|NO U U [13] fun T9 Ft=>LF (bE.cells (bE.mk ln ri (bj.mk e_A e.length e_C) (bj.mk t_A tms.length t_C) (bj.mk (some ⟨b6,0,none⟩) (ln.aa.n+1) (ln.aa.n+1)) (bj.mk none 0 0))) U uo U U<|aK (Ft _ _ (aS [2,4,5,6]) ?_)
 refine N1 13<|NO U U [] fun T10 G=>LF (bE.cells (bE.mk ln ri (bj.mk e_A e.length e_C) (bj.mk t_A tms.length t_C) (bj.mk (some ⟨b6,0,none⟩) (ln.aa.n+1) (ln.aa.n+1)) (bj.mk (some ⟨b8,0,none⟩) (ln.aa.n+1) (ln.aa.n+1)))) U uo U U<|aK (G _ _ (aS [2,4,5,6]) ?_)
 refine nq ?_
 refine bu (jL (bw U) (aS [2,4,5,6,1,0,3]) (ER ⟨((some ⟨b6,0,none⟩),(some ⟨b8,0,none⟩)),trivial⟩))
end
end Go.Proofs.YtkaenmjhfajbkaaGreatDoor
