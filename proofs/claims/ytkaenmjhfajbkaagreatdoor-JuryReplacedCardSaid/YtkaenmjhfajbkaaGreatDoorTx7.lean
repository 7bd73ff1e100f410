/-
 The statement juryReplaced_said, part 7 of 9: WayM, B7, B8, B9, R1, Y1, Y2, Y3, Y5, Rr1, Rx5, Jw1, Jw2, S1, Wh1, Jw3, IdxK, Jw4, Jw5, Jw6, Jw8, Jw9, Jwa.
 Conditions: none.
-/
import Derived.Test.YtkaenmjhfajbkaaGreatDoorTx1
import Derived.Test.YtkaenmjhfajbkaaGreatDoorTx2
import Derived.Test.YtkaenmjhfajbkaaGreatDoorTx3
import Derived.Test.YtkaenmjhfajbkaaGreatDoorTx4
import Derived.Test.YtkaenmjhfajbkaaGreatDoorTx5
import Derived.Test.YtkaenmjhfajbkaaGreatDoorTx6
namespace Go.Proofs.YtkaenmjhfajbkaaGreatDoor
set_option maxRecDepth 100000
set_option maxHeartbeats 4000000
set_option linter.unusedVariables false
section
open Go.RowKit
theorem CB (l:List dB) (az:List kS): ∀ v∈(List.zipWith dB.cells l az).flatten,v.oneCell'=true:=by
 induction l generalizing az with
 |nil=>intro v hv; simp at hv
 |cons x l ih=>
  cases az with
  |nil=>intro v hv; simp at hv
  |cons a az=>
   intro v hv
   simp only [List.zipWith_cons_cons,List.flatten_cons,gK] at hv
   rcases hv with hv|hv
   ·simp only [dB.cells,xC.cells,b_,List.not_mem_nil,or_false] at hv
    rcases hv with rfl|rfl|rfl<;>rfl
   ·exact ih az v hv
theorem NN: ∀ (m:dB) (a:kS) (w:World),(∀ X∈dB.owns m a,X.holds w)→ ∀ X∈dB.e_ m a,X.holds w:=fun m a w h X hX=>by
 simp only [dB.e_,b_,List.not_mem_nil,or_false] at hX
 have A:=nX (h (own a.1.1 a.1.2 l6 1 (m.gO.map iC)) (by simp [dB.owns]))
 have B:=nX (h (own a.2.1.1 a.2.1.2 l6 1 (m.jd.map iC)) (by simp [dB.owns]))
 have C:=nX (h (own a.2.2.1 a.2.2.2 l6 1 (m.mo.map iC)) (by simp [dB.owns]))
 rcases hX with rfl|rfl|rfl
 ·simpa using A
 ·simpa using B
 ·simpa using C
theorem qg: ∀ (l:List dB) (az:List kS),(bg dB.owns l az).all (·.wr)=true
 |[],_=>rfl
 |_::_,[]=>rfl
 |x::l,a::az=>by
  simp only [bg,List.all_append,dj]
  exact ⟨U,qg l az⟩
theorem Lc (l:List dB) (az:List kS):(bM (bg dB.owns l az)).wr=true:=qg l az
theorem LI {l m:List dB} {az bz:List kS} (h:az.length=l.length):List.zipWith dB.cells (l++m) (az++bz)=List.zipWith dB.cells l az++List.zipWith dB.cells m bz:=List.zipWith_append h.symm
theorem uw {l:List dB} {az:List kS} (h:az.length=l.length):(List.zipWith dB.cells l az).length=l.length:=by rw [List.length_zipWith]; omega
/-- what is read of a thing that is tied, and frozen -/
theorem qf {C L:List aA} {a:OA} {c e sz n:Nat} {es:List (List Value)} (i:Nat) (hC:C[i]? =some (bM L).ro) (hm:own a c e sz es∈L) (hn:es.length=n):fY C (rd a n sz es).holds:=fun w hw=>by
 subst hn
 exact nX ((show (bM L).holds w from (hw _ (aM hC):(bM L).ro.holds w)).1 _ hm)
section
variable {E:fh} {ops:Array Oper} {Q:di} {rest:List Oper} {D:List Deferred} {L:List (Nat×Value)} {C C1:List aA}
theorem St.PS {S:BS} {w0 w:World} {X C:List aA} {A:aA} (h:St S w0 (bM (X++[A])::C) w):St S w0 (A::bM X::C) w:=by
 have B:=h.iB
 have D:St S w0 (X++(A::C)) w:=by simpa using B
 exact D.tied.perm (List.Perm.swap _ _ _)
theorem St.merge {S:BS} {w0 w:World} {X Y C:List aA} (h:St S w0 (bM X::bM Y::C) w):St S w0 (bM (X++Y)::C) w:=by
 have A:St S w0 (bM Y::(X++C)) w:=(h.iB).perm (List.perm_middle (a:=bM Y) (l₁:=X) (l₂:=C))
 have B:St S w0 (Y++(X++C)) w:=A.iB
 have D:St S w0 ((X++Y)++C) w:=B.perm (by rw [← List.append_assoc]; exact List.perm_append_comm.append_right _)
 exact D.tied
end
section
variable {E:fh} {ops:Array Oper} {Q:di} {rest:List Oper} {D:List Deferred} {L:List (Nat×Value)} {C:List aA}
theorem z3 {A:aA} {X X':List aA} (e:X++[A]=X') (h:RJ E ops Q rest D L (bM X'::C)):RJ E ops Q rest D L (A::bM X::C):=fun a w hf hs=>h a w hf (hs.tie e)
theorem zO {X:List aA} {A:aA} (h:RJ E ops Q rest D L (A::bM X::C)):RJ E ops Q rest D L (bM (X++[A])::C):=fun a w hf hs=>h a w hf hs.PS
theorem IP {K:Act→World→Prop} {ms ns:List dB} {az bz:List kS} (hl:az.length=ms.length) (h:KJ E K D L (bM (bg dB.owns (ms++ns) (az++bz))::C)):KJ E K D L (bM (bg dB.owns ms az)::bM (bg dB.owns ns bz)::C):=fun a w hf hs=>h a w hf (by rw [ke hl.symm]; exact hs.merge)
end
/-- the head of the ways: the way that ends here, if it may -/
def xj (l:bG) (r:de) (rs fs:List Int) (ra fa:RA) (hz:List kS) (LA:List aA):Prop:=
 ((r.aa.length:Int)-(dI rs).right≤l.fK∧ ∃ la:RA,hz=[(ra,fa,la)]∧LA=[own la.1 la.2 l6 1 ((jD l r rs).map iC)])∨(¬ (r.aa.length:Int)-(dI rs).right≤l.fK∧hz=[]∧LA=[])
theorem xj.len {l:bG} {r:de} {rs fs:List Int} {ra fa:RA} {hz:List kS} {LA:List aA} (h:xj l r rs fs ra fa hz LA):hz.length=(ia l r rs fs).length:=by
 unfold ia
 rcases h with ⟨q,la,rfl,rfl⟩|⟨q,rfl,rfl⟩
 ·rw [if_pos q]; rfl
 ·rw [if_neg q]; rfl
theorem xj.wr {l:bG} {r:de} {rs fs:List Int} {ra fa:RA} {hz:List kS} {LA:List aA} (h:xj l r rs fs ra fa hz LA):LA.all (·.wr)=true:=by
 rcases h with ⟨q,la,rfl,rfl⟩|⟨q,rfl,rfl⟩<;>rfl
theorem JK {S:BS} {w0 w:World} {l:bG} {r:de} {rs fs:List Int} {ra fa:RA} {hz az:List kS} {LA:List aA} {R:List dB} {A:aA} (hh:xj l r rs fs ra fa hz LA)
 (h:St S w0 [bM [own ra.1 ra.2 l6 1 (rs.map iC),own fa.1 fa.2 l6 1 (fs.map iC)],A,bM LA,bM (bg dB.owns R az)] w):St S w0 [bM (bg dB.owns (ia l r rs fs++R) (hz++az)++[A])] w:=by
 rw [ke hh.len.symm]
 have D:St S w0 [own ra.1 ra.2 l6 1 (rs.map iC),own fa.1 fa.2 l6 1 (fs.map iC),A,bM LA,bM (bg dB.owns R az)] w:=h.iB
 rcases hh with ⟨q,la,rfl,rfl⟩|⟨q,rfl,rfl⟩
 ·unfold ia
  rw [if_pos q]
  have B:=(St.j1 [3,0,1,2,4] rfl rfl D).iB
  have E:=(St.j1 [4,1,2,0,3] rfl rfl B).iB
  have C:St S w0 (((bg dB.owns [(⟨rs,fs,jD l r rs⟩:dB)] [(ra,fa,la)]++bg dB.owns R az)++[A])++[]) w:=by
   rw [List.append_nil]
   refine E.perm ?_
   show (bg dB.owns R az++(bg dB.owns [(⟨rs,fs,jD l r rs⟩:dB)] [(ra,fa,la)]++[A])).Perm _
   rw [← List.append_assoc]
   exact List.perm_append_comm.append_right _
  exact C.tied
 ·unfold ia
  rw [if_neg q]
  have B:=(St.j1 [4,2] rfl rfl D).iB
  have C:St S w0 (((bg dB.owns [] []++bg dB.owns R az)++[A])++[]) w:=by
   rw [List.append_nil]; exact B
  exact C.tied
theorem Jl {E:fh} {K:Act→World→Prop} {D:hE} {L:dq} {l:bG} {r:de} {rs fs:List Int} {ra fa:RA} {hz az z:List kS} {LA:List aA} {R W:List dB} {A A':aA} (hh:xj l r rs fs ra fa hz LA) (hW:ia l r rs fs++R=W) (hz':hz++az=z) (hA:A=A')
 (h:KJ E K D L [bM (bg dB.owns W z++[A'])]):KJ E K D L [bM [own ra.1 ra.2 l6 1 (rs.map iC),own fa.1 fa.2 l6 1 (fs.map iC)],A,bM LA,bM (bg dB.owns R az)]:=fun a w hf hs=>h a w hf (by subst hW hz' hA; exact JK hh hs)
theorem QK {E:fh} {K:Act→World→Prop} {D:hE} {L:dq} {X A:aA} {W:List dB} (h:KJ E K D L [bM (bg dB.owns W []++[A])]):KJ E K D L [X,A]:=fun a w hf hs=>h a w hf (by
 have B:St E.S E.w0 [A] w:=St.j1 [1] rfl rfl hs
 have C:St E.S E.w0 (([]++[A])++[]) w:=B
 have e:bg dB.owns W []=[]:=by cases W<;>rfl
 rw [e]
 exact C.tied)
theorem Gl {E:fh} {K:Act→World→Prop} {D:hE} {L:dq} {C:List aA} (e sz:Nat) (k:KJ E K D L (own none 0 e sz []::C)):KJ E K D L C:=fun a w hf hs=>k a w hf (hs.uD e sz)
end
section
open Go.RowKit
theorem jf (n lo hi:Int):
 dA Tryz.prog 153 [(vI n),(vI lo),(vI hi)] [] (vB (decide (lo≤n∧n≤hi))):=by
 refine bJ kr Tryz.func153 U U fun D Q hQ hN=>?_
 try dsimp only
 refine WS fun _ B=>bI 1 U<|RK B<|WS fun _ A=>rP 4 [] mn ?_
 refine bT (t:=10) U (aT fun C=>?_) (aU fun C=>?_)
 ·refine rP 5 [] mn ?_
  refine RK A<|ar<|Q1 hQ U U U ?_
  exact cB (gV.2 I)
 refine rP 5 [] mn ?_
 refine RK A<|ar<|Q1 hQ U U U ?_
 exact cB (bj I).symm
theorem BA (ts:List au) (tsA:OA) (tsC:Nat) (hst: ∀ x∈ts,bZ x) (hlen:ts.length≤12):
 nz Tryz.prog 214 [(vA (bL.cells (bL.mk (bE.mk tsA ts.length tsC))))] [(rd tsA ts.length 9 (ts.map au.cells))] (fun (x:(OA)×Nat)=>(vS x.1 ((iA ts (ts.length+1)).length) x.2)) (fun (x:(OA)×Nat)=>True) (fun (x:(OA)×Nat)=>[(own x.1 x.2 38 2 ((iA ts (ts.length+1)).map ai.cells))]):=by
 refine eO kr Tryz.func214 U U fun V Q hQ hN=>?_
 try dsimp only
 refine WS fun _ J=>eG U fun AA=>bI 1 U<|RK J<|WS fun _ K=>bI 1 U<|RK K<|aq fun _ L=>WS fun _ M=>rP 1 [] mn ?_
 refine RK M<|aH<|eX 38 2 ?_
 have A:(0≤ts.length+1):=by exact Nat.zero_le _
 refine bS (ι:={z:Nat×(OA)×Nat // (z.1≤ts.length+1)}) [1] [1,2] U U (fun z=>[(3,(vS z.1.2.1 ((iA ts z.1.1).length) z.1.2.2)),(4,(vI (z.1.1:Int)))]) (fun z=>[(own z.1.2.1 z.1.2.2 38 2 ((iA ts z.1.1).map ai.cells))]) (fun _=>rfl) (fun _=>rfl) (fun z=>ts.length+1-z.1.1) ⟨(0,none,0),A⟩ (bD U) (aR [1,2,0]) ?_
 clear A
 rintro ⟨⟨i,a,c⟩,B⟩ J6 AB
 try dsimp only at B
 try dsimp only
 refine aq fun _ N=>WS fun _ O=>rP 5 [] (mc 0 U mn) ?_
 refine RK O<|bR U (aU fun T=>?_) (aT fun T=>?_)
 ·refine bQ<|ag<|ag<|aI<|KK L<|WS fun _ E=>?_
  obtain rfl:i=ts.length+1:=by omega
  refine rP 2 [] mn ?_
  refine RK E<|ar<|LX hQ (a,c) [2] [] mn U U U U ?_
  trivial
 refine WK N<|aq fun _ C=>aH<|WS fun _ D=>eV 2 [] (mc 0 U mn) U<|rS (CL (As ts tsA tsC 0 (i:Int) hst hlen I) (bk [1]) U)<|bI 3 U<|AL U dT fun P=>AL U dT fun R=>qN U cT U<|eN U cT U<|RK D<|aw<|rP 2 [] (mc 1 U mn) ?_
 refine eu (xs:=[.tmp 21]) (cs:=(ai.cells (eP ts (0:Int).toNat ((i:Int)-0).toNat))) U kT dT U U U U (by simp [Value.cells,ai.bo]) U U fun S=>?_
 refine eh (es2:=(List.map ai.cells (iA ts (i+1)))) (m':=(iA ts (i+1)).length) 5 U U U Ff U U sm (bx (es:=List.map ai.cells [(eP ts (0:Int).toNat ((i:Int)-0).toNat)]) 0 U U (by simp [ai.bo]) U) (kZ _) (by simp only [oZ]; omega) (by simp only [maxLen,oZ]; omega) (by rw [CA]; simp) sm U fun G H=>?_
 try dsimp only
 refine bI 1 U<|aK<|aP<|KK C<|aw<|rP 3 [] mn ?_
 refine aK ?_
 have F:(vI (((i+1):Nat):Int))=(vI ((i:Int)+1)):=by exact cI I
 refine bu (AB ⟨((i+1),G,H),(by first|omega|(simp only []; omega))⟩ _ _ _ U os (dp.cons U<|dp.cons U<|bw U F<|dp.nil _) (aR [3,4,5]))
theorem Tw (ts:List au) (tsA:OA) (tsC:Nat) (s:cH) (hlen:ts.length≤1000000) (hside: ∀ x∈ts,0≤x.iW∧x.iW≤255):
 dA Tryz.prog 194 [(vA (bL.cells (bL.mk (bE.mk tsA ts.length tsC)))),(vA (cH.cells s))] [(rd tsA ts.length 9 (ts.map au.cells))] (vT [(vA (ai.cells (Pq ts s))),(vI (EW ts s))]):=by
 refine bJ kr Tryz.func194 U U fun r Q hQ hN=>?_
 try dsimp only
 refine WS fun _ R=>eG U fun i=>eG U fun k=>AL U dT fun l=>bI 1 U<|RK R<|aq fun _ S=>WS fun _ T=>eV 1 [] (mc 2 U mn) U<|rS (CL (wK ts tsA tsC hlen) (bk [3]) U)<|rP 1 [] mn ?_
 refine RK T<|ck U (fun AB=>?_) (fun AB=>?_)
 ·rw [Bool.not_eq_true'] at AB
  refine WS fun _ AA=>rS (SX (bq (xs:=[]) (cs:=(ai.cells (ai.mk 0 0))) U U (bp gM U)) U U)<|eN U cT U<|rP 1 [] mn ?_
  refine RK AA<|ar<|l4 hQ [0] (mc 0 U mn) U ?_
  (have e:=Kv (s:=s) (by simpa using AB); rw [e.1,e.2]<;>rfl)
 rw [Bool.not_eq_false'] at AB
 refine WK S<|aq fun _ V=>WS fun _ W=>?_
 have M:=kb AB
 have Z:=k7 AB
 refine eV 2 [0,1] (mc 2 U (mc 1 U mn)) U<|rS (CL (sH ts tsA tsC s asm asm) (bk [3]) U)<|rP 1 [] mn ?_
 refine RK W<|ck U (aW fun D=>?_) (aY fun D=>?_)
 ·refine WS fun _ O=>rS (SX (bq (xs:=[]) (cs:=(ai.cells (ai.mk 0 0))) U U (bp gM U)) U U)<|eN U cT U<|rP 1 [] mn ?_
  refine RK O<|ar<|l4 hQ [0] (mc 0 U mn) U ?_
  (have e:=JY AB D; rw [e.1,e.2]<;>rfl)
 refine WK V<|aq fun _ H=>k6 cg [0,2,3] [1,4,5,6,7] [false,false,false] [] [(cz l 38 (ai.cells (ai.mk 0 0))),(cz k 135 (cH.cells s)),(cz i 24 (bL.cells (bL.mk (bE.mk tsA ts.length tsC)))),(rd tsA ts.length 9 (ts.map au.cells)).ro] [] kr (aR [0,1,2,3]) (aR []) ?_
 have q:=D.1
 have N:=rR M D
 have p:(iA ts (ts.length+1)).length=ts.length+1:=oZ
 refine eS U (LW 2 U bU U U)<|eS U (FA 0 U eU U)<|eS U (L1 (vI s.bH) 1 U bU U U)<|ek U<|fu [1,6] kr (cK ?_<|cK ?_<|gU)
 rotate_left 1
 ·refine NO U U [1,4,5,7] fun T12 J=>AL U dT fun f=>RD J 1 U<|N1 1<|NO U U [4,5,7] fun T14 P=>cX (BA ts tsA tsC asm asm) (bk [4]) U fun Y b=>?_
  obtain ⟨d,o⟩:=Y
  try dsimp only
  refine RD P 2 U<|N1 4<|NO U U [5,7] fun T19 E=>?_
  obtain ⟨z,hz⟩:=aC (iA ts (ts.length+1)) ((s.bH).toNat) I
  have A:=bO ai.cells hz
  refine rS (IA ((s.bH).toNat) U (aB (n:=(iA ts (ts.length+1)).length) 0 U sm) kT dc I I)<|RD E 2 U<|N1 5<|NO U U [7] fun T20 F=>rS (jE ((s.bH).toNat) 0 (ai.cells z) U bU (aB (n:=(iA ts (ts.length+1)).length) 0 U sm) A U dc U U)<|RD F 2 U<|N1 7<|NO U U [] fun T21 C=>qN U cT U<|RD C 2 U<|kH<|KK H<|WS fun _ B=>rP 1 [] mn ?_
  have A:=qi hz
  have G:=mF M 0 s.bH.toNat
  unfold lY at N
  rw [← A] at G
  refine eV 11 [0,1,0,1] (mc 1 U (mc 3 U mn)) U<|rS (SX (bq (xs:=[(0,.tmp 27),(1,.tmp 33)]) (cs:=(ai.cells (ai.mk (z.Lo+s.lX.Lo) (z.Hi+s.lX.Hi)))) U U (bp gM U)) U U)<|Hc U cT U<|rP 1 [] mn ?_
  refine RK B<|ar<|l4 hQ [0] (mc 2 U mn) U ?_
  (have e:=yd AB D; subst A; rw [e.1,e.2]<;>rfl)
 refine NO U U [4,5,6,7] fun T12 J=>cX (BA ts tsA tsC asm asm) (bk [3]) U fun X a=>?_
 obtain ⟨c,m⟩:=X
 try dsimp only
 refine RD J 1 U<|fu [4,6] kr (cK ?_<|cK ?_<|gU)
 rotate_left 1
 ·refine NO U U [4,5,7] fun T17 K=>AL U dT fun g=>RD K 2 U<|N1 4<|NO U U [5,7] fun T19 E=>?_
  obtain ⟨z,hz⟩:=aC (iA ts (ts.length+1)) ((s.bH).toNat) I
  have A:=bO ai.cells hz
  refine rS (IA ((s.bH).toNat) U (aB (n:=(iA ts (ts.length+1)).length) 1 U sm) kT dc I I)<|RD E 2 U<|N1 5<|NO U U [7] fun T20 F=>rS (jE ((s.bH).toNat) 0 (ai.cells z) U bU (aB (n:=(iA ts (ts.length+1)).length) 1 U sm) A U dc U U)<|RD F 2 U<|N1 7<|NO U U [] fun T21 C=>eN U cT U<|RD C 2 U<|kH<|KK H<|WS fun _ B=>rP 1 [] mn ?_
  have A:=qi hz
  have G:=mF M 0 s.bH.toNat
  unfold lY at N
  rw [← A] at G
  refine eV 11 [0,1,0,1] (mc 0 U (mc 3 U mn)) U<|rS (SX (bq (xs:=[(0,.tmp 27),(1,.tmp 33)]) (cs:=(ai.cells (ai.mk (z.Lo+s.lX.Lo) (z.Hi+s.lX.Hi)))) U U (bp gM U)) U U)<|Hc U cT U<|rP 1 [] mn ?_
  refine RK B<|ar<|l4 hQ [0] (mc 2 U mn) U ?_
  (have e:=yd AB D; subst A; rw [e.1,e.2]<;>rfl)
 refine NO U U [5,6,7] fun T17 K=>?_
 obtain ⟨z,hz⟩:=aC (iA ts (ts.length+1)) ((s.bH).toNat) I
 have A:=bO ai.cells hz
 refine rS (IA ((s.bH).toNat) U (aB (n:=(iA ts (ts.length+1)).length) 0 U sm) kT dc I I)<|RD K 1 U<|fu [5,6] kr (cK ?_<|cK ?_<|gU)
 rotate_left 1
 ·refine NO U U [5,7] fun T18 L=>AL U dT fun h=>RD L 2 U<|N1 5<|NO U U [7] fun T20 F=>rS (jE ((s.bH).toNat) 0 (ai.cells z) U bU (aB (n:=(iA ts (ts.length+1)).length) 1 U sm) A U dc U U)<|RD F 2 U<|N1 7<|NO U U [] fun T21 C=>eN U cT U<|RD C 2 U<|kH<|KK H<|WS fun _ B=>rP 1 [] mn ?_
  have A:=qi hz
  have G:=mF M 0 s.bH.toNat
  unfold lY at N
  rw [← A] at G
  refine eV 11 [0,1,0,1] (mc 0 U (mc 3 U mn)) U<|rS (SX (bq (xs:=[(0,.tmp 27),(1,.tmp 33)]) (cs:=(ai.cells (ai.mk (z.Lo+s.lX.Lo) (z.Hi+s.lX.Hi)))) U U (bp gM U)) U U)<|Hc U cT U<|rP 1 [] mn ?_
  refine RK B<|ar<|l4 hQ [0] (mc 2 U mn) U ?_
  (have e:=yd AB D; subst A; rw [e.1,e.2]<;>rfl)
 refine NO U U [6,7] fun T18 L=>rS (jE ((s.bH).toNat) 0 (ai.cells z) U bU (aB (n:=(iA ts (ts.length+1)).length) 0 U sm) A U dc U U)<|RD L 1 U<|N1 6<|NO U U [7] fun T19 E=>AL U dT fun j=>RD E 2 U<|N1 7<|NO U U [] fun T21 C=>eN U cT U<|RD C 2 U<|kH<|KK H<|WS fun _ B=>rP 1 [] mn ?_
 have A:=qi hz
 have G:=mF M 0 s.bH.toNat
 unfold lY at N
 rw [← A] at G
 refine eV 11 [0,1,0,1] (mc 0 U (mc 3 U mn)) U<|rS (SX (bq (xs:=[(0,.tmp 27),(1,.tmp 33)]) (cs:=(ai.cells (ai.mk (z.Lo+s.lX.Lo) (z.Hi+s.lX.Hi)))) U U (bp gM U)) U U)<|Hc U cT U<|rP 1 [] mn ?_
 refine RK B<|ar<|l4 hQ [0] (mc 2 U mn) U ?_
 (have e:=yd AB D; subst A; rw [e.1,e.2]<;>rfl)
theorem Gq (ts:List au) (tsA:OA) (tsC:Nat) (p:cH) (q:cH) (hlen:ts.length≤1000000) (hside: ∀ x∈ts,0≤x.iW∧x.iW≤255) (hord: ¬ q.bH<p.bH):
 dA Tryz.prog 195 [(vA (bL.cells (bL.mk (bE.mk tsA ts.length tsC)))),(vA (cH.cells p)),(vA (cH.cells q))] [(rd tsA ts.length 9 (ts.map au.cells))] (vT [(vA (ai.cells (lh ts p q))),(vI (l8 ts p q))]):=by
 refine bJ kr Tryz.func195 U U fun k Q hQ hN=>?_
 try dsimp only
 refine WS fun _ N=>eG U fun f=>eG U fun g=>eG U fun i=>AL U dT fun j=>bI 1 U<|RK N<|aq fun _ O=>WS fun _ P=>eV 1 [] (mc 3 U mn) U<|rS (CL (wK ts tsA tsC hlen) (bk [4]) U)<|rP 1 [] mn ?_
 refine RK P<|ck U (fun A=>?_) (fun A=>?_)
 ·rw [Bool.not_eq_true'] at A
  refine WS fun _ R=>rS (SX (bq (xs:=[]) (cs:=(ai.cells (ai.mk 0 0))) U U (bp gM U)) U U)<|eN U cT U<|rP 1 [] mn ?_
  refine RK R<|ar<|l4 hQ [0] (mc 0 U mn) U ?_
  (have e:=vR (a:=p) (b:=q) (by simpa using A); rw [e.1,e.2]<;>rfl)
 rw [Bool.not_eq_false'] at A
 refine WK O<|aq fun _ S=>WS fun _ E=>?_
 have D:=kb A
 have M:=k7 A
 refine eV 2 [0,1] (mc 3 U (mc 2 U mn)) U<|rS (CL (sH ts tsA tsC p asm asm) (bk [4]) U)<|rP 2 [] mn ?_
 refine bT (t:=20) U (aW fun B=>?_) (aY fun B=>?_)
 ·refine bI 5 U<|RK E<|aN U<|WS fun _ G=>rS (SX (bq (xs:=[]) (cs:=(ai.cells (ai.mk 0 0))) U U (bp gM U)) U U)<|eN U cT U<|rP 1 [] mn ?_
  refine RK G<|ar<|l4 hQ [0] (mc 0 U mn) U ?_
  (have e:=py (a:=p) (b:=q) A (fun h=>by first|exact B h.1|exact C h.2); rw [e.1,e.2]<;>rfl)
 refine eV 2 [0,1] (mc 3 U (mc 1 U mn)) U<|rS (CL (sH ts tsA tsC q asm asm) (bk [4]) U)<|rP 2 [] mn ?_
 refine RK E<|ck U (aW fun C=>?_) (aY fun C=>?_)
 ·refine WS fun _ H=>rS (SX (bq (xs:=[]) (cs:=(ai.cells (ai.mk 0 0))) U U (bp gM U)) U U)<|eN U cT U<|rP 1 [] mn ?_
  refine RK H<|ar<|l4 hQ [0] (mc 0 U mn) U ?_
  (have e:=py (a:=p) (b:=q) A (fun h=>by first|exact B h.1|exact C h.2); rw [e.1,e.2]<;>rfl)
 refine WK S<|aq fun _ AB=>WS fun _ J=>?_
 have AA:fR ts p∧fR ts q:=⟨B,C⟩
 have T:=rR D B
 have V:=rR D C
 have c:=B.1
 have d:=C.1
 have Y:=xu D M C B
 unfold lY at T V
 refine rP 5 [0,1] (mc 1 U (mc 2 U mn)) ?_
 refine RK J<|ck U (aT fun F=>?_) (aU fun F=>?_)
 ·exfalso; omega
 refine WK AB<|WS fun _ K=>rP 2 [] (mc 3 U mn) ?_
 have Z:=mF D p.bH.toNat (q.bH-p.bH).toNat
 refine eV 3 [0,1] (mc 2 U (mc 1 U mn)) U<|rS (CL (As ts tsA tsC p.bH q.bH asm asm I) (bk [4]) U)<|bI 3 U<|AL U dT fun W=>AL U dT fun X=>qN U cT U<|eN U cT U<|RK K<|WS fun _ L=>eV 20 [0,1,2,0,1,2] (mc 1 U (mc 3 U (mc 4 U mn))) U<|rS (SX (bq (xs:=[(0,.tmp 64),(1,.tmp 74)]) (cs:=(ai.cells (ai.mk ((((eP ts p.bH.toNat (q.bH-p.bH).toNat).Lo)+q.lX.Lo)-p.lX.Hi) ((((eP ts p.bH.toNat (q.bH-p.bH).toNat).Hi)+q.lX.Hi)-p.lX.Lo)))) U U (bp gM U)) U U)<|Hc U cT U<|rP 1 [] mn ?_
 refine RK L<|ar<|l4 hQ [0] (mc 2 U mn) U ?_
 (have e:=lO A AA; rw [e.1,e.2,rG F]<;>rfl)
theorem K_ (ts:List au) (tsA:OA) (tsC:Nat) (p:cH) (q:cH) (hlen:ts.length≤1000000) (hside: ∀ x∈ts,0≤x.iW∧x.iW≤255):
 dA Tryz.prog 195 [(vA (bL.cells (bL.mk (bE.mk tsA ts.length tsC)))),(vA (cH.cells p)),(vA (cH.cells q))] [(rd tsA ts.length 9 (ts.map au.cells))] (vT [(vA (ai.cells (lh ts p q))),(vI (l8 ts p q))]):=by
 refine bJ kr Tryz.func195 U U fun u Q hQ hN=>?_
 try dsimp only
 refine WS fun _ S=>eG U fun n=>eG U fun o=>eG U fun r=>AL U dT fun s=>bI 1 U<|RK S<|aq fun _ T=>WS fun _ AA=>eV 1 [] (mc 3 U mn) U<|rS (CL (wK ts tsA tsC hlen) (bk [4]) U)<|rP 1 [] mn ?_
 refine RK AA<|ck U (fun A=>?_) (fun A=>?_)
 ·rw [Bool.not_eq_true'] at A
  refine WS fun _ V=>rS (SX (bq (xs:=[]) (cs:=(ai.cells (ai.mk 0 0))) U U (bp gM U)) U U)<|eN U cT U<|rP 1 [] mn ?_
  refine RK V<|ar<|l4 hQ [0] (mc 0 U mn) U ?_
  (have e:=vR (a:=p) (b:=q) (by simpa using A); rw [e.1,e.2]<;>rfl)
 rw [Bool.not_eq_false'] at A
 refine WK T<|aq fun _ W=>WS fun _ E=>?_
 have D:=kb A
 have P:=k7 A
 refine eV 2 [0,1] (mc 3 U (mc 2 U mn)) U<|rS (CL (sH ts tsA tsC p asm asm) (bk [4]) U)<|rP 2 [] mn ?_
 refine bT (t:=20) U (aW fun B=>?_) (aY fun B=>?_)
 ·refine bI 5 U<|RK E<|aN U<|WS fun _ G=>rS (SX (bq (xs:=[]) (cs:=(ai.cells (ai.mk 0 0))) U U (bp gM U)) U U)<|eN U cT U<|rP 1 [] mn ?_
  refine RK G<|ar<|l4 hQ [0] (mc 0 U mn) U ?_
  (have e:=py (a:=p) (b:=q) A (fun h=>by first|exact B h.1|exact C h.2); rw [e.1,e.2]<;>rfl)
 refine eV 2 [0,1] (mc 3 U (mc 1 U mn)) U<|rS (CL (sH ts tsA tsC q asm asm) (bk [4]) U)<|rP 2 [] mn ?_
 refine RK E<|ck U (aW fun C=>?_) (aY fun C=>?_)
 ·refine WS fun _ H=>rS (SX (bq (xs:=[]) (cs:=(ai.cells (ai.mk 0 0))) U U (bp gM U)) U U)<|eN U cT U<|rP 1 [] mn ?_
  refine RK H<|ar<|l4 hQ [0] (mc 0 U mn) U ?_
  (have e:=py (a:=p) (b:=q) A (fun h=>by first|exact B h.1|exact C h.2); rw [e.1,e.2]<;>rfl)
 refine WK W<|aq fun _ AB=>WS fun _ J=>?_
 have R:fR ts p∧fR ts q:=⟨B,C⟩
 have X:=rR D B
 have Y:=rR D C
 have l:=B.1
 have m:=C.1
 have j:=xu D P C B
 unfold lY at X Y
 refine rP 5 [0,1] (mc 1 U (mc 2 U mn)) ?_
 refine RK J<|ck U (aT fun F=>?_) (aU fun F=>?_)
 ·refine WS fun _ K=>eV 3 [0,1,2] (mc 3 U (mc 1 U (mc 2 U mn))) U<|rS (CL (Gq ts tsA tsC q p hlen hside I) (bk [4]) U)<|bI 3 U<|AL U dT fun d=>eN U cT U<|bI 1 U<|RK K<|WS fun _ L=>rP 2 [] (mc 0 U mn) ?_
  have O:lh ts q p=ki ts q p:=(lO A ⟨C,B⟩).2
  have Z: -400000≤(lh ts q p).Lo∧(lh ts q p).Hi≤400000:=by rw [O]; omega
  have c:(lh ts q p).Lo≤(lh ts q p).Hi:=by rw [O]; omega
  refine rS (NG U ⟨I,I⟩)<|eV 2 [] (mc 0 U mn) U<|rS (NG U ⟨I,I⟩)<|rS (SX (bq (xs:=[(0,.tmp 41),(1,.tmp 44)]) (cs:=(ai.cells (ai.mk (-((lh ts q p).Hi)) (-((lh ts q p).Lo))))) U U (bp gM U)) U U)<|qN U cT U<|rP 1 [] mn ?_
  refine RK L<|ar<|l4 hQ [0] (mc 1 U mn) U ?_
  (have e:=lO A R; have i:=lO A ⟨C,B⟩; rw [e.1,e.2,i.2,DL F]<;>rfl)
 refine WK AB<|WS fun _ M=>rP 2 [] (mc 3 U mn) ?_
 have k:=mF D p.bH.toNat (q.bH-p.bH).toNat
 refine eV 3 [0,1] (mc 2 U (mc 1 U mn)) U<|rS (CL (As ts tsA tsC p.bH q.bH asm asm I) (bk [4]) U)<|bI 3 U<|AL U dT fun f=>AL U dT fun g=>qN U cT U<|eN U cT U<|RK M<|WS fun _ N=>eV 20 [0,1,2,0,1,2] (mc 1 U (mc 3 U (mc 4 U mn))) U<|rS (SX (bq (xs:=[(0,.tmp 64),(1,.tmp 74)]) (cs:=(ai.cells (ai.mk ((((eP ts p.bH.toNat (q.bH-p.bH).toNat).Lo)+q.lX.Lo)-p.lX.Hi) ((((eP ts p.bH.toNat (q.bH-p.bH).toNat).Hi)+q.lX.Hi)-p.lX.Lo)))) U U (bp gM U)) U U)<|Hc U cT U<|rP 1 [] mn ?_
 refine RK N<|ar<|l4 hQ [0] (mc 2 U mn) U ?_
 (have e:=lO A R; rw [e.1,e.2,rG F]<;>rfl)
end
section
open Go.RowKit
theorem JS (l:bG) (kA:OA) (kC:Nat) (az:List RA) (cA:OA) (cC:Nat) (bA:OA) (bC:Nat) (hraw:uA l az):
 dA Tryz.prog 70 [(vA (cm.cells (jR l kA kC cA cC bA bC)))] [(rd kA l.aO.length 9 (l.aO.map au.cells)),(rd cA l.aj.length 2 (List.zipWith ax.cells l.aj az)),(dE (bg ax.e_ l.aj az)),(rd bA l.ab.length 4 (l.ab.map bK.cells))] (vB (decide (mh l))):=by
 have e:=hraw.sj
 have d:=hraw.r_
 have a:=hraw.lz
 have b:=hraw.sh
 refine bJ kr Tryz.func70 U U fun g Q hQ hN=>?_
 try dsimp only
 refine WS fun _ O=>eG U fun f=>bI 1 U<|RK O<|aq fun _ P=>WS fun _ D=>bI 1 U<|rS (LP (bL.cells (bL.mk (bE.mk kA l.aO.length kC))) 0 U bU U U U)<|rS (CL (MP l.aO kA kC) (bk [1]) U)<|rP 1 [] mn ?_
 refine bT (t:=7) U (aT fun Z=>?_) (aU fun Z=>?_)
 ·refine bI 11 U<|RK D<|aN U<|WS fun _ R=>rP 1 [] mn ?_
  refine RK R<|ar<|Q1 hQ U U U ?_
  exact cB (cO (.inl I)).symm
 refine rP 6 [] (mc 0 U mn) ?_
 refine bT (t:=13) U (aT fun C=>?_) (aU fun C=>?_)
 ·refine bI 5 U<|RK D<|aN U<|WS fun _ S=>rP 1 [] mn ?_
  refine RK S<|ar<|Q1 hQ U U U ?_
  exact cB (cO (.inl I)).symm
 refine rP 5 [] (mc 0 U mn) ?_
 refine RK D<|ck U (aT fun N=>?_) (aU fun N=>?_)
 ·refine WS fun _ T=>rP 1 [] mn ?_
  refine RK T<|ar<|Q1 hQ U U U ?_
  exact cB (cO (.inl I)).symm
 refine WK P<|aq fun _ AA=>WS fun _ V=>rP 1 [] mn ?_
 refine RK V<|aH ?_
 have A:(0≤l.aj.length)∧(AV l 0):=by exact ⟨Nat.zero_le _,fun j c hj=>absurd hj (Nat.not_lt_zero _)⟩
 refine bS (ι:={z:Nat // (z≤l.aj.length)∧(AV l z)}) [1] [0,1,2,3,4] U U (fun z=>[(3,(vI (z.1:Int)))]) (fun z=>[]) (fun _=>rfl) (fun _=>rfl) (fun z=>l.aj.length-z.1) ⟨0,A⟩ (bD U) (aR [0,1,2,3,4]) ?_
 clear A
 rintro ⟨i,⟨W,B⟩⟩ J10 F
 try dsimp only
 refine aq fun _ G=>WS fun _ H=>rP 5 [] (mc 0 U mn) ?_
 refine RK H<|bR U (aU fun C=>?_) (aT fun C=>?_)
 ·refine bQ<|ag<|ag<|aI<|KK AA<|WS fun _ L=>rP 1 [] mn ?_
  refine RK L<|ar<|Q1 hQ U U U ?_
  exact cB (bj (KD I I B)).symm
 refine WK G<|aq fun _ AB=>aH<|WS fun _ J=>rP 3 [] (mc 0 U mn) ?_
 obtain ⟨x,hx⟩:=aC l.aj i I
 obtain ⟨xa,X⟩:=aC az i I
 have Y:(List.zipWith ax.cells l.aj az)[i]? =some (ax.cells x xa):=cv hx X
 refine rS (IA i U (ay 2 U) xZ dc I I)<|rS (pO ((i*2)+1) U (ay 2 U) (Nat.mul_pos I dc) eU U)<|rS (gD i 1 (vS xa.1 x.bB.length xa.2) U bU (ay 2 U) Y U dc U)<|rP 2 [] mn ?_
 refine RK J<|ck U (aT fun E=>?_) (aU fun E=>?_)
 ·refine WS fun _ K=>rP 1 [] mn ?_
  refine RK K<|ar<|Q1 hQ U U U ?_
  exact cB (cO (H5 hx E)).symm
 refine cj<|aP<|KK AB<|aw<|rP 3 [] mn ?_
 refine aK ?_
 have M:(vI (((i+1):Nat):Int))=(vI ((i:Int)+1)):=by exact cI I
 refine bu (F ⟨(i+1),⟨I,l9 B hx I⟩⟩ _ _ _ U os (dp.cons U<|bw U M<|dp.nil _) (aR [0,1,2,3,4]))
theorem xV (d m:Int) (hd:0≤d∧d≤1000) (hm:0≤m∧m≤90000000):
 dA Tryz.prog 193 [(vI d),(vI m)] [] (vI (o1 (d*m) 1000000)):=by
 have J:=PY (a:=d) (b:=m) (A:=1000) (B:=90000000) hd.1 hd.2 hm.1 hm.2
 refine bJ kr Tryz.func193 U U fun K Q hQ hN=>?_
 try dsimp only
 refine WS fun _ C=>bI 1 U<|RK C<|WS fun _ D=>bI 2 U<|rS (BI U (ux ⟨I,I⟩))<|bI 1 U<|RK D<|aq fun _ E=>WS fun _ F=>bI 1 U<|rS (BI U (LB I I))<|rP 1 [] mn ?_
 refine RK F<|ck U (aT fun AA=>?_) (aU fun AA=>?_)
 ·refine WS fun _ G=>bI 1 U<|rS (BI U (uU I I I))<|rP 2 [] mn ?_
  refine RK G<|ar<|Q1 hQ U U U ?_
  exact cI (by unfold o1; omega)
 refine WK E<|WS fun _ H=>bI 1 U<|rS (BI U (uU I I I))<|rP 1 [] mn ?_
 refine RK H<|ar<|Q1 hQ U U U ?_
 exact cI (by unfold o1; omega)
theorem Kd (c:ax) (sA:OA) (sC:Nat) (hlen:c.bB.length≤1000000):
 dA Tryz.prog 157 [(vA (dk.cells (dk.mk c.dw (bE.mk sA c.bB.length sC))))] [(rd sA c.bB.length 3 (c.bB.map ct.cells))] (vB (decide (fy c))):=by
 refine bJ kr Tryz.func157 U U fun w0 Q hQ hN=>?_
 try dsimp only
 refine WS fun _ EQ=>eG U fun b2=>bI 1 U<|RK EQ<|aq fun _ Eq=>WS fun _ A7=>eV 2 [] (mc 0 U mn) U<|rS (CL (jf c.dw 0 1000) (aL) U)<|rP 2 [] mn ?_
 refine bT (t:=14) U (aW fun Cx=>?_) (aY fun Cx=>?_)
 ·refine bI 6 U<|RK A7<|aN U<|WS fun _ FO=>rP 1 [] mn ?_
  refine RK FO<|ar<|Q1 hQ U U U ?_
  exact cB (bj fun h=>by have q1:=h.sT; have q2:=h.len; omega).symm
 refine eV 3 [] (mc 0 U mn) U<|rS (CL (jf (c.bB.length:Int) 1 5) (aL) U)<|rP 2 [] mn ?_
 refine RK A7<|ck U (aW fun C0=>?_) (aY fun C0=>?_)
 ·refine WS fun _ FS=>rP 1 [] mn ?_
  refine RK FS<|ar<|Q1 hQ U U U ?_
  exact cB (bj fun h=>by have q1:=h.sT; have q2:=h.len; omega).symm
 refine WK Eq<|aq fun _ Fd=>WS fun _ Fn=>rP 1 [] mn ?_
 refine RK Fn<|aH ?_
 have A:(0≤c.bB.length)∧(∀ (j:Nat) y,j<0→c.bB[j]? =some y→fT c j y):=by exact ⟨Nat.zero_le _,fun j y hj=>absurd hj (Nat.not_lt_zero _)⟩
 refine bS (ι:={z:Nat // (z≤c.bB.length)∧(∀ (j:Nat) y,j<z→c.bB[j]? =some y→fT c j y)}) [1] [0,1] U U (fun z=>[(3,(vI (z.1:Int)))]) (fun z=>[]) (fun _=>rfl) (fun _=>rfl) (fun z=>c.bB.length-z.1) ⟨0,A⟩ (bD U) (aR [0,1]) ?_
 clear A
 rintro ⟨i,⟨a,C⟩⟩ J9 f
 try dsimp only
 have IO:=KW a C
 refine aq fun _ g=>WS fun _ l=>rP 5 [] (mc 0 U mn) ?_
 refine RK l<|ck U (aT fun C1=>?_) (aU fun C1=>?_)
 ·refine WK g<|aq fun _ AA=>aH<|WS fun _ n=>rP 3 [] (mc 0 U mn) ?_
  obtain ⟨x,hx⟩:=aC c.bB i I
  have b:=bO ct.cells hx
  refine rS (IA i U (ay 1 U) nT dc I I)<|rS (jE i 0 (ct.cells x) U bU (ay 1 U) b U dc U U)<|AL U s9 fun Hi=>eN U tW U<|RK n<|aq fun _ B=>cU cg 41 kr<|kv 2 [] (mc 0 U mn) U<|dS (CL (jf x.At 0 86400000) (aL) U)<|dP 2 [] mn ?_
  refine gN (t:=37) U (aW fun C2=>?_) (aY fun C2=>?_)
  ·refine kR 36 U<|cx<|RK B<|aN U<|WS fun _ p=>rP 1 [] mn ?_
   refine RK p<|ar<|Q1 hQ U U U ?_
   exact cB (bj fun h=>by have q:=h.sync i x hx; unfold fT at q; (rw [gW I] at q; omega)).symm
  refine dP 3 [] mn ?_
  refine hP (t:=40) U (aU fun C3=>?_) (aT fun C3=>?_)
  ·refine dP 19 [] (mc 0 U mn) ?_
   refine gN (t:=59) U (aT fun X=>?_) (aU fun X=>?_)
   ·refine kR 14 U<|cx<|RK B<|aN U<|WS fun _ w=>rP 1 [] mn ?_
    refine RK w<|ar<|Q1 hQ U U U ?_
    exact cB (bj fun h=>by have q:=h.sync i x hx; unfold fT at q; (rw [gW I] at q; omega)).symm
   refine dP 9 [] (mc 0 U mn) ?_
   refine gN (t:=68) U (aT fun Y=>?_) (aU fun Y=>?_)
   ·refine kR 5 U<|cx<|RK B<|aN U<|WS fun _ AC=>rP 1 [] mn ?_
    refine RK AC<|ar<|Q1 hQ U U U ?_
    exact cB (bj fun h=>by have q:=h.sync i x hx; unfold fT at q; (rw [gW I] at q; omega)).symm
   refine dP 5 [] (mc 0 U mn) ?_
   refine cx<|RK B<|bR U (aU fun Z=>?_) (aT fun Z=>?_)
   ·refine cj<|aP<|KK AA<|aw<|rP 3 [] mn ?_
    refine aK ?_
    have Bh:(vI (((i+1):Nat):Int))=(vI ((i:Int)+1)):=by exact cI I
    refine bu (f ⟨(i+1),⟨I,l9 C hx (by unfold fT; (rw [gW I]; omega))⟩⟩ _ _ _ U os (dp.cons U<|bw U Bh<|dp.nil _) (aR [1,2]))
   refine WS fun _ AO=>rP 1 [] mn ?_
   refine RK AO<|ar<|Q1 hQ U U U ?_
   exact cB (bj fun h=>by have q:=h.sync i x hx; unfold fT at q; (rw [gW I] at q; omega)).symm
  refine dP 6 [0,1] (mc 0 U (mc 1 U mn)) ?_
  obtain ⟨y,hy⟩:=aC c.bB (i-1) I
  have d:=bO ct.cells hy
  refine dS (IA (i-1) U (ay 2 U) nT dc I I)<|dS (pO ((i-1)*3) U (ay 2 U) (Nat.mul_pos I dc) eU U)<|dS (gD (i-1) 0 (vI y.At) U bU (ay 2 U) d U dc U)<|dP 4 [] mn ?_
  refine gN (t:=53) U (aT fun Df=>?_) (aU fun Df=>?_)
  ·refine kR 20 U<|cx<|RK B<|aN U<|WS fun _ r=>rP 1 [] mn ?_
   refine RK r<|ar<|Q1 hQ U U U ?_
   exact cB (bj fun h=>by have q:=h.sync i x hx; unfold fT at q; (rw [yh I hy] at q; omega)).symm
  refine dP 6 [] (mc 0 U mn) ?_
  refine gN (t:=59) U (aT fun X=>?_) (aU fun X=>?_)
  ·refine kR 14 U<|cx<|RK B<|aN U<|WS fun _ s=>rP 1 [] mn ?_
   refine RK s<|ar<|Q1 hQ U U U ?_
   exact cB (bj fun h=>by have q:=h.sync i x hx; unfold fT at q; (rw [gW I] at q; omega)).symm
  refine dP 9 [] (mc 0 U mn) ?_
  refine gN (t:=68) U (aT fun Y=>?_) (aU fun Y=>?_)
  ·refine kR 5 U<|cx<|RK B<|aN U<|WS fun _ u=>rP 1 [] mn ?_
   refine RK u<|ar<|Q1 hQ U U U ?_
   exact cB (bj fun h=>by have q:=h.sync i x hx; unfold fT at q; (rw [gW I] at q; omega)).symm
  refine dP 5 [] (mc 0 U mn) ?_
  refine cx<|RK B<|bR U (aU fun Z=>?_) (aT fun Z=>?_)
  ·refine cj<|aP<|KK AA<|aw<|rP 3 [] mn ?_
   refine aK ?_
   have A9:(vI (((i+1):Nat):Int))=(vI ((i:Int)+1)):=by exact cI I
   refine bu (f ⟨(i+1),⟨I,l9 C hx (by unfold fT; (rw [yh I hy]; omega))⟩⟩ _ _ _ U os (dp.cons U<|bw U A9<|dp.nil _) (aR [1,2]))
  refine WS fun _ v=>rP 1 [] mn ?_
  refine RK v<|ar<|Q1 hQ U U U ?_
  exact cB (bj fun h=>by have q:=h.sync i x hx; unfold fT at q; (rw [gW I] at q; omega)).symm
 refine bQ<|ag<|ag<|aI<|KK Fd<|aq fun _ Ab=>WS fun _ A0=>rP 1 [] mn ?_
 refine RK A0<|aH ?_
 have A:(0≤c.bB.length)∧(uE c 0):=by exact ⟨Nat.zero_le _,fun j y hj=>absurd hj (Nat.not_lt_zero _)⟩
 refine bS (ι:={z:Nat // (z≤c.bB.length)∧(uE c z)}) [1] [0,1] U U (fun z=>[(5,(vI (z.1:Int)))]) (fun z=>[]) (fun _=>rfl) (fun _=>rfl) (fun z=>c.bB.length-z.1) ⟨0,A⟩ (bD U) (aR [0,1]) ?_
 clear A
 rintro ⟨m,⟨B9,G⟩⟩ J28 e
 try dsimp only
 have F:=yl (P:=fT c) I C
 refine aq fun _ A1=>WS fun _ A2=>rP 5 [] (mc 0 U mn) ?_
 refine RK A2<|bR U (aU fun Di=>?_) (aT fun Di=>?_)
 ·refine bQ<|ag<|ag<|aI<|KK Ab<|WS fun _ A8=>rP 1 [] mn ?_
  refine RK A8<|ar<|Q1 hQ U U U ?_
  exact cB (cO (KI I I (yl I C) I G)).symm
 refine WK A1<|aq fun _ A3=>aH<|WS fun _ A4=>rP 1 [] mn ?_
 refine RK A4<|aH ?_
 have A:(0≤m)∧(∀ y,c.bB[m]? =some y→Fh c y 0):=by exact ⟨Nat.zero_le _,fun y _ j o hj=>absurd hj (Nat.not_lt_zero _)⟩
 refine bS (ι:={z:Nat // (z≤m)∧(∀ y,c.bB[m]? =some y→Fh c y z)}) [1,5] [0,1] U U (fun z=>[(6,(vI (z.1:Int)))]) (fun z=>[]) (fun _=>rfl) (fun _=>rfl) (fun z=>m-z.1) ⟨0,A⟩ (bD U) (aR [0,1]) ?_
 clear A
 rintro ⟨k,⟨Ci,D⟩⟩ J33 T
 try dsimp only
 refine aq fun _ A5=>WS fun _ A6=>rP 3 [] mn ?_
 refine RK A6<|bR U (aU fun Do=>?_) (aT fun Do=>?_)
 ·refine bQ<|ag<|ag<|aI<|aP<|KK A3<|aw<|rP 3 [] mn ?_
  refine aK ?_
  have B3:(vI (((m+1):Nat):Int))=(vI ((m:Int)+1)):=by exact cI I
  refine bu (e ⟨(m+1),⟨I,Ec G D I⟩⟩ _ _ _ U os (dp.cons U<|bw U B3<|dp.nil _) (aR [0,1]))
 refine WK A5<|aq fun _ V=>aH<|aq fun _ W=>k6 cg [0,1,2,3,4,5,6,7,8,9] [10,11,12,13] [false,false,false,false,false,false,false,false,false,false] [] [(cz b2 133 (dk.cells (dk.mk c.dw (bE.mk sA c.bB.length sC)))),(rd sA c.bB.length 3 (c.bB.map ct.cells)).ro] [] kr (aR [0,1]) (aR [])<|eS U (FA 1 U eU U)<|eS U (L1 (vS sA c.bB.length sC) 0 U bU U U)<|eS U (MV U) ?_
 obtain ⟨x,hx⟩:=aC c.bB k I
 have b:=bO ct.cells hx
 refine eS U (IA k U (ay 1 U) nT dc I I)<|eS U (jE k 0 (ct.cells x) U bU (ay 1 U) b U dc U U)<|eS U (FA 1 U eU U)<|eS U (L1 (vS sA c.bB.length sC) 0 U bU U U)<|eS U (MV U) ?_
 obtain ⟨y,hy⟩:=aC c.bB m I
 have d:=bO ct.cells hy
 refine eS U (IA m U (ay 1 U) nT dc I I)<|eS U (jE m 0 (ct.cells y) U bU (ay 1 U) d U dc U U)<|ek U<|fu [10,11] kr (cK ?_<|cK ?_<|gU)
 rotate_left 1
 ·refine NO U U [10,12,13] fun T38 M=>AL U s9 fun Ck=>RD M 1 U<|N1 10<|NO U U [12,13] fun T40 N=>AL U s9 fun Cp=>RD N 2 U<|N1 12<|NO U U [13] fun T42 O=>eN U tW U<|RD O 2 U<|N1 13<|NO U U [] fun T43 R=>qN U tW U<|RD R 2 U<|kH<|KK W<|WS fun _ J=>rP 6 [0,1,2] (mc 2 U (mc 1 U (mc 0 U mn))) ?_
  obtain ⟨GE,GT,Go⟩:=vy (fun j z _ hz=>F j z hz) hy (F _ _ hy) (show k<m by omega) hx
  refine bI 1 U<|rS (CL (xV c.dw (y.At-x.At) I I) (aL) U)<|bI 1 U<|RK J<|WS fun _ E=>rP 10 [0,1] (mc 0 U (mc 1 U mn)) ?_
  refine bT (t:=113) U (aT fun H=>?_) (aU fun H=>?_)
  ·refine bI 10 U<|RK E<|aN U<|WS fun _ K=>rP 1 [] mn ?_
   refine RK K<|ar<|Q1 hQ U U U ?_
   exact cB (bj fun h=>by have q:=h.pair m k y x hy I hx; unfold nI at q; omega).symm
  refine rP 10 [0,1] (mc 1 U (mc 0 U mn)) ?_
  refine RK E<|bR U (aU fun AB=>?_) (aT fun AB=>?_)
  ·refine cj<|aP<|KK V<|aw<|rP 3 [] mn ?_
   refine aK ?_
   have S:(vI (((k+1):Nat):Int))=(vI ((k:Int)+1)):=by exact cI I
   refine bu (T ⟨(k+1),⟨I,fun z hz=>by rw [hy] at hz; cases hz; exact l9 (D _ hy) hx (by unfold nI; omega)⟩⟩ _ _ _ rfl os (dp.cons rfl<|dp.cons rfl<|bw rfl S<|dp.nil _) (aR [2,3]))
  refine WS fun _ L=>rP 1 [] mn ?_
  refine RK L<|ar<|Q1 hQ U U U ?_
  exact cB (bj fun h=>by have q:=h.pair m k y x hy I hx; unfold nI at q; omega).symm
 refine NO U U [11,12,13] fun T38 M=>AL U s9 fun Ck=>RD M 1 U<|N1 11<|NO U U [12,13] fun T40 N=>AL U s9 fun Cp=>RD N 2 U<|N1 12<|NO U U [13] fun T42 O=>qN U tW U<|RD O 2 U<|N1 13<|NO U U [] fun T43 R=>eN U tW U<|RD R 2 U<|kH<|KK W<|WS fun _ J=>rP 6 [0,1,2] (mc 2 U (mc 0 U (mc 1 U mn))) ?_
 obtain ⟨GE,GT,Go⟩:=vy (fun j z _ hz=>F j z hz) hy (F _ _ hy) (show k<m by omega) hx
 refine bI 1 U<|rS (CL (xV c.dw (y.At-x.At) I I) (aL) U)<|bI 1 U<|RK J<|WS fun _ E=>rP 10 [0,1] (mc 1 U (mc 0 U mn)) ?_
 refine bT (t:=113) U (aT fun H=>?_) (aU fun H=>?_)
 ·refine bI 10 U<|RK E<|aN U<|WS fun _ K=>rP 1 [] mn ?_
  refine RK K<|ar<|Q1 hQ U U U ?_
  exact cB (bj fun h=>by have q:=h.pair m k y x hy I hx; unfold nI at q; omega).symm
 refine rP 10 [0,1] (mc 0 U (mc 1 U mn)) ?_
 refine RK E<|bR U (aU fun AB=>?_) (aT fun AB=>?_)
 ·refine cj<|aP<|KK V<|aw<|rP 3 [] mn ?_
  refine aK ?_
  have S:(vI (((k+1):Nat):Int))=(vI ((k:Int)+1)):=by exact cI I
  refine bu (T ⟨(k+1),⟨I,fun z hz=>by rw [hy] at hz; cases hz; exact l9 (D _ hy) hx (by unfold nI; omega)⟩⟩ _ _ _ rfl os (dp.cons rfl<|dp.cons rfl<|bw rfl S<|dp.nil _) (aR [2,3]))
 refine WS fun _ L=>rP 1 [] mn ?_
 refine RK L<|ar<|Q1 hQ U U U ?_
 exact cB (bj fun h=>by have q:=h.pair m k y x hy I hx; unfold nI at q; omega).symm
theorem BC (c:ax) (sA:OA) (sC:Nat) (at_:Int) (hc:fy c) (ha:0≤at_∧at_≤90000000):
 dA Tryz.prog 218 [(vA (dk.cells (dk.mk c.dw (bE.mk sA c.bB.length sC)))),(vI at_)] [(rd sA c.bB.length 3 (c.bB.map ct.cells))] (vA (ai.cells (iG c at_))):=by
 have e:=hc.len
 have W:=hc.sT
 refine bJ kr Tryz.func218 U U fun j Q hQ hN=>?_
 try dsimp only
 refine WS fun _ R=>eG U fun g=>AL U dT fun h=>RK R<|WS fun _ S=>AL U dT fun d=>RK S<|aq fun _ T=>WS fun _ AA=>rP 1 [] mn ?_
 refine RK AA<|aH ?_
 have A:(0≤c.bB.length):=by exact Nat.zero_le _
 refine bS (ι:={z:Nat // (z≤c.bB.length)}) [1,2,4,5] [1,2,3] U U (fun z=>[(6,(vI (z.1:Int)))]) (fun z=>[(cz d 38 (ai.cells (lg c at_ z.1)))]) (fun _=>rfl) (fun _=>rfl) (fun z=>c.bB.length-z.1) ⟨0,A⟩ (bD U) (aR [1,2,3,0]) ?_
 clear A
 rintro ⟨i,X⟩ J8 D
 try dsimp only
 refine aq fun _ V=>WS fun _ E=>rP 5 [] (mc 1 U mn) ?_
 refine RK E<|bR U (aU fun O=>?_) (aT fun O=>?_)
 ·refine bQ<|ag<|ag<|aI<|KK T<|WS fun _ J=>rP 1 [] (mc 3 U mn) ?_
  refine eN U cT U<|RK J<|ar<|Dj hQ [0] (mc 0 U mn) U ?_
  rw [DM hc (show c.bB.length≤i by omega)]
 refine WK V<|aq fun _ B=>aH<|WS fun _ F=>rP 3 [] (mc 1 U mn) ?_
 obtain ⟨x,hx⟩:=aC c.bB i I
 have Z:=bO ct.cells hx
 refine rS (IA i U (ay 2 U) nT dc I I)<|rS (jE i 0 (ct.cells x) U bU (ay 2 U) Z U dc U U)<|AL U s9 fun a=>eN U tW U<|RK F<|WS fun _ G=>rP 2 [] (mc 2 U mn) ?_
 have Y:=hc.vp hx
 have f:0≤o1 (c.dw*max (at_-x.At) (x.At-at_)) 1000000∧o1 (c.dw*max (at_-x.At) (x.At-at_)) 1000000≤90001:=vw W ha Y.1
 refine eV 8 [] (mc 0 U mn) U<|rS (MX U)<|rS (CL (xV c.dw (max (at_-x.At) (x.At-at_)) I I) (aL) U)<|bI 1 U<|RK G<|WS fun _ H=>eV 10 [] (mc 0 U mn) U<|rS (SX (bq (xs:=[(0,.tmp 38),(1,.tmp 43)]) (cs:=(ai.cells (ai.mk (x.dZ.Lo-(o1 (c.dw*(max (at_-x.At) (x.At-at_))) 1000000)) (x.dZ.Hi+(o1 (c.dw*(max (at_-x.At) (x.At-at_))) 1000000))))) U U (bp gM U)) U U)<|AL U dT fun b=>eN U cT U<|RK H<|aq fun _ C=>WS fun _ AB=>rP 2 [] mn ?_
 refine RK AB<|bR U (aU fun P=>?_) (aT fun P=>?_)
 ·refine WK C<|aw<|eV 4 [0,1] (mc 5 U (mc 0 U mn)) U<|rS (MX U)<|rP 4 [0,1] (mc 5 U (mc 0 U mn)) ?_
  refine rS (MN U)<|rS (SX (bq (xs:=[(0,.tmp 52),(1,.tmp 57)]) (cs:=(ai.cells (ai.mk (max ((lg c at_ i).Lo) (x.dZ.Lo-(o1 (c.dw*(max (at_-x.At) (x.At-at_))) 1000000))) (min ((lg c at_ i).Hi) (x.dZ.Hi+(o1 (c.dw*(max (at_-x.At) (x.At-at_))) 1000000)))))) U U (bp gM U)) U U)<|Gk U cT U<|aK<|aP<|KK B ?_
  have M:(ai.cells (ai.mk (max ((lg c at_ i).Lo) (x.dZ.Lo-(o1 (c.dw*(max (at_-x.At) (x.At-at_))) 1000000))) (min ((lg c at_ i).Hi) (x.dZ.Hi+(o1 (c.dw*(max (at_-x.At) (x.At-at_))) 1000000)))))=(ai.cells (lg c at_ (i+1))):=by exact congrArg ai.cells (CE hx I).symm
  rw [M]
  refine aw<|rP 3 [] mn ?_
  refine aK ?_
  have N:(vI (((i+1):Nat):Int))=(vI ((i:Int)+1)):=by exact cI I
  refine bu (D ⟨(i+1),(by first|omega|(simp only []; omega))⟩ _ _ _ U os (cP 4<|bw U N<|dp.nil _) (aR [2,3,4,5]))
 refine aw<|eV 1 [] (mc 0 U mn) U<|Gk U cT U<|RK C<|aw<|eV 4 [0,1] (mc 5 U (mc 0 U mn)) U<|rS (MX U)<|rP 4 [0,1] (mc 5 U (mc 0 U mn)) ?_
 refine rS (MN U)<|rS (SX (bq (xs:=[(0,.tmp 52),(1,.tmp 57)]) (cs:=(ai.cells (ai.mk (max (x.dZ.Lo-(o1 (c.dw*(max (at_-x.At) (x.At-at_))) 1000000)) (x.dZ.Lo-(o1 (c.dw*(max (at_-x.At) (x.At-at_))) 1000000))) (min (x.dZ.Hi+(o1 (c.dw*(max (at_-x.At) (x.At-at_))) 1000000)) (x.dZ.Hi+(o1 (c.dw*(max (at_-x.At) (x.At-at_))) 1000000)))))) U U (bp gM U)) U U)<|Gk U cT U<|aK<|aP<|KK B ?_
 have K:(ai.cells (ai.mk (max (x.dZ.Lo-(o1 (c.dw*(max (at_-x.At) (x.At-at_))) 1000000)) (x.dZ.Lo-(o1 (c.dw*(max (at_-x.At) (x.At-at_))) 1000000))) (min (x.dZ.Hi+(o1 (c.dw*(max (at_-x.At) (x.At-at_))) 1000000)) (x.dZ.Hi+(o1 (c.dw*(max (at_-x.At) (x.At-at_))) 1000000)))))=(ai.cells (lg c at_ (i+1))):=by exact congrArg ai.cells (Ah hc ha hx I).symm
 rw [K]
 refine aw<|rP 3 [] mn ?_
 refine aK ?_
 have L:(vI (((i+1):Nat):Int))=(vI ((i:Int)+1)):=by exact cI I
 refine bu (D ⟨(i+1),(by first|omega|(simp only []; omega))⟩ _ _ _ U os (cP 4<|bw U L<|dp.nil _) (aR [2,3,4,5]))
theorem Jb (l:bG) (kA:OA) (kC:Nat) (az:List RA) (cA:OA) (cC:Nat) (bA:OA) (bC:Nat) (n:Int) (hin:ej l az) (htr:du l.aO=true) (hbk: ∀ b∈l.ab,kf l b) (hn:0≤n∧n<(l.ab.length:Int)):
 dA Tryz.prog 159 [(vA (cm.cells (jR l kA kC cA cC bA bC))),(vI n)] [(rd kA l.aO.length 9 (l.aO.map au.cells)),(rd cA l.aj.length 2 (List.zipWith ax.cells l.aj az)),(dE (bg ax.e_ l.aj az)),(rd bA l.ab.length 4 (l.ab.map bK.cells))] (vI (lH l n.toNat)):=by
 have AA:=hin.sj
 have S:=hin.r_
 have P:=hin.lz
 have R:=hin.sh
 have T:=hin.side
 refine bJ kr Tryz.func159 U U fun X Q hQ hN=>?_
 try dsimp only
 refine WS fun _ G=>eG U fun V=>bI 1 U<|RK G<|aq fun _ H=>WS fun _ AB=>rP 2 [] mn ?_
 refine RK AB<|ck U (aT fun F=>?_) (aU fun F=>?_)
 ·refine aq fun _ J=>dH cg [11,12] [] [] [0,1,2,3,4] [] U U U U U<|eS U (FA 0 U eU U)<|eS U (LP (bL.cells (bL.mk (bE.mk kA l.aO.length kC))) 0 U bU U U U)<|eS U (FA 3 U eU U)<|eS U (L1 (vS bA l.ab.length bC) 0 U bU U U) ?_
  obtain ⟨y,hy⟩:=aC l.ab 0 I
  have A:=bO bK.cells hy
  refine eS U (IA 0 U (ay 4 U) uZ dc U I)<|eS U (pO (0*4) U (ay 4 U) (Nat.mul_pos I dc) eU U)<|eS U (jE 0 0 (cH.cells y.lf) U bU (ay 4 U) A U dc U U)<|eS U (CL (Tw l.aO kA kC y.lf asm asm) (bk [1]) U)<|eS U (MV U)<|eS U (EX U)<|eS U (EX U)<|eS U (AG U)<|ek U<|cq U fun T6 L=>AL U dT fun W=>aK (L _ _ (aR [1,2,3,4,5]) ?_)
  refine cq U fun T8 M=>eN U cT U<|aK (M _ _ (aR [1,2,3,4,5]) ?_)
  refine fJ U<|KK J<|WS fun _ K=>rP 3 [] (mc 0 U mn) ?_
  refine RK K<|ar<|Q1 hQ U U U ?_
  (refine congrArg (Value.int .i64) ?_; rw [show n.toNat=0 by omega]; rw [zQ hy,(yd htr (hbk _ (List.mem_of_getElem? hy)).1).2])
 refine WK H<|aq fun _ B=>dH cg [19,20] [] [] [0,1,2,3,4] [] U U U U U<|eS U (FA 0 U eU U)<|eS U (LP (bL.cells (bL.mk (bE.mk kA l.aO.length kC))) 0 U bU U U U)<|eS U (FA 3 U eU U)<|eS U (L1 (vS bA l.ab.length bC) 0 U bU U U)<|eS U (MV U)<|eS U (BI U (x3 ⟨I,I⟩)) ?_
 obtain ⟨y,hy⟩:=aC l.ab (((n-1)).toNat) I
 have A:=bO bK.cells hy
 refine eS U (IA (((n-1)).toNat) U (ay 4 U) uZ dc I I)<|eS U (pO ((((n-1)).toNat)*4) U (ay 4 U) (Nat.mul_pos I dc) eU U)<|eS U (jE (((n-1)).toNat) 0 (cH.cells y.lf) U bU (ay 4 U) A U dc U U)<|eS U (FA 3 U eU U)<|eS U (L1 (vS bA l.ab.length bC) 0 U bU U U)<|eS U (MV U) ?_
 obtain ⟨x,hx⟩:=aC l.ab ((n).toNat) I
 have N:=bO bK.cells hx
 refine eS U (IA ((n).toNat) U (ay 4 U) uZ dc I I)<|eS U (pO (((n).toNat)*4) U (ay 4 U) (Nat.mul_pos I dc) eU U)<|eS U (jE ((n).toNat) 0 (cH.cells x.lf) U bU (ay 4 U) N U dc U U)<|eS U (CL (K_ l.aO kA kC y.lf x.lf asm asm) (bk [1]) U)<|eS U (MV U)<|eS U (EX U)<|eS U (EX U)<|eS U (AG U)<|ek U<|cq U fun T11 D=>AL U dT fun O=>aK (D _ _ (aR [1,2,3,4,5]) ?_)
 refine cq U fun T13 E=>eN U cT U<|aK (E _ _ (aR [1,2,3,4,5]) ?_)
 refine fJ U<|KK B<|WS fun _ C=>rP 3 [] (mc 0 U mn) ?_
 refine RK C<|ar<|Q1 hQ U U U ?_
 (refine congrArg (Value.int .i64) ?_; rw [CJ I hx (by rw [show n.toNat-1=(n-1).toNat by omega]; exact hy),(lO htr ⟨(hbk _ (List.mem_of_getElem? hy)).1,(hbk _ (List.mem_of_getElem? hx)).1⟩).2])
theorem JO (l:bG) (kA:OA) (kC:Nat) (az:List RA) (cA:OA) (cC:Nat) (bA:OA) (bC:Nat) (n:Int) (hin:ej l az) (htr:du l.aO=true) (hok:lR l) (hn:0≤n∧n<(l.ab.length:Int)):
 dA Tryz.prog 212 [(vA (cm.cells (jR l kA kC cA cC bA bC))),(vI n)] [(rd kA l.aO.length 9 (l.aO.map au.cells)),(rd cA l.aj.length 2 (List.zipWith ax.cells l.aj az)),(dE (bg ax.e_ l.aj az)),(rd bA l.ab.length 4 (l.ab.map bK.cells))] (vI (eE l n.toNat)):=by
 have G:=hin.sj
 have F:=hin.r_
 have D:=hin.lz
 have E:=hin.sh
 have C:=hok.head
 unfold e7 at C
 have H:=C6 htr hok.vV n.toNat
 have AA:=hok.QS n.toNat I
 refine bJ kr Tryz.func212 U U fun K Q hQ hN=>?_
 try dsimp only
 refine WS fun _ A=>eG U fun J=>bI 1 U<|RK A<|aq fun _ B=>cU cg 12 kr<|kv 2 [] (mc 0 U mn) U<|dS (CL (Jb l kA kC az cA cC bA bC n hin htr (by exact hok.vV) hn) (bk [1,2,3,4]) U)<|dS (BI U (ux ⟨I,I⟩))<|kv 6 [] (mc 0 U mn) U<|dS (BI U (uU I I I))<|dP 1 [] mn ?_
 refine cx<|RK B<|ar<|Q1 hQ U U U ?_
 exact cI (by unfold eE o1; rw [Int.mul_comm])
theorem Mt (l:bG) (kA:OA) (kC:Nat) (az:List RA) (cA:OA) (cC:Nat) (bA:OA) (bC:Nat) (hin:ej l az) (htr:du l.aO=true):
 dA Tryz.prog 127 [(vA (cm.cells (jR l kA kC cA cC bA bC)))] [(rd kA l.aO.length 9 (l.aO.map au.cells)),(rd cA l.aj.length 2 (List.zipWith ax.cells l.aj az)),(dE (bg ax.e_ l.aj az)),(rd bA l.ab.length 4 (l.ab.map bK.cells))] (vB (decide (lR l))):=by
 have FS:=hin.sj
 have Do:=hin.r_
 have C3:=hin.lz
 have Di:=hin.sh
 have EQ:=hin.side
 have Eq:=kb htr
 have C2:=k7 htr
 refine bJ kr Tryz.func127 U U fun w0 Q hQ hN=>?_
 try dsimp only
 refine WS fun _ A9=>eG U fun b2=>bI 1 U<|RK A9<|aq fun _ Bh=>WS fun _ D=>eV 2 [] (mc 0 U mn) U<|rS (CL (jf l.hU 1 5000) (aL) U)<|rP 2 [] mn ?_
 refine bT (t:=10) U (aW fun Ab=>?_) (aY fun Ab=>?_)
 ·refine bI 35 U<|RK D<|aN U<|WS fun _ B3=>rP 1 [] mn ?_
  refine RK B3<|ar<|Q1 hQ U U U ?_
  exact cB (bj fun h=>by have q:=h.head; unfold e7 at q; omega).symm
 refine eV 3 [] (mc 0 U mn) U<|rS (CL (jf (l.aj.length:Int) 1 4) (aL) U)<|rP 3 [] mn ?_
 refine bT (t:=17) U (aW fun A0=>?_) (aY fun A0=>?_)
 ·refine bI 28 U<|RK D<|aN U<|WS fun _ B9=>rP 1 [] mn ?_
  refine RK B9<|ar<|Q1 hQ U U U ?_
  exact cB (bj fun h=>by have q:=h.head; unfold e7 at q; omega).symm
 refine eV 3 [] (mc 0 U mn) U<|rS (CL (jf (l.ab.length:Int) 1 6) (aL) U)<|rP 3 [] mn ?_
 refine bT (t:=24) U (aW fun A1=>?_) (aY fun A1=>?_)
 ·refine bI 21 U<|RK D<|aN U<|WS fun _ Ci=>rP 1 [] mn ?_
  refine RK Ci<|ar<|Q1 hQ U U U ?_
  exact cB (bj fun h=>by have q:=h.head; unfold e7 at q; omega).symm
 refine eV 6 [] (mc 0 U mn) U<|rS (CL (jf l.cd 0 ((l.ab.length:Int)-1)) (aL) U)<|rP 3 [] mn ?_
 refine bT (t:=34) U (aW fun A2=>?_) (aY fun A2=>?_)
 ·refine bI 11 U<|RK D<|aN U<|WS fun _ Ck=>rP 1 [] mn ?_
  refine RK Ck<|ar<|Q1 hQ U U U ?_
  exact cB (bj fun h=>by have q:=h.head; unfold e7 at q; omega).symm
 refine eV 2 [] (mc 0 U mn) U<|rS (CL (jf l.fK 0 3) (aL) U)<|rP 3 [] mn ?_
 refine bT (t:=40) U (aW fun A3=>?_) (aY fun A3=>?_)
 ·refine bI 5 U<|RK D<|aN U<|WS fun _ Cp=>rP 1 [] mn ?_
  refine RK Cp<|ar<|Q1 hQ U U U ?_
  exact cB (bj fun h=>by have q:=h.head; unfold e7 at q; omega).symm
 refine eV 2 [] (mc 0 U mn) U<|rS (CL (jf l.dC 0 3) (aL) U)<|rP 2 [] mn ?_
 refine RK D<|ck U (aW fun A4=>?_) (aY fun A4=>?_)
 ·refine WS fun _ N=>rP 1 [] mn ?_
  refine RK N<|ar<|Q1 hQ U U U ?_
  exact cB (bj fun h=>by have q:=h.head; unfold e7 at q; omega).symm
 refine WK Bh<|aq fun _ O=>WS fun _ R=>rP 1 [] mn ?_
 refine RK R<|aH ?_
 have A:(0≤l.aj.length)∧(∀ (j:Nat) y,j<0→l.aj[j]? =some y→fy y):=by exact ⟨Nat.zero_le _,fun j y hj=>absurd hj (Nat.not_lt_zero _)⟩
 refine bS (ι:={z:Nat // (z≤l.aj.length)∧(∀ (j:Nat) y,j<z→l.aj[j]? =some y→fy y)}) [1] [0,1,2,3,4] U U (fun z=>[(3,(vI (z.1:Int)))]) (fun z=>[]) (fun _=>rfl) (fun _=>rfl) (fun z=>l.aj.length-z.1) ⟨0,A⟩ (bD U) (aR [0,1,2,3,4]) ?_
 clear A
 rintro ⟨i,⟨Cx,F⟩⟩ J13 K
 try dsimp only
 refine aq fun _ S=>WS fun _ T=>rP 5 [] (mc 0 U mn) ?_
 refine RK T<|ck U (aT fun A5=>?_) (aU fun A5=>?_)
 ·refine WK S<|aq fun _ AA=>aH<|WS fun _ V=>rP 3 [] (mc 0 U mn) ?_
  obtain ⟨x,hx⟩:=aC l.aj i I
  obtain ⟨xa,J⟩:=aC az i I
  have C1:(List.zipWith ax.cells l.aj az)[i]? =some (ax.cells x xa):=cv hx J
  refine rS (IA i U (ay 2 U) xZ dc I I)<|rS (jE i 0 (dk.cells (dk.mk x.dw (bE.mk xa.1 x.bB.length xa.2))) U bU (ay 2 U) C1 U dc U U) ?_
  have FO:=(hin.Q7 _ _ _ hx J).2
  refine rS (CL (Kd x xa.1 xa.2 asm) (aD (show fY _ (rd xa.1 x.bB.length 3 (x.bB.map ct.cells)).holds from (bY 3 U (a_ hx J (by simp [ax.e_]))))<|aL) U)<|rP 1 [] mn ?_
  refine RK V<|bR U (aY fun AB=>?_) (aW fun AB=>?_)
  ·refine cj<|aP<|KK AA<|aw<|rP 3 [] mn ?_
   refine aK ?_
   have u:(vI (((i+1):Nat):Int))=(vI ((i:Int)+1)):=by exact cI I
   refine bu (K ⟨(i+1),⟨I,l9 (P:=fun _ y=>fy y) F hx AB⟩⟩ _ _ _ U os (dp.cons U<|bw U u<|dp.nil _) (aR [0,1,2,3,4]))
  refine WS fun _ W=>rP 1 [] mn ?_
  refine RK W<|ar<|Q1 hQ U U U ?_
  exact cB (bj fun h=>AB (h.clock _ (aM hx))).symm
 refine bQ<|ag<|ag<|aI<|KK O<|aq fun _ X=>WS fun _ Y=>rP 1 [] mn ?_
 refine RK Y<|aH ?_
 have A:(0≤l.ab.length)∧(∀ (j:Nat) y,j<0→l.ab[j]? =some y→kf l y):=by exact ⟨Nat.zero_le _,fun j y hj=>absurd hj (Nat.not_lt_zero _)⟩
 refine bS (ι:={z:Nat // (z≤l.ab.length)∧(∀ (j:Nat) y,j<z→l.ab[j]? =some y→kf l y)}) [1] [0,1,2,3,4] U U (fun z=>[(4,(vI (z.1:Int)))]) (fun z=>[]) (fun _=>rfl) (fun _=>rfl) (fun z=>l.ab.length-z.1) ⟨0,A⟩ (bD U) (aR [0,1,2,3,4]) ?_
 clear A
 rintro ⟨m,⟨C0,B⟩⟩ J22 L
 try dsimp only
 refine aq fun _ Z=>WS fun _ a=>rP 5 [] (mc 0 U mn) ?_
 refine RK a<|bR U (aU fun A6=>?_) (aT fun A6=>?_)
 ·refine bQ<|ag<|ag<|aI<|KK X<|aq fun _ e=>WS fun _ f=>rP 1 [] mn ?_
  refine RK f<|aH ?_
  have A:(0≤l.ab.length)∧(∀ j,j<0→1≤lH l j):=by exact ⟨Nat.zero_le _,fun j hj=>absurd hj (Nat.not_lt_zero _)⟩
  refine bS (ι:={z:Nat // (z≤l.ab.length)∧(∀ j,j<z→1≤lH l j)}) [1] [0,1,2,3,4] U U (fun z=>[(5,(vI (z.1:Int)))]) (fun z=>[]) (fun _=>rfl) (fun _=>rfl) (fun z=>l.ab.length-z.1) ⟨0,A⟩ (bD U) (aR [0,1,2,3,4]) ?_
  clear A
  rintro ⟨n,⟨AO,C⟩⟩ J32 M
  try dsimp only
  have Df:=xM (P:=kf l) I B
  refine aq fun _ g=>WS fun _ k=>rP 5 [] (mc 0 U mn) ?_
  refine RK k<|bR U (aU fun A8=>?_) (aT fun A8=>?_)
  ·refine bQ<|ag<|ag<|aI<|KK e<|WS fun _ s=>rP 1 [] mn ?_
   refine RK s<|ar<|Q1 hQ U U U ?_
   exact cB (cO (zt (by unfold e7; omega) (xM I F) (xM I B) (fun j hj=>C j I))).symm
  refine WK g<|aq fun _ o=>aH<|WS fun _ p=>eV 2 [] (mc 0 U mn) U<|rS (CL (Jb l kA kC az cA cC bA bC (n:Int) hin htr asm I) (bk [1,2,3,4]) U)<|rP 1 [] mn ?_
  refine RK p<|bR U (aU fun E=>?_) (aT fun E=>?_)
  ·refine cj<|aP<|KK o<|aw<|rP 3 [] mn ?_
   refine aK ?_
   have w:(vI (((n+1):Nat):Int))=(vI ((n:Int)+1)):=by exact cI I
   refine bu (M ⟨(n+1),⟨I,fun j hj=>by rcases Nat.lt_or_ge j n with q|q; exact C j q; (obtain rfl:j=n:=by omega); simp only [Int.toNat_natCast] at E; omega⟩⟩ _ _ _ rfl os (dp.cons rfl<|bw rfl w<|dp.nil _) (aR [0,1,2,3,4]))
  refine WS fun _ r=>rP 1 [] mn ?_
  refine RK r<|ar<|Q1 hQ U U U ?_
  exact cB (bj fun h=>by have q:=h.QS n I; simp only [Int.toNat_natCast] at E; omega).symm
 refine WK Z<|aq fun _ b=>aH<|aq fun _ H=>cU cg 24 kr<|kR 1 U<|dS (LP (bL.cells (bL.mk (bE.mk kA l.aO.length kC))) 0 U bU U U U)<|dP 3 [] (mc 0 U mn) ?_
 obtain ⟨y,hy⟩:=aC l.ab m I
 have AC:=bO bK.cells hy
 refine dS (IA m U (ay 4 U) uZ dc I I)<|dS (pO (m*4) U (ay 4 U) (Nat.mul_pos I dc) eU U)<|dS (jE m 0 (cH.cells y.lf) U bU (ay 4 U) AC U dc U U)<|dS (CL (sH l.aO kA kC y.lf asm asm) (bk [1]) U)<|dP 2 [] mn ?_
 refine gN (t:=77) U (aW fun G=>?_) (aY fun G=>?_)
 ·refine kR 13 U<|cx<|RK H<|aN U<|WS fun _ c=>rP 1 [] mn ?_
  refine RK c<|ar<|Q1 hQ U U U ?_
  exact cB (bj fun h=>by have q:=h.vV _ (aM hy); have q2:=q.2; first|exact G q.1|omega).symm
 refine kv 3 [] (mc 0 U mn) U<|dS (IA m U (ay 4 U) uZ dc I I)<|dS (pO ((m*4)+3) U (ay 4 U) (Nat.mul_pos I dc) eU U)<|dS (gD m 3 (vI y.jL) U bU (ay 4 U) AC U dc U)<|kv 4 [] (mc 0 U mn) U<|dS (CL (jf y.jL 0 ((l.aj.length:Int)-1)) (aL) U)<|dP 2 [] mn ?_
 refine cx<|RK H<|bR U (aY fun A7=>?_) (aW fun A7=>?_)
 ·refine cj<|aP<|KK b<|aw<|rP 3 [] mn ?_
  refine aK ?_
  have v:(vI (((m+1):Nat):Int))=(vI ((m:Int)+1)):=by exact cI I
  refine bu (L ⟨(m+1),⟨I,l9 (P:=fun _ y=>kf l y) B hy ⟨G,I,I⟩⟩⟩ _ _ _ U os (dp.cons U<|bw U v<|dp.nil _) (aR [0,1,2,3,4]))
 refine WS fun _ d=>rP 1 [] mn ?_
 refine RK d<|ar<|Q1 hQ U U U ?_
 exact cB (bj fun h=>by have q:=h.vV _ (aM hy); have q2:=q.2; first|exact G q.1|omega).symm
end
section
open Go.RowKit
theorem CU (l:bG) (kA:OA) (kC:Nat) (az:List RA) (cA:OA) (cC:Nat) (bA:OA) (bC:Nat) (hin:ej l az):
 dA Tryz.prog 105 [(vA (cm.cells (jR l kA kC cA cC bA bC)))] [(rd kA l.aO.length 9 (l.aO.map au.cells)),(rd cA l.aj.length 2 (List.zipWith ax.cells l.aj az)),(dE (bg ax.e_ l.aj az)),(rd bA l.ab.length 4 (l.ab.map bK.cells))] (vI (eT l)):=by
 have N:=hin.sj
 have M:=hin.r_
 have K:=hin.lz
 have L:=hin.sh
 refine bJ kr Tryz.func105 U U fun P Q hQ hN=>?_
 try dsimp only
 refine WS fun _ C=>eG U fun O=>bI 1 U<|RK C<|aq fun _ D=>WS fun _ E=>bI 1 U<|rS (LP (bL.cells (bL.mk (bE.mk kA l.aO.length kC))) 0 U bU U U U)<|rS (CL (wK l.aO kA kC asm) (bk [1]) U)<|rP 1 [] mn ?_
 refine RK E<|ck U (fun A=>?_) (fun A=>?_)
 ·rw [Bool.not_eq_true'] at A
  refine WS fun _ F=>rP 1 [] mn ?_
  refine RK F<|ar<|Q1 hQ U U U ?_
  exact cI (zW (by simpa using A)).symm
 rw [Bool.not_eq_false'] at A
 refine WK D<|aq fun _ G=>WS fun _ H=>eV 1 [] (mc 0 U mn) U<|rS (CL (Mt l kA kC az cA cC bA bC hin asm) (bk [1,2,3,4]) U)<|rP 1 [] mn ?_
 refine RK H<|ck U (aW fun B=>?_) (aY fun B=>?_)
 ·refine WS fun _ AA=>rP 1 [] mn ?_
  refine RK AA<|ar<|Q1 hQ U U U ?_
  exact cI (rD A B).symm
 refine WK G<|WS fun _ J=>rP 1 [] mn ?_
 refine RK J<|ar<|Q1 hQ U U U ?_
 exact cI (xJ A B).symm
theorem ME (l:bG) (kA:OA) (kC:Nat) (az:List RA) (cA:OA) (cC:Nat) (bA:OA) (bC:Nat) (s:aF) (hin:ej l az) (hok:lR l) (hs:(0≤s.fI∧s.fI≤(l.ab.length:Int)-1)∧0≤s.Read∧s.Read≤86400000):
 dA Tryz.prog 213 [(vA (cm.cells (jR l kA kC cA cC bA bC))),(vA (aF.cells s))] [(rd kA l.aO.length 9 (l.aO.map au.cells)),(rd cA l.aj.length 2 (List.zipWith ax.cells l.aj az)),(dE (bg ax.e_ l.aj az)),(rd bA l.ab.length 4 (l.ab.map bK.cells))] (vT [(vA (ai.cells (cY l s))),(vB (decide ((cY l s).Lo≤(cY l s).Hi)))]):=by
 have A1:=hin.sj
 have A0:=hin.r_
 have AO:=hin.lz
 have Ab:=hin.sh
 refine bJ kr Tryz.func213 U U fun w0 Q hQ hN=>?_
 try dsimp only
 refine WS fun _ i=>eG U fun b2=>eG U fun b3=>AL U dT fun b4=>rP 1 [] mn ?_
 refine RK i<|aq fun _ j=>dH cg [11,12] [] [] [0,1,2,3,4,5,6] [] U U U U U<|eS U (FA 2 U eU U)<|eS U (L1 (vS cA l.aj.length cC) 2 U bU U U)<|eS U (FA 3 U eU U)<|eS U (L1 (vS bA l.ab.length bC) 2 U bU U U)<|eS U (FA 0 U eU U)<|eS U (L1 (vI s.fI) 1 U bU U U) ?_
 obtain ⟨y,hy⟩:=aC l.ab ((s.fI).toNat) I
 have w:=bO bK.cells hy
 refine eS U (IA ((s.fI).toNat) U (ay 6 U) uZ dc I I)<|eS U (pO ((((s.fI).toNat)*4)+3) U (ay 6 U) (Nat.mul_pos I dc) eU U)<|eS U (gD ((s.fI).toNat) 3 (vI y.jL) U bU (ay 6 U) w U dc U) ?_
 have A2:=(hok.vV _ (aM hy)).2
 obtain ⟨x,hx⟩:=aC l.aj ((y.jL).toNat) I
 obtain ⟨xa,J⟩:=aC az ((y.jL).toNat) I
 have u:(List.zipWith ax.cells l.aj az)[(y.jL).toNat]? =some (ax.cells x xa):=cv hx J
 refine eS U (IA ((y.jL).toNat) U (ay 4 U) xZ dc I I)<|eS U (jE ((y.jL).toNat) 0 (dk.cells (dk.mk x.dw (bE.mk xa.1 x.bB.length xa.2))) U bU (ay 4 U) u U dc U U)<|ek U<|cq U fun T6 m=>AL U xA fun b7=>aK (m _ _ (aR [1,2,3,4,5,6,7]) ?_)
 refine cq U fun T8 o=>eN U zp U<|aK (o _ _ (aR [1,2,3,4,5,6,7]) ?_)
 refine fJ U<|KK j<|WS fun _ k=>rP 2 [] mn ?_
 refine RK k<|aq fun _ K=>aH ?_
 have A:(0≤(0:Int)∧(0:Int)≤(fM (gI x s.Read) 86400001))∧((fM (gI x s.Read) 86400001)≤(86400001:Int)∧(86400001:Int)≤86400001):=by (have Z:=iJ (p:=gI x s.Read) (n:=86400001); omega)
 refine bS (ι:={z:Int×Int // (0≤z.1∧z.1≤(fM (gI x s.Read) 86400001))∧((fM (gI x s.Read) 86400001)≤z.2∧z.2≤86400001)}) [2,3,4,6] [0,1,2,3,4,5,6,7] U U (fun z=>[(7,(vI z.1.1)),(8,(vI z.1.2))]) (fun z=>[]) (fun _=>rfl) (fun _=>rfl) (fun z=>(z.1.2-z.1.1).toNat) ⟨((0:Int),(86400001:Int)),A⟩ (bD U) (aR [0,1,2,3,4,5,6,7]) ?_
 clear A
 rintro ⟨⟨a,b⟩,⟨H,AB⟩⟩ J11 F
 try dsimp only at H AB
 try dsimp only
 have B:=hok.clock _ (aM hx)
 have Z:=iJ (p:=gI x s.Read) (n:=86400001)
 have Y:=iJ (p:=gH x s.Read) (n:=86400001)
 refine aq fun _ L=>WS fun _ M=>rP 3 [] mn ?_
 refine RK M<|ck U (aT fun c=>?_) (aU fun c=>?_)
 ·refine WK L<|aH<|WS fun _ N=>bI 3 U<|rS (BI U (uU I I I))<|bI 1 U<|RK N<|aq fun _ O=>cU cg 9 kr<|dP 3 [] (mc 0 U mn) ?_
  refine dS (CL (BC x xa.1 xa.2 ((a+b)/2) asm I) (aD (show fY _ (rd xa.1 x.bB.length 3 (x.bB.map ct.cells)).holds from (bY 6 U (a_ hx J (by simp [ax.e_]))))<|aL) U)<|dS (SX (rY (v:=(vI ((iG x ((a+b)/2)).Hi))) U U eU Ik U) U U) ?_
  have t:=rL B (show 0≤(a+b)/2∧(a+b)/2≤90000000 by omega)
  refine dP 4 [] (mc 2 U mn) ?_
  refine cx<|RK O<|ck U (aT fun g=>?_) (aU fun g=>?_)
  ·refine aw<|rP 2 [] mn ?_
   refine aK<|aP ?_
   refine bu (F ⟨(a,((a+b)/2)),(by dsimp only; have hm:=lD (r:=s.Read) B (x:=(a+b)/2) I I; rcases Int.lt_or_le ((a+b)/2) (fM (gI x s.Read) 86400001) with q|q; (have C:=hm.1 q; simp only [gI,decide_eq_false_iff_not] at C; omega); (have C:=hm.2.1 q; simp only [gI,decide_eq_true_eq] at C; omega))⟩ _ _ _ rfl (by simp only []; omega) (bD rfl) (aR [0,1,2,3,4,5,6,7]))
  refine aw<|rP 3 [] mn ?_
  refine aK<|aP ?_
  refine bu (F ⟨((((a+b)/2)+1),b),(by dsimp only; have hm:=lD (r:=s.Read) B (x:=(a+b)/2) I I; rcases Int.lt_or_le ((a+b)/2) (fM (gI x s.Read) 86400001) with q|q; (have C:=hm.1 q; simp only [gI,decide_eq_false_iff_not] at C; omega); (have C:=hm.2.1 q; simp only [gI,decide_eq_true_eq] at C; omega))⟩ _ _ _ rfl (by simp only []; omega) (bD rfl) (aR [0,1,2,3,4,5,6,7]))
 refine bQ<|ag<|ag<|aI<|KK K<|WS fun _ P=>bI 2 U<|RK P<|WS fun _ R=>rP 2 [] mn ?_
 refine RK R<|aq fun _ S=>aH ?_
 have A:(-1≤((-1):Int)∧((-1):Int)≤(fM (gH x s.Read) 86400001)-1)∧((fM (gH x s.Read) 86400001)-1≤(86400000:Int)∧(86400000:Int)≤86400000):=by (have Y:=iJ (p:=gH x s.Read) (n:=86400001); omega)
 refine bS (ι:={z:Int×Int // (-1≤z.1∧z.1≤(fM (gH x s.Read) 86400001)-1)∧((fM (gH x s.Read) 86400001)-1≤z.2∧z.2≤86400000)}) [2,3,4,6,10] [0,1,2,3,4,5,6,7] U U (fun z=>[(7,(vI z.1.1)),(8,(vI z.1.2))]) (fun z=>[]) (fun _=>rfl) (fun _=>rfl) (fun z=>(z.1.2-z.1.1).toNat) ⟨(((-1):Int),(86400000:Int)),A⟩ (bD U) (aR [0,1,2,3,4,5,6,7]) ?_
 clear A
 rintro ⟨⟨d,e⟩,⟨D,E⟩⟩ J20 G
 try dsimp only at D E
 try dsimp only
 have B:=hok.clock _ (aM hx)
 have Z:=iJ (p:=gI x s.Read) (n:=86400001)
 have Y:=iJ (p:=gH x s.Read) (n:=86400001)
 refine aq fun _ T=>WS fun _ AA=>rP 3 [] mn ?_
 refine RK AA<|bR U (aU fun f=>?_) (aT fun f=>?_)
 ·refine bQ<|ag<|ag<|aI<|KK S<|WS fun _ X=>bI 2 U<|rS (SX (bq (xs:=[(0,.tmp 63),(1,.tmp 64)]) (cs:=(ai.cells (ai.mk a d))) U U (bp gM U)) U U)<|bI 3 U<|qN U cT U<|rP 1 [] mn ?_
  refine RK X<|ar<|l4 hQ [0] (mc 1 U mn) U ?_
  have e0:cY l s=⟨a,d⟩:=by (unfold cY qU; rw [xI hy hx,show a=(fM (gI x s.Read) 86400001) by omega,show d=(fM (gH x s.Read) 86400001)-1 by omega])
  rw [e0]
 refine WK T<|aH<|WS fun _ V=>bI 4 U<|rS (BI U (uU I I I))<|bI 1 U<|RK V<|aq fun _ W=>cU cg 9 kr<|dP 3 [] (mc 0 U mn) ?_
 refine dS (CL (BC x xa.1 xa.2 (((d+e)+1)/2) asm I) (aD (show fY _ (rd xa.1 x.bB.length 3 (x.bB.map ct.cells)).holds from (bY 6 U (a_ hx J (by simp [ax.e_]))))<|aL) U)<|dS (SX (rY (v:=(vI ((iG x (((d+e)+1)/2)).Lo))) U U eU KZ U) U U) ?_
 have t:=rL B (show 0≤(d+e+1)/2∧(d+e+1)/2≤90000000 by omega)
 refine dP 4 [] (mc 2 U mn) ?_
 refine cx<|RK W<|ck U (aT fun h=>?_) (aU fun h=>?_)
 ·refine aw<|rP 2 [] mn ?_
  refine aK<|aP ?_
  refine bu (G ⟨((((d+e)+1)/2),e),(by dsimp only; have hm:=lD (r:=s.Read) B (x:=(d+e+1)/2) I I; rcases Int.lt_or_le ((d+e+1)/2) (fM (gH x s.Read) 86400001) with q|q; (have C:=hm.2.2.1 q; simp only [gH,decide_eq_false_iff_not] at C; omega); (have C:=hm.2.2.2 q; simp only [gH,decide_eq_true_eq] at C; omega))⟩ _ _ _ rfl (by simp only []; omega) (bD rfl) (aR [0,1,2,3,4,5,6,7]))
 refine aw<|rP 3 [] mn ?_
 refine aK<|aP ?_
 refine bu (G ⟨(d,((((d+e)+1)/2)-1)),(by dsimp only; have hm:=lD (r:=s.Read) B (x:=(d+e+1)/2) I I; rcases Int.lt_or_le ((d+e+1)/2) (fM (gH x s.Read) 86400001) with q|q; (have C:=hm.2.2.1 q; simp only [gH,decide_eq_false_iff_not] at C; omega); (have C:=hm.2.2.2 q; simp only [gH,decide_eq_true_eq] at C; omega))⟩ _ _ _ rfl (by simp only []; omega) (bD rfl) (aR [0,1,2,3,4,5,6,7]))
end
section
open Go.RowKit
theorem N7 (l:bG) (kA:OA) (kC:Nat) (az:List RA) (cA:OA) (cC:Nat) (bA:OA) (bC:Nat) (r:de) (sgA:OA) (sgC:Nat) (hin:ej l az) (hsl:r.aa.length≤1000000):
 dA Tryz.prog 152 [(vA (cm.cells (jR l kA kC cA cC bA bC))),(vA (cL.cells (iM r sgA sgC)))] [(rd kA l.aO.length 9 (l.aO.map au.cells)),(rd cA l.aj.length 2 (List.zipWith ax.cells l.aj az)),(dE (bg ax.e_ l.aj az)),(rd bA l.ab.length 4 (l.ab.map bK.cells)),(rd sgA r.aa.length 2 (r.aa.map aF.cells))] (vB (decide (fQ l r))):=by
 have Ab:=hin.sj
 have AO:=hin.r_
 have w:=hin.lz
 have AC:=hin.sh
 refine bJ kr Tryz.func152 U U fun w0 Q hQ hN=>?_
 try dsimp only
 refine WS fun _ h=>eG U fun b2=>eG U fun b3=>bI 1 U<|RK h<|aq fun _ j=>WS fun _ H=>eV 2 [] (mc 0 U mn) U<|rS (CL (jf r.Start 0 86400000) (aL) U)<|rP 2 [] mn ?_
 refine bT (t:=11) U (aW fun X=>?_) (aY fun X=>?_)
 ·refine bI 13 U<|RK H<|aN U<|WS fun _ k=>rP 1 [] mn ?_
  refine RK k<|ar<|Q1 hQ U U U ?_
  exact cB (bj fun q=>by have C:=q.time; have u:=q.len; omega).symm
 refine eV 4 [] (mc 0 U mn) U<|rS (CL (jf r.gj r.Start 86400000) (aL) U)<|rP 3 [] mn ?_
 refine bT (t:=19) U (aW fun Z=>?_) (aY fun Z=>?_)
 ·refine bI 5 U<|RK H<|aN U<|WS fun _ m=>rP 1 [] mn ?_
  refine RK m<|ar<|Q1 hQ U U U ?_
  exact cB (bj fun q=>by have C:=q.time; have u:=q.len; omega).symm
 refine rP 5 [] (mc 0 U mn) ?_
 refine RK H<|ck U (aT fun a=>?_) (aU fun a=>?_)
 ·refine WS fun _ n=>rP 1 [] mn ?_
  refine RK n<|ar<|Q1 hQ U U U ?_
  exact cB (bj fun q=>by have C:=q.time; have u:=q.len; omega).symm
 refine WK j<|aq fun _ o=>WS fun _ J=>rP 1 [] mn ?_
 refine RK J<|aH ?_
 have F:(0≤r.aa.length)∧(o0 l r.aa 0):=by exact ⟨Nat.zero_le _,vK⟩
 refine bS (ι:={z:Nat // (z≤r.aa.length)∧(o0 l r.aa z)}) [2,3] [0,1,2,3,4,5,6] U U (fun z=>[(5,(vI (z.1:Int)))]) (fun z=>[]) (fun _=>rfl) (fun _=>rfl) (fun z=>r.aa.length-z.1) ⟨0,F⟩ (bD U) (aR [0,1,2,3,4,5,6]) ?_
 clear F
 rintro ⟨i,⟨p,A⟩⟩ J11 D
 try dsimp only
 refine aq fun _ K=>WS fun _ L=>rP 5 [] (mc 0 U mn) ?_
 refine RK L<|bR U (aU fun Y=>?_) (aT fun Y=>?_)
 ·refine bQ<|ag<|ag<|aI<|KK o<|WS fun _ T=>rP 1 [] mn ?_
  refine RK T<|ar<|Q1 hQ U U U ?_
  exact cB (cO (yf I I A I)).symm
 refine WK K<|aq fun _ E=>aH<|WS fun _ M=>rP 3 [] (mc 0 U mn) ?_
 obtain ⟨x,hx⟩:=aC r.aa i I
 have s:=bO aF.cells hx
 refine rS (IA i U (ay 6 U) wB dc I I)<|rS (jE i 0 (aF.cells x) U bU (ay 6 U) s U dc U U)<|AL U yX fun v=>eN U pj U<|RK M<|aq fun _ N=>WS fun _ G=>eV 6 [0,1] (mc 0 U (mc 2 U mn)) U<|rS (CL (jf x.fI 0 ((l.ab.length:Int)-1)) (aL) U)<|rP 2 [] mn ?_
 refine bT (t:=45) U (aW fun b=>?_) (aY fun b=>?_)
 ·refine bI 5 U<|RK G<|aN U<|WS fun _ O=>rP 1 [] mn ?_
  refine RK O<|ar<|Q1 hQ U U U ?_
  exact cB (bj fun q=>by have C:=q.sig i x hx; unfold iT jx at C; omega).symm
 refine eV 2 [] (mc 0 U mn) U<|rS (CL (jf x.Read 0 86400000) (aL) U)<|rP 2 [] mn ?_
 refine RK G<|ck U (aW fun c=>?_) (aY fun c=>?_)
 ·refine WS fun _ P=>rP 1 [] mn ?_
  refine RK P<|ar<|Q1 hQ U U U ?_
  exact cB (bj fun q=>by have C:=q.sig i x hx; unfold iT jx at C; omega).symm
 refine WK N<|aq fun _ B=>cU cg 38 kr<|dP 3 [] mn ?_
 refine hP (t:=53) U (aU fun d=>?_) (aT fun d=>?_)
 ·refine kR 35 U<|cx<|RK B<|cp U<|cj<|aP<|KK E<|aw<|rP 3 [] mn ?_
  refine aK ?_
  have W:(vI (((i+1):Nat):Int))=(vI ((i:Int)+1)):=by exact cI I
  refine bu (D ⟨(i+1),⟨I,jt A hx (by unfold iT jx; (rw [Gz I]; simp only; omega))⟩⟩ _ _ _ U os (dp.cons U<|dp.cons U<|bw U W<|dp.nil _) (aR [1,2,3,4,5,6,7]))
 refine dP 6 [0,1] (mc 0 U (mc 1 U mn)) ?_
 obtain ⟨y,hy⟩:=aC r.aa (i-1) I
 have AB:=bO aF.cells hy
 refine dS (IA (i-1) U (ay 7 U) wB dc I I)<|dS (pO ((i-1)*2) U (ay 7 U) (Nat.mul_pos I dc) eU U)<|dS (gD (i-1) 0 (vI y.fI) U bU (ay 7 U) AB U dc U)<|dP 2 [] mn ?_
 refine gN (t:=64) U (aT fun e=>?_) (aU fun e=>?_)
 ·refine kR 24 U<|cx<|RK B<|aN U<|WS fun _ R=>rP 1 [] mn ?_
  refine RK R<|ar<|Q1 hQ U U U ?_
  exact cB (bj fun q=>by have C:=q.sig i x hx; unfold iT jx at C; (rw [sK I hy] at C; omega)).symm
 refine kv 6 [0,1] (mc 0 U (mc 1 U mn)) U<|dS (IA (i-1) U (ay 7 U) wB dc I I)<|dS (pO ((i-1)*2) U (ay 7 U) (Nat.mul_pos I dc) eU U)<|dS (gD (i-1) 0 (vI y.fI) U bU (ay 7 U) AB U dc U)<|dP 2 [] mn ?_
 refine hP (t:=75) U (aU fun f=>?_) (aT fun f=>?_)
 ·refine kR 13 U<|cx<|RK B<|cp U<|cj<|aP<|KK E<|aw<|rP 3 [] mn ?_
  refine aK ?_
  have V:(vI (((i+1):Nat):Int))=(vI ((i:Int)+1)):=by exact cI I
  refine bu (D ⟨(i+1),⟨I,jt A hx (by unfold iT jx; (rw [sK I hy]; omega))⟩⟩ _ _ _ U os (dp.cons U<|dp.cons U<|bw U V<|dp.nil _) (aR [1,2,3,4,5,6,7]))
 refine kv 6 [0,1] (mc 0 U (mc 1 U mn)) U<|dS (IA (i-1) U (ay 7 U) wB dc I I)<|dS (pO (((i-1)*2)+1) U (ay 7 U) (Nat.mul_pos I dc) eU U)<|dS (gD (i-1) 1 (vI y.Read) U bU (ay 7 U) AB U dc U)<|dP 4 [] mn ?_
 refine cx<|RK B<|ck U (aT fun g=>?_) (aU fun g=>?_)
 ·refine WS fun _ S=>rP 1 [] mn ?_
  refine RK S<|ar<|Q1 hQ U U U ?_
  exact cB (bj fun q=>by have C:=q.sig i x hx; unfold iT jx at C; (rw [sK I hy] at C; omega)).symm
 refine cj<|aP<|KK E<|aw<|rP 3 [] mn ?_
 refine aK ?_
 have AA:(vI (((i+1):Nat):Int))=(vI ((i:Int)+1)):=by exact cI I
 refine bu (D ⟨(i+1),⟨I,jt A hx (by unfold iT jx; (rw [sK I hy]; omega))⟩⟩ _ _ _ U os (dp.cons U<|dp.cons U<|bw U AA<|dp.nil _) (aR [1,2,3,4,5,6,7]))
end
section
open Go.RowKit
theorem NL (l:bG) (kA:OA) (kC:Nat) (az:List RA) (cA:OA) (cC:Nat) (bA:OA) (bC:Nat) (r:de) (sgA:OA) (sgC:Nat) (hin:ej l az) (hle:eT l=0) (hr:fQ l r):
 nz Tryz.prog 192 [(vA (cm.cells (jR l kA kC cA cC bA bC))),(vA (cL.cells (iM r sgA sgC)))] [(rd kA l.aO.length 9 (l.aO.map au.cells)),(rd cA l.aj.length 2 (List.zipWith ax.cells l.aj az)),(dE (bg ax.e_ l.aj az)),(rd bA l.ab.length 4 (l.ab.map bK.cells)),(rd sgA r.aa.length 2 (r.aa.map aF.cells))] (fun (x:(OA)×Nat×(OA)×Nat×(OA)×Nat)=>(vA (iS.cells (iS.mk (bE.mk x.1 ((cu l l.ab.length).length) x.2.1) (bE.mk x.2.2.1 ((e9 l r r.aa.length).length) x.2.2.2.1) (bE.mk x.2.2.2.2.1 ((fH l r r.aa.length).length) x.2.2.2.2.2))))) (fun (x:(OA)×Nat×(OA)×Nat×(OA)×Nat)=>True) (fun (x:(OA)×Nat×(OA)×Nat×(OA)×Nat)=>[(own x.1 x.2.1 3 1 ((cu l l.ab.length).map iC)),(own x.2.2.1 x.2.2.2.1 38 2 ((e9 l r r.aa.length).map ai.cells)),(own x.2.2.2.2.1 x.2.2.2.2.2 4 1 ((fH l r r.aa.length).map qA))]):=by
 have A6:=hin.sj
 have A2:=hin.r_
 have A0:=hin.lz
 have A1:=hin.sh
 obtain ⟨w,g⟩:=d_ hle
 have t:=g.head
 unfold e7 at t
 have A4:=hr.len
 have A5:=hr.time
 refine eO kr Tryz.func192 U U fun w0 Q hQ hN=>?_
 try dsimp only
 refine WS fun _ n=>eG U fun b2=>eG U fun b3=>AL U Oy fun b4=>RK n<|WS fun _ o=>AL U Oy fun h=>RK o<|aq fun _ p=>WS fun _ q=>rP 1 [] mn ?_
 refine RK q<|aH<|eX 3 1 ?_
 have A:(0≤l.ab.length):=by exact Nat.zero_le _
 refine bS (ι:={z:Nat×(OA)×Nat // (z.1≤l.ab.length)}) [2,3,4,5] [2,3,4,5,6,7,8,9] U U (fun z=>[(6,(vI (z.1.1:Int)))]) (fun z=>[(own z.1.2.1 z.1.2.2 3 1 ((cu l z.1.1).map iC)),(cz h 287 (iS.cells (iS.mk (bE.mk z.1.2.1 ((cu l z.1.1).length) z.1.2.2) (bE.mk none 0 0) (bE.mk none 0 0))))]) (fun _=>rfl) (fun _=>rfl) (fun z=>l.ab.length-z.1.1) ⟨(0,none,0),A⟩ (bD U) (aR [2,3,4,5,6,7,8,9,0,1]) ?_
 clear A
 rintro ⟨⟨b,a,c⟩,F⟩ J9 m
 try dsimp only at F
 try dsimp only
 refine aq fun _ K=>WS fun _ L=>rP 5 [] (mc 2 U mn) ?_
 refine RK L<|ck U (aT fun j=>?_) (aU fun j=>?_)
 ·refine WK K<|aq fun _ M=>aH<|dH cg [5,6,8] [1] [0] [0,1,2,3,4,5,6,7] [0,1,2,3,4,5,6,7,8,9] U U U U U<|eS U (FA 0 U eU U)<|fS U (L1 (vS a ((cu l b).length) c) 9 U bU U U)<|eS U (LW 2 U bU U U)<|eS U (MV U) ?_
  have A3:=ny w g (i:=b) I
  refine eS U (CL (JO l kA kC az cA cC bA bC (b:Int) hin asm asm I) (bk [3,4,5,6]) U)<|eS U (FA 0 U eU U)<|ek U<|iN U fun T14 W=>eu (xs:=[.tmp 21]) (cs:=[(vI (eE l (b:Int).toNat))]) U dy j8 U U U U (by simp [Value.cells]) U U fun y=>aK (W _ _ (aR [1,2,3,4,5,6,7,8]) (aR [1,2,3,4,5,6,7,8,9,10]) ?_)
  refine cq U fun T16 X=>?_
  refine eh (es2:=(List.map iC (cu l (b+1)))) (m':=(cu l (b+1)).length) 9 U U U tj U U sm (bx (es:=List.map iC [(eE l (b:Int).toNat)]) 0 U U (by simp [bP]) U) (lU _) (by simp only [dv]; omega) (by simp only [maxLen,dv]; omega) (by rw [rf]; simp) sm U fun H AB=>?_
  try dsimp only
  refine aK (X _ _ (aR [1,2,3,4,5,6,7,8]) ?_)
  refine cq U fun T19 Y=>Vx (iS.cells (iS.mk (bE.mk H ((cu l (b+1)).length) AB) (bE.mk none 0 0) (bE.mk none 0 0))) U HJ U U<|aK (Y _ _ (aR [1,2,3,4,5,6,7,8]) ?_)
  refine fJ U<|aP<|KK M<|aw<|rP 3 [] mn ?_
  refine aK ?_
  have e:(vI (((b+1):Nat):Int))=(vI ((b:Int)+1)):=by exact cI I
  refine bu (m ⟨((b+1),H,AB),(by first|omega|(simp only []; omega))⟩ _ _ _ U os (cP 4<|bw U e<|dp.nil _) (aR [1,2,3,4,5,6,7,8,9,10]))
 refine bQ<|ag<|ag<|aI<|KK p<|aq fun _ N=>WS fun _ O=>?_
 rw [show cu l b=(cu l l.ab.length) from by rw [show b=l.ab.length by omega]]
 refine rP 1 [] mn ?_
 refine RK O<|aH<|eX 38 2<|eX 4 1 ?_
 have A:(0≤r.aa.length):=by exact Nat.zero_le _
 refine bS (ι:={z:Nat×(OA)×Nat×(OA)×Nat // (z.1≤r.aa.length)}) [2,3,4,5] [2,3,4,5,6,7,8,9,10] U U (fun z=>[(7,(vI (z.1.1:Int)))]) (fun z=>[(own z.1.2.2.2.1 z.1.2.2.2.2 4 1 ((fH l r z.1.1).map qA)),(own z.1.2.1 z.1.2.2.1 38 2 ((e9 l r z.1.1).map ai.cells)),(cz h 287 (iS.cells (iS.mk (bE.mk a ((cu l l.ab.length).length) c) (bE.mk z.1.2.1 ((e9 l r z.1.1).length) z.1.2.2.1) (bE.mk z.1.2.2.2.1 ((fH l r z.1.1).length) z.1.2.2.2.2))))]) (fun _=>rfl) (fun _=>rfl) (fun z=>r.aa.length-z.1.1) ⟨(0,none,0,none,0),A⟩ (bD U) (aR [2,3,4,5,6,7,8,9,10,0,1,11]) ?_
 clear A
 rintro ⟨⟨i,ta,tc,sa,sc⟩,G⟩ J23 J
 try dsimp only at G
 try dsimp only
 refine aq fun _ P=>WS fun _ R=>rP 5 [] (mc 1 U mn) ?_
 refine RK R<|bR U (aU fun k=>?_) (aT fun k=>?_)
 ·refine bQ<|ag<|ag<|aI<|KK N<|WS fun _ V=>?_
  rw [show e9 l r i=(e9 l r r.aa.length) from by rw [show i=r.aa.length by omega]]
  rw [show fH l r i=(fH l r r.aa.length) from by rw [show i=r.aa.length by omega]]
  refine rP 1 [] (mc 11 U mn) ?_
  refine eN U TH U<|RK V<|ar<|LX hQ (a,c,ta,tc,sa,sc) [8,10,9] [0] (mc 0 U mn) U U U U ?_
  trivial
 refine WK P<|aq fun _ S=>aH<|aq fun _ T=>dH cg [10,11] [] [] [0,1,2,3,4,5,6,7,8,9,10,11] [] U U U U U<|eS U (LW 2 U bU U U)<|eS U (FA 2 U eU U)<|eS U (L1 (vS sgA r.aa.length sgC) 1 U bU U U)<|eS U (MV U) ?_
 obtain ⟨s,hs⟩:=aC r.aa i I
 have v:=bO aF.cells hs
 refine eS U (IA i U (ay 7 U) wB dc I I)<|eS U (jE i 0 (aF.cells s) U bU (ay 7 U) v U dc U U) ?_
 have u:=(hr.sig i s hs).1
 refine eS U (CL (ME l kA kC az cA cC bA bC s hin asm (by exact u)) (bk [3,4,5,6]) U)<|eS U (MV U)<|eS U (EX U)<|eS U (EX U)<|eS U (AG U)<|ek U<|cq U fun T29 Z=>AL U dT fun AC=>aK (Z _ _ (aR [1,2,3,4,5,6,7,8,9,10,11,12]) ?_)
 refine cq U fun T31 d=>eN U cT U<|aK (d _ _ (aR [1,2,3,4,5,6,7,8,9,10,11,12]) ?_)
 refine fJ U<|KK T<|WS fun _ AA=>rP 3 [0,1] (mc 12 U (mc 0 U mn)) ?_
 refine eu (xs:=[.tmp 44]) (cs:=(ai.cells (cY l s))) U kT dT U U U U (by simp [Value.cells,ai.bo]) U U fun AO=>?_
 refine eh (es2:=(List.map ai.cells (e9 l r (i+1)))) (m':=(e9 l r (i+1)).length) 12 U U U Ff U U sm (bx (es:=List.map ai.cells [(cY l s)]) 0 U U (by simp [ai.bo]) U) (kZ _) (by rw [sk I]; omega) (by rw [sk I]; simp only [maxLen]; omega) (by rw [Ek hs]; simp) sm U fun B C=>?_
 try dsimp only
 refine bI 1 U<|g5 (vs:=[(vS B ((e9 l r (i+1)).length) C)]) (cs':=(iS.cells (iS.mk (bE.mk a ((cu l l.ab.length).length) c) (bE.mk B ((e9 l r (i+1)).length) C) (bE.mk sa ((fH l r i).length) sc)))) (C':=[_,_,_,_,_,_,_,_,_,_,_,_,_,(cz h 287 (iS.cells (iS.mk (bE.mk a ((cu l l.ab.length).length) c) (bE.mk B ((e9 l r (i+1)).length) C) (bE.mk sa ((fH l r i).length) sc))))]) 13 U U U TP U U U U U U U<|RK AA<|aw<|rP 3 [] (mc 13 U mn) ?_
 refine eu (xs:=[.tmp 50]) (cs:=[(vB (decide ((cY l s).Lo≤(cY l s).Hi)))]) U Oh VX U U U U (by simp [Value.cells]) U U fun Ab=>?_
 refine eh (es2:=(List.map qA (fH l r (i+1)))) (m':=(fH l r (i+1)).length) 12 U U U S6 U U sm (bx (es:=List.map qA [(decide ((cY l s).Lo≤(cY l s).Hi))]) 0 U U (by simp [Ae]) U) (Gv _) (by rw [vk I]; omega) (by rw [vk I]; simp only [maxLen]; omega) (by rw [Ds hs]; simp) sm U fun D E=>?_
 try dsimp only
 refine bI 1 U<|g5 (vs:=[(vS D ((fH l r (i+1)).length) E)]) (cs':=(iS.cells (iS.mk (bE.mk a ((cu l l.ab.length).length) c) (bE.mk B ((e9 l r (i+1)).length) C) (bE.mk D ((fH l r (i+1)).length) E)))) (C':=[_,_,_,_,_,_,_,_,_,_,_,_,_,_,(cz h 287 (iS.cells (iS.mk (bE.mk a ((cu l l.ab.length).length) c) (bE.mk B ((e9 l r (i+1)).length) C) (bE.mk D ((fH l r (i+1)).length) E))))]) 14 U U U TD U U U U U U U<|aK<|aP<|KK S<|aw<|bI 2 U<|rP 1 [] mn ?_
 refine aK ?_
 have f:(vI (((i+1):Nat):Int))=(vI ((i:Int)+1)):=by exact cI I
 refine bu (J ⟨((i+1),B,C,D,E),(by first|omega|(simp only []; omega))⟩ _ _ _ U os (cP 4<|bw U f<|dp.nil _) (aR [3,4,5,6,7,8,9,10,11,12,13,14]))
theorem KR (r:de) (sgA:OA) (sgC:Nat) (l:bG) (wA:OA) (wC:Nat) (tA:OA) (tC:Nat) (bA:OA) (bC:Nat) (rs:List Int) (rsA:OA) (rsC:Nat) (hle:eT l=0) (hr:fQ l r) (hn:rs.length≤l.ab.length) (hrs: ∀ x∈rs,0≤x→x<(r.aa.length:Int)):
 nz Tryz.prog 211 [(vA (cL.cells (iM r sgA sgC))),(vA (iS.cells (iS.mk (bE.mk wA ((cu l l.ab.length).length) wC) (bE.mk tA ((e9 l r r.aa.length).length) tC) (bE.mk bA ((fH l r r.aa.length).length) bC)))),(vS rsA rs.length rsC)] [(rd sgA r.aa.length 2 (r.aa.map aF.cells)),(rd wA ((cu l l.ab.length).length) 1 ((cu l l.ab.length).map iC)),(rd tA ((e9 l r r.aa.length).length) 2 ((e9 l r r.aa.length).map ai.cells)),(rd bA ((fH l r r.aa.length).length) 1 ((fH l r r.aa.length).map qA)),(rd rsA rs.length 1 (rs.map iC))] (fun (x:(OA)×Nat)=>(vS x.1 ((jD l r rs).length) x.2)) (fun (x:(OA)×Nat)=>True) (fun (x:(OA)×Nat)=>[(own x.1 x.2 3 1 ((jD l r rs).map iC))]):=by
 obtain ⟨J,D⟩:=d_ hle
 have v:=D.head
 unfold e7 at v
 have A3:=hr.len
 have A4:=hr.time
 have w:=EO (l:=l) (rs:=rs) ⟨I,I⟩ (fun b hb=>by have:=ny J D (i:=b) I; omega) hrs
 have A1:=dv (l:=l) (n:=l.ab.length)
 have A5:=sk (l:=l) (Nat.le_refl r.aa.length)
 refine eO kr Tryz.func211 U U fun w0 Q hQ hN=>?_
 try dsimp only
 refine WS fun _ h=>eG U fun b2=>eG U fun b3=>bI 1 U<|RK h<|WS fun _ m=>rP 2 [] mn ?_
 refine wk (n:=rs.length) (es:=(List.map iC (List.replicate rs.length 0))) U U U tj I I (by simp only [maxLen]; omega) (by rw [List.map_replicate]; rfl) U fun E=>?_
 try dsimp only
 refine bI 1 U<|RK m<|WS fun _ p=>eV 3 [] (mc 2 U mn) U<|RK p<|aq fun _ q=>WS fun _ t=>rP 4 [] mn ?_
 refine RK t<|aH ?_
 rw [show (own (some ⟨E,0,none⟩) rs.length 3 1 (List.map iC (List.replicate rs.length 0)))=(own (some ⟨E,0,none⟩) rs.length 3 1 ((j4 l r rs rs.length).map iC)) from by rw [G0]]
 have B:(rs.length≤rs.length):=by exact Nat.le_refl _
 have u:(vI ((jY l r rs rs.length).2))=(vI r.gj):=by rw [vt]
 refine bS (ι:={z:Nat // (z≤rs.length)}) [2,3,4,7] [1,2,3,4,5,6,7] U U (fun z=>[(8,(vI ((jY l r rs z.1).2))),(9,(vI ((z.1:Int)-1)))]) (fun z=>[(own (some ⟨E,0,none⟩) rs.length 3 1 ((j4 l r rs z.1).map iC))]) (fun _=>rfl) (fun _=>rfl) (fun z=>z.1) ⟨rs.length,B⟩ (bw U u<|bD U) (aR [1,2,3,4,5,6,7,0]) ?_
 clear B
 rintro ⟨j,AC⟩ J10 F
 try dsimp only
 have A2:=HM (l:=l) (r:=r) (rs:=rs) (j:=j) I
 refine aq fun _ L=>WS fun _ M=>rP 2 [] mn ?_
 refine RK M<|bR U (aU fun g=>?_) (aT fun g=>?_)
 ·refine bQ<|ag<|ag<|aI<|KK q<|WS fun _ R=>rP 1 [] mn ?_
  rw [show (Value.slice (some ⟨E,0,none⟩) rs.length rs.length)=(Value.slice (some ⟨E,0,none⟩) ((jD l r rs).length) rs.length) from by rw [show (jD l r rs).length=rs.length from rW _ _]]
  rw [show j4 l r rs j=jD l r rs from by rw [show j=0 by omega]; exact DV]
  refine rP 1 [] mn ?_
  refine RK R<|ar<|LX hQ ((some ⟨E,0,none⟩),rs.length) [7] [] mn U U U U ?_
  trivial
 refine WK L<|aq fun _ G=>aH<|aq fun _ H=>WS fun _ N=>rP 2 [] mn ?_
 have A0:=w (rs.length-j) j I
 obtain ⟨x,hx⟩:=aC rs (j-1) I
 have d:=bO iC hx
 refine rS (IA (j-1) U (ay 6 U) dy dc I I)<|rS (gD (j-1) 0 (vI x) U bU (ay 6 U) d U dc U)<|rP 1 [] mn ?_
 refine RK N<|bR U (aU fun A=>?_) (aT fun A=>?_)
 ·refine WK H<|WS fun _ P=>rP 3 [] mn ?_
  obtain ⟨A8,c⟩:=aC (j4 l r rs j) (j-1) I
  have hx25m:=bO iC c
  refine rS (IA (j-1) U (aB (n:=rs.length) 7 U sq) dy dc I I) ?_
  have V:((j4 l r rs j).set (j-1) ((jY l r rs j).2))=(j4 l r rs (j-1)):=by (rw [← yT I hx]; congr 1; unfold uv; (rw [if_neg A]; done))
  refine gu (k:=(j-1)) (o:=0) (vs:=[(vI ((jY l r rs j).2))]) (es':=(List.map iC (j4 l r rs (j-1)))) (C':=[_,_,_,_,_,_,_,(own (some ⟨E,0,none⟩) rs.length 3 1 (List.map iC (j4 l r rs (j-1))))]) 7 U U U FY U U U U hx25m U dc (by exact (List.map_set (f:=iC) (l:=(j4 l r rs j)) (i:=(j-1)) (a:=(jY l r rs j).2)).symm.trans (congrArg _ V)) U<|RK P<|aw<|rP 4 [] (mc 0 U mn) ?_
  obtain ⟨y,hy⟩:=aC (cu l l.ab.length) (j-1) I
  have K:=bO iC hy
  refine rS (IA (j-1) U (ay 3 U) dy dc I I)<|rS (gD (j-1) 0 (vI y) U bU (ay 3 U) K U dc U) ?_
  have C:=ve hy
  have AB:=ny J D (i:=j-1) I
  rw [← C] at AB
  refine bI 2 U<|aK<|aP<|KK G<|aw<|rP 3 [] mn ?_
  refine aK ?_
  have W:(vI ((jY l r rs (j-1)).2))=(vI (((jY l r rs j).2)-y)):=by exact cI (by rw [qa I hx]; simp only; unfold uv; rw [C]; (rw [if_neg A]; done))
  have X:(vI ((((j-1):Nat):Int)-1))=(vI (((j:Int)-1)-1)):=by exact cI I
  refine bu (F ⟨(j-1),(by first|omega|(simp only []; omega))⟩ _ _ _ U os (cP 4<|bw U W<|bw U X<|dp.nil _) (aR [0,1,2,3,4,5,6,7]))
 refine cU cg 12 kr<|dP 5 [] (mc 0 U mn) ?_
 refine dS (IA (j-1) U (ay 6 U) dy dc I I)<|dS (gD (j-1) 0 (vI x) U bU (ay 6 U) d U dc U) ?_
 have A6:=hrs x (aM hx) A
 obtain ⟨z,hz⟩:=aC (e9 l r r.aa.length) ((x).toNat) I
 have Ab:=bO ai.cells hz
 refine dS (IA ((x).toNat) U (ay 4 U) kT dc I I)<|dS (pO ((((x).toNat)*2)+1) U (ay 4 U) (Nat.mul_pos I dc) eU U) ?_
 obtain ⟨s,hs,e⟩:=H9 hz
 have AO:=yH l s
 rw [← e] at AO
 have Y:L5 l r x=z.Hi:=by rw [En hs,e]
 refine dS (gD ((x).toNat) 1 (vI z.Hi) U bU (ay 4 U) Ab U dc U)<|dS (MN U)<|kR 1 U<|cx<|RK H<|WS fun _ O=>rP 3 [] mn ?_
 obtain ⟨A7,Z⟩:=aC (j4 l r rs j) (j-1) I
 have hx19m:=bO iC Z
 refine rS (IA (j-1) U (aB (n:=rs.length) 7 U sq) dy dc I I) ?_
 have S:((j4 l r rs j).set (j-1) (min ((jY l r rs j).2) z.Hi))=(j4 l r rs (j-1)):=by (rw [← yT I hx]; congr 1; unfold uv; (rw [if_pos A,Y]; done))
 refine gu (k:=(j-1)) (o:=0) (vs:=[(vI (min ((jY l r rs j).2) z.Hi))]) (es':=(List.map iC (j4 l r rs (j-1)))) (C':=[_,_,_,_,_,_,_,(own (some ⟨E,0,none⟩) rs.length 3 1 (List.map iC (j4 l r rs (j-1))))]) 7 U U U FY U U U U hx19m U dc (by exact (List.map_set (f:=iC) (l:=(j4 l r rs j)) (i:=(j-1)) (a:=(min ((jY l r rs j).2) z.Hi))).symm.trans (congrArg _ S)) U<|RK O<|aw<|rP 4 [] (mc 0 U mn) ?_
 obtain ⟨y,hy⟩:=aC (cu l l.ab.length) (j-1) I
 have K:=bO iC hy
 refine rS (IA (j-1) U (ay 3 U) dy dc I I)<|rS (gD (j-1) 0 (vI y) U bU (ay 3 U) K U dc U) ?_
 have C:=ve hy
 have AB:=ny J D (i:=j-1) I
 rw [← C] at AB
 refine bI 2 U<|aK<|aP<|KK G<|aw<|rP 3 [] mn ?_
 refine aK ?_
 have T:(vI ((jY l r rs (j-1)).2))=(vI ((min ((jY l r rs j).2) z.Hi)-y)):=by exact cI (by rw [qa I hx]; simp only; unfold uv; rw [C]; (rw [if_pos A,Y]; done))
 have AA:(vI ((((j-1):Nat):Int)-1))=(vI (((j:Int)-1)-1)):=by exact cI I
 refine bu (F ⟨(j-1),(by first|omega|(simp only []; omega))⟩ _ _ _ U os (cP 4<|bw U T<|bw U AA<|dp.nil _) (aR [0,1,2,3,4,5,6,7]))
end
section
open Go.RowKit
theorem GQ (l:bG) (kA:OA) (kC:Nat) (az:List RA) (cA:OA) (cC:Nat) (bA:OA) (bC:Nat) (r:de) (sgA:OA) (sgC:Nat) (vwA:OA) (vwC:Nat) (vtA:OA) (vtC:Nat) (vbA:OA) (vbC k:Nat) (rs:List Int) (rA:OA) (rC:Nat) (fs:List Int) (fA:OA) (fC:Nat) (hin:ej l az) (hle:eT l=0) (hr:fQ l r) (hk:rs.length+k=l.ab.length) (hfl:fs.length=rs.length) (hst:r.Start≤gG r.Start fs∧gG r.Start fs≤r.gj) (hrs: ∀ x∈rs,-1≤x∧x<(r.aa.length:Int)) (hrec: ∀ (k2:Nat) (rs2:List Int) (rA2:OA) (rC2:Nat) (fs2:List Int) (fA2:OA) (fC2:Nat),(k2<k)→(rs2.length+k2=l.ab.length)→(fs2.length=rs2.length)→(r.Start≤gG r.Start fs2∧gG r.Start fs2≤r.gj)→(∀ x∈rs2,-1≤x∧x<(r.aa.length:Int))→LY Tryz.prog 191 [(vA (cm.cells (jR l kA kC cA cC bA bC))),(vA (cL.cells (iM r sgA sgC))),(vA (iS.cells (iS.mk (bE.mk vwA ((cu l l.ab.length).length) vwC) (bE.mk vtA ((e9 l r r.aa.length).length) vtC) (bE.mk vbA ((fH l r r.aa.length).length) vbC)))),(vS rA2 rs2.length rC2),(vS fA2 fs2.length fC2)] [(rd kA l.aO.length 9 (l.aO.map au.cells)),(rd cA l.aj.length 2 (List.zipWith ax.cells l.aj az)),(dE (bg ax.e_ l.aj az)),(rd bA l.ab.length 4 (l.ab.map bK.cells)),(rd sgA r.aa.length 2 (r.aa.map aF.cells)),(rd vwA ((cu l l.ab.length).length) 1 ((cu l l.ab.length).map iC)),(rd vtA ((e9 l r r.aa.length).length) 2 ((e9 l r r.aa.length).map ai.cells)),(rd vbA ((fH l r r.aa.length).length) 1 ((fH l r r.aa.length).map qA))] (bM [own rA2 rC2 3 1 (rs2.map iC),own fA2 fC2 3 1 (fs2.map iC)]) (fun (x:(OA)×Nat×(List kS))=>(vS x.1 ((iE l r k2 rs2 fs2).length) x.2.1)) (fun (x:(OA)×Nat×(List kS))=>x.2.2.length=(iE l r k2 rs2 fs2).length) (fun (x:(OA)×Nat×(List kS))=>(bM (bg dB.owns (iE l r k2 rs2 fs2) x.2.2++[own x.1 x.2.1 240 3 (List.zipWith dB.cells (iE l r k2 rs2 fs2) x.2.2)])))):
 LY Tryz.prog 191 [(vA (cm.cells (jR l kA kC cA cC bA bC))),(vA (cL.cells (iM r sgA sgC))),(vA (iS.cells (iS.mk (bE.mk vwA ((cu l l.ab.length).length) vwC) (bE.mk vtA ((e9 l r r.aa.length).length) vtC) (bE.mk vbA ((fH l r r.aa.length).length) vbC)))),(vS rA rs.length rC),(vS fA fs.length fC)] [(rd kA l.aO.length 9 (l.aO.map au.cells)),(rd cA l.aj.length 2 (List.zipWith ax.cells l.aj az)),(dE (bg ax.e_ l.aj az)),(rd bA l.ab.length 4 (l.ab.map bK.cells)),(rd sgA r.aa.length 2 (r.aa.map aF.cells)),(rd vwA ((cu l l.ab.length).length) 1 ((cu l l.ab.length).map iC)),(rd vtA ((e9 l r r.aa.length).length) 2 ((e9 l r r.aa.length).map ai.cells)),(rd vbA ((fH l r r.aa.length).length) 1 ((fH l r r.aa.length).map qA))] (bM [own rA rC 3 1 (rs.map iC),own fA fC 3 1 (fs.map iC)]) (fun (x:(OA)×Nat×(List kS))=>(vS x.1 ((iE l r k rs fs).length) x.2.1)) (fun (x:(OA)×Nat×(List kS))=>x.2.2.length=(iE l r k rs fs).length) (fun (x:(OA)×Nat×(List kS))=>(bM (bg dB.owns (iE l r k rs fs) x.2.2++[own x.1 x.2.1 240 3 (List.zipWith dB.cells (iE l r k rs fs) x.2.2)]))):=by
 have S2:=hin.sj
 have R4:=hin.r_
 have R2:=hin.lz
 have R3:=hin.sh
 obtain ⟨NE,H1⟩:=d_ hle
 have L0:=H1.head
 unfold e7 at L0
 have A0:=hr.len
 have R9:=hr.time
 have R8:=dv (l:=l) (n:=l.ab.length)
 have To:=sk (l:=l) (Nat.le_refl r.aa.length)
 have S1:=vk (l:=l) (Nat.le_refl r.aa.length)
 have T0:=uY rs
 refine vD kr Tryz.func191 U U fun w0 Q hQ hN=>?_
 try dsimp only
 refine BV 0 U U fun wz Sz hz=>?_
 try dsimp only
 refine WS fun _ K5=>eG U fun b2=>eG U fun b3=>eG U fun b4=>bI 1 U<|RK K5<|WS fun _ K8=>bI 1 U<|RK K8<|WS fun _ LE=>bI 4 U<|RK LE<|aq fun _ LT=>WS fun _ La=>rP 1 [] mn ?_
 refine RK La<|aH ?_
 have C:(0≤rs.length):=by exact Nat.zero_le _
 have Li:(vI ((dI (rs.take 0)).right))=(vI 0):=by rfl
 refine bS (ι:={z:Nat // (z≤rs.length)}) [3,4,5,6,7,11,12] [0,1,2,3,4,5,6,7,8,9,10,11] U U (fun z=>[(13,(vI ((dI (rs.take z.1)).right))),(14,(vI (z.1:Int)))]) (fun z=>[]) (fun _=>rfl) (fun _=>rfl) (fun z=>rs.length-z.1) ⟨0,C⟩ (bw U Li<|bD U) (aR [0,1,2,3,4,5,6,7,8,9,10,11]) ?_
 clear C
 rintro ⟨i,L3⟩ J10 g
 try dsimp only
 have Md:=uY (rs.take i)
 rw [List.length_take] at Md
 refine aq fun _ A3=>WS fun _ A4=>rP 3 [] mn ?_
 refine RK A4<|ck U (aT fun J7=>?_) (aU fun J7=>?_)
 ·refine WK A3<|aq fun _ h=>aH<|WS fun _ A5=>rP 2 [] mn ?_
  obtain ⟨x,hx⟩:=aC rs i I
  have Ne:=bO iC hx
  refine rS (IA i U (show fY _ (rd rA rs.length 1 (rs.map iC)).holds from (qf (c:=rC) (e:=3) 3 U sm sm)) dy dc I I)<|rS (gD i 0 (vI x) U bU (show fY _ (rd rA rs.length 1 (rs.map iC)).holds from (qf (c:=rC) (e:=3) 3 U sm sm)) Ne U dc U)<|rP 1 [] mn ?_
  refine RK A5<|bR U (aU fun AO=>?_) (aT fun AO=>?_)
  ·refine cj<|aP<|KK h<|aw<|rP 3 [] mn ?_
   refine aK ?_
   have Di:(vI ((dI (rs.take (i+1))).right))=(vI ((dI (rs.take i)).right)):=by exact cI (by rw [u0 hx]; (rw [if_neg AO]; exact Int.add_zero _))
   have Do:(vI (((i+1):Nat):Int))=(vI ((i:Int)+1)):=by exact cI I
   refine bu (g ⟨(i+1),(by first|omega|(simp only []; omega))⟩ _ _ _ U os (cP 7<|bw U Di<|bw U Do<|dp.nil _) (aR [0,1,2,3,4,5,6,7,8,9,10,11]))
  refine aw<|bI 3 U<|aK<|aP<|KK h<|aw<|rP 3 [] mn ?_
  refine aK ?_
  have C3:(vI ((dI (rs.take (i+1))).right))=(vI (((dI (rs.take i)).right)+1)):=by exact cI (by rw [u0 hx]; (rw [if_pos AO]; done))
  have Df:(vI (((i+1):Nat):Int))=(vI ((i:Int)+1)):=by exact cI I
  refine bu (g ⟨(i+1),(by first|omega|(simp only []; omega))⟩ _ _ _ U os (cP 7<|bw U C3<|bw U Df<|dp.nil _) (aR [0,1,2,3,4,5,6,7,8,9,10,11]))
 refine bQ<|ag<|ag<|aI<|KK LT<|aq fun _ A6=>aq fun _ A7=>?_
 rw [show rs.take i=rs from List.take_of_length_le I]
 refine aw<|rP 6 [] (mc 2 U mn) ?_
 refine RK A7<|ck U (aT fun J9=>?_) (aU fun J9=>?_)
 ·refine WS fun _ A8=>gT 240 3<|rP 1 [] mn ?_
  refine RK A8<|ar<|AR (C1:=[(own none 0 240 3 [])]) hz [0] U U U<|QK (W:=iE l r k rs fs) ?_
  rw [show (own none 0 240 3 [])=(own none 0 240 3 (List.zipWith dB.cells (iE l r k rs fs) [])) from by rw [nV I]; rfl]
  refine LM hQ (none,0,[]) 0 [] mn U (by show List.all _ _=true; rw [List.all_append,qg]; rfl) U ?_ ?_
  ·exact (by rw [nV I]; rfl)
  ·rw [nV I]; rfl
 refine WK A6 ?_
 refine nv (ι:={z:(OA)×Nat×(List kS)×(List aA) // (xj l r rs fs (rA,rC) (fA,fC) z.2.2.1 z.2.2.2)}) [3,4,5,6,7,12] [0,1,2,3,4,5,6,7,8,9,10,11] U U (fun z=>[(11,(vS z.1.1 ((ia l r rs fs).length) z.1.2.1))]) (fun z=>[(own z.1.1 z.1.2.1 240 3 (List.zipWith dB.cells (ia l r rs fs) z.1.2.2.1)),(bM z.1.2.2.2)]) (fun _=>rfl) (fun _=>rfl) ?_ fun K23 m=>?_
 ·rintro ⟨⟨oA,oC,E,LA⟩,H⟩
  try dsimp only at H
  try dsimp only
  have D:=H
  have L2:=D.len
  have R5:=xr (l:=l) (r:=r) (rs:=rs) (fs:=fs)
  refine aq fun _ V=>WS fun _ A9=>rP 4 [] (mc 2 U mn) ?_
  have T4:=vg (l:=l) (r:=r) (rs:=rs) (fs:=fs) A0 (k:=k) I
  refine rP 1 [] mn ?_
  refine RK A9<|ck U (aT fun Kq=>?_) (aU fun Kq=>?_)
  ·refine WS fun _ Bh=>bI 1 U<|rP 1 [] mn ?_
   refine RK Bh<|ar ?_
   obtain rfl:k=0:=by omega
   refine Et ?_
   try dsimp only
   refine AR (C1:=[(own oA oC 240 3 (List.zipWith dB.cells (ia l r rs fs) E)),(bM LA),(bM (bg dB.owns [] []))]) hz [13,14,0] U U (by simp only [il,List.all_nil,Bool.and_true,dj]; exact ⟨U,D.wr,qg _ _⟩) ?_
   refine Jl (ra:=(rA,rC)) (fa:=(fA,fC)) (A':=(own oA oC 240 3 (List.zipWith dB.cells (iE l r 0 rs fs) E))) D ((List.append_nil _).trans (n8 I).symm) (List.append_nil _) (by rw [n8 I]) ?_
   refine LM hQ (oA,oC,E) 0 [] mn U (by show List.all _ _=true; rw [List.all_append,qg]; rfl) U ?_ ?_
   ·exact (by (rw [n8 I]; rfl))
   ·rw [n8 I]; exact L2
  refine WK V<|WS fun _ B3=>?_
  obtain ⟨B,rfl⟩: ∃ B,k=B+1:=⟨k-1,I⟩
  refine rP 3 [] (mc 1 U mn) ?_
  refine RK B3 ?_
  refine nv (ι:=Unit) [3,4,5,6,7,11,12] [0,1,2,3,4,5,6,7,8,9,10,11,12,13] U U (fun z=>[(15,(vI (gG r.Start fs)))]) (fun z=>[]) (fun _=>rfl) (fun _=>rfl) ?_ fun K28 o=>?_
  ·intro _
   try dsimp only
   refine WS fun _ Z=>rP 4 [] (mc 0 U mn) ?_
   obtain ⟨yls,Ia⟩:=aC (cu l l.ab.length) (rs.length) I
   have Id:=bO iC Ia
   refine rS (IA rs.length U (ay 9 U) dy dc I I)<|rS (gD rs.length 0 (vI yls) U bU (ay 9 U) Id U dc U) ?_
   have R7:=ny NE H1 (i:=rs.length) I
   rw [ve Ia]
   refine bI 2 U<|RK Z<|aq fun _ B9=>WS fun _ Ci=>rP 1 [] mn ?_
   refine RK Ci<|aH ?_
   rw [show (ia l r rs fs)=((ia l r rs fs)++(iF l r B rs fs 0)) from (List.append_nil _).symm]
   rw [show E=E++[] from (List.append_nil _).symm]
   refine n9 ?_
   try dsimp only
   have C:(0≤r.aa.length+1)∧(([]:List kS).length=(iF l r B rs fs 0).length):=by exact ⟨Nat.zero_le _,rfl⟩
   have d:(vI ((0:Int)-1))=(vI (-1)):=by exact cI I
   refine bS (ι:={z:Nat×(OA)×Nat×(List kS) // (z.1≤r.aa.length+1)∧(z.2.2.2.length=(iF l r B rs fs z.1).length)}) [3,4,5,6,7,12,15] [1,2,3,4,5,6,7,8,9,10,11,12,14] U U (fun z=>[(11,(vS z.1.2.1 (((ia l r rs fs)++(iF l r B rs fs z.1.1)).length) z.1.2.2.1)),(16,(vI ((z.1.1:Int)-1)))]) (fun z=>[(bM (bg dB.owns (iF l r B rs fs z.1.1) z.1.2.2.2)),(own z.1.2.1 z.1.2.2.1 240 3 (List.zipWith dB.cells ((ia l r rs fs)++(iF l r B rs fs z.1.1)) (E++z.1.2.2.2)))]) (fun _=>rfl) (fun _=>rfl) (fun z=>r.aa.length+1-z.1.1) ⟨(0,oA,oC,([]:List kS)),C⟩ (dp.cons U<|bw U d<|dp.nil _) (aR [1,2,3,4,5,6,7,8,9,10,11,12,14,0,13]) ?_
   clear C
   rintro ⟨⟨j,M,N,azW⟩,⟨f,A⟩⟩ J33 O
   try dsimp only at f A
   try dsimp only
   have M2:=Jq (l:=l) (r:=r) (k:=B) (j:=j) (rs:=rs) (fs:=fs) A0 I I
   refine aq fun _ Ck=>WS fun _ Cp=>rP 5 [] (mc 1 U mn) ?_
   refine RK Cp<|bR U (aU fun J8=>?_) (aT fun J8=>?_)
   ·refine bQ<|ag<|ag<|aI<|KK B9<|WS fun _ C2=>bI 1 U<|rP 1 [] mn ?_
    refine RK C2<|ar ?_
    refine AR (C1:=[(own M N 240 3 (List.zipWith dB.cells ((ia l r rs fs)++(iF l r B rs fs j)) (E++azW))),(bM LA),(bM (bg dB.owns (iF l r B rs fs j) azW))]) hz [14,12,13] U U (by simp only [il,List.all_nil,Bool.and_true,dj]; exact ⟨U,D.wr,qg _ _⟩) ?_
    refine Jl (ra:=(rA,rC)) (fa:=(fA,fC)) (W:=iE l r (B+1) rs fs) (A':=(own M N 240 3 (List.zipWith dB.cells (iE l r (B+1) rs fs) (E++azW)))) D (by rw [nR I,sx,show r.aa.length+1=j by omega]) U (by rw [nR I,sx,show r.aa.length+1=j by omega]) ?_
    refine LM hQ (M,N,(E++azW)) 0 [] mn U (by show List.all _ _=true; rw [List.all_append,qg]; rfl) U ?_ ?_
    ·exact (by (rw [nR I,sx,show r.aa.length+1=j by omega]; rfl))
    ·rw [nR I,sx,show r.aa.length+1=j by omega]; simp only [List.length_append]; omega
   refine WK Ck<|aq fun _ P=>aH<|aq fun _ Cx=>cU cg 5 kr<|dP 5 [] (mc 1 U mn) ?_
   refine cx<|RK Cx ?_
   refine nv (ι:={z:Int×Int // ((z.1≤z.2→pD l r rs.length (gG r.Start fs+eE l rs.length) ((j:Int)-1)=some z.1)∧(¬ z.1≤z.2→pD l r rs.length (gG r.Start fs+eE l rs.length) ((j:Int)-1)=none))∧(r.Start≤z.1∧z.2≤r.gj)}) [3,4,5,6,7,11,12,15,16] [0,1,2,3,4,5,6,7,8,9,10,11,12,13,14] U U (fun z=>[(17,(vI z.1.1)),(18,(vI z.1.2))]) (fun z=>[]) (fun _=>rfl) (fun _=>rfl) ?_ fun K39 p=>?_
   ·rintro ⟨⟨tt,ee⟩,⟨AB,J⟩⟩
    try dsimp only at AB J
    try dsimp only
    have Go:=AB
    have R6:=J
    refine WS fun _ a=>rP 3 [] mn ?_
    refine RK a<|bR U (aU fun AA=>?_) (aT fun AA=>?_)
    ·refine cj<|aP<|KK P<|aw<|rP 3 [] mn ?_
     refine aK ?_
     have L:(iF l r B rs fs (j+1))=(iF l r B rs fs j):=by exact rl (Go.2 AA)
     rw [← L]
     have GE:(vI ((((j+1):Nat):Int)-1))=(vI (((j:Int)-1)+1)):=by exact cI I
     refine bu (O ⟨((j+1),M,N,azW),⟨I,by dsimp only; (rw [L]; exact A)⟩⟩ _ _ _ U os (cP 8<|bw U GE<|dp.nil _) (aR [0,1,2,3,4,5,6,7,8,9,10,11,12,13,14]))
    refine OR (L':=[(3,(vS rA rs.length rC)),(4,(vS fA fs.length fC)),(5,(vP b2)),(6,(vP b3)),(7,(vP b4)),(11,(vS M (((ia l r rs fs)++(iF l r B rs fs j)).length) N)),(12,(vI (rs.length:Int))),(15,(vI ((gG r.Start fs)+(eE l rs.length)))),(16,(vI ((j:Int)-1))),(17,(vI tt)),(18,(vI ee)),(123,(vI tt)),(124,(vI ee)),(125,(vB (decide (tt≤ee))))]) rfl<|k6 cg [0,1,2,3,5,7,11,13] [4,6,8,9,10,12,14,15,16,17,18] [false,false,false,false,false,false,false,false] [] [(cz b4 287 (iS.cells (iS.mk (bE.mk vwA ((cu l l.ab.length).length) vwC) (bE.mk vtA ((e9 l r r.aa.length).length) vtC) (bE.mk vbA ((fH l r r.aa.length).length) vbC)))),(cz b3 41 (cL.cells (iM r sgA sgC))),(cz b2 28 (cm.cells (jR l kA kC cA cC bA bC))),(bM [own rA rC 3 1 (rs.map iC),own fA fC 3 1 (fs.map iC)]).ro,(rd kA l.aO.length 9 (l.aO.map au.cells)).ro,(rd cA l.aj.length 2 (List.zipWith ax.cells l.aj az)).ro,(dE (bg ax.e_ l.aj az)).ro,(rd bA l.ab.length 4 (l.ab.map bK.cells)).ro,(rd sgA r.aa.length 2 (r.aa.map aF.cells)).ro,(rd vwA ((cu l l.ab.length).length) 1 ((cu l l.ab.length).map iC)).ro,(rd vtA ((e9 l r r.aa.length).length) 2 ((e9 l r r.aa.length).map ai.cells)).ro,(rd vbA ((fH l r r.aa.length).length) 1 ((fH l r r.aa.length).map qA)).ro,(bM LA),(bM (bg dB.owns (iF l r B rs fs j) azW))] [] kr (aR [0,1,2,3,4,5,6,7,8,9,10,11,12,13]) (aR [])<|eS rfl (MV rfl)<|eS rfl (LW 2 rfl bU rfl rfl)<|eS rfl (LW 1 rfl bU rfl rfl)<|eS rfl (LW 0 rfl bU rfl rfl)<|eS rfl (MV rfl)<|eS rfl (MV rfl)<|eS rfl (MV rfl)<|eS rfl (MV rfl)<|ek rfl<|EN [.take 4,.op 6,.take 8,.op 9,.take 10,.op 12,.take 14,.op 15,.op 16,.op 17,.op 18] [(133,(vI ((j:Int)-1))),(139,(vI tt))] (fun i=>match i with |4=>130|8=>134|10=>136|14=>140|_=>0) (fun i b=>match i with |4=> .slice (some ⟨b,0,none⟩) 0 0|8=> .slice (some ⟨b,0,none⟩) 1 1|10=> .slice (some ⟨b,0,none⟩) 0 0|14=> .slice (some ⟨b,0,none⟩) 1 1|_=>undef) (fun i b=>match i with |4=>cz b 3 []|8=>cz b 3 [(vI ((j:Int)-1))]|10=>cz b 3 []|14=>cz b 3 [(vI tt)]|_=>cz b 0 []) rfl rfl rfl kr rfl rfl (aR [0,1,2,3,4,5,6,7,8,9,10,11,12,13]) (mC (K3 rfl dy rfl rfl (fun _=>rfl) fun _=>rfl)<|q9<|mC (wv (xs:=[.tmp 133]) (cs:=[(vI ((j:Int)-1))]) rfl dy j8 rfl rfl rfl rfl (by simp [Value.cells]) rfl rfl rfl (fun _=>rfl) fun _=>rfl)<|q9<|mC (K3 rfl dy rfl rfl (fun _=>rfl) fun _=>rfl)<|q9<|mC (wv (xs:=[.tmp 139]) (cs:=[(vI tt)]) rfl dy j8 rfl rfl rfl rfl (by simp [Value.cells]) rfl rfl rfl (fun _=>rfl) fun _=>rfl)<|q9<|q9<|q9<|q9<|IZ) ?_
    intro J2
    try dsimp only
    refine rq U fun Y X K hT=>gv (es:=(List.map iC [])) (C':=[own (some ⟨J2,0,none⟩) 0 3 1 (List.map iC []),_,_,_,_,_,_,_,_,_,_,_,_,_,_,_]++X) 0 U sm U (by simp [maxLen]) U ?_
    refine eh (es2:=(List.map iC rs)) (m':=rs.length) 0 U U U tj U U sm (show fY _ (rd rA rs.length 1 (rs.map iC)).holds from (qf (c:=rC) (e:=3) 4 U sm sm)) (lU _) (by first|omega|(simp; done)|(simp; omega)) (by (simp only [maxLen]; omega)) sm sm U fun QS R0=>?_
    try dsimp only
    refine nM hT 24 16 U U (fun w hs=>St.j1 [1,2,3,4,5,6,7,8,9,10,11,12,13,14] U U hs) U U ?_
    try dsimp only [List.take]
    intro Qx
    try dsimp only
    refine rq U fun Y X K hT=>?_
    refine eh (es2:=(List.map iC (rs++[(j:Int)-1]))) (m':=(rs++[(j:Int)-1]).length) 1 U U U tj U U sm (bx (es:=List.map iC [((j:Int)-1)]) 0 U U (by simp [bP]) U) (lU _) (by first|omega|(simp; done)|(simp; omega)) (by (simp only [maxLen]; omega)) sm sm U fun I1 J4=>?_
    try dsimp only
    refine nM hT 26 17 U U (fun w hs=>St.j1 [2,3,4,5,6,7,8,9,10,11,12,13,14,15] U U hs) U U ?_
    try dsimp only [List.take]
    intro J3
    try dsimp only
    refine rq U fun Y X K hT=>gv (es:=(List.map iC [])) (C':=[own (some ⟨J3,0,none⟩) 0 3 1 (List.map iC []),_,_,_,_,_,_,_,_,_,_,_,_,_,_,_,_,_]++X) 0 U sm U (by simp [maxLen]) U ?_
    refine eh (es2:=(List.map iC fs)) (m':=fs.length) 0 U U U tj U U sm (show fY _ (rd fA fs.length 1 (fs.map iC)).holds from (qf (c:=fC) (e:=3) 6 U sm sm)) (lU _) (by first|omega|(simp; done)|(simp; omega)) (by (simp only [maxLen]; omega)) sm sm U fun Qa R1=>?_
    try dsimp only
    refine nM hT 28 18 U U (fun w hs=>St.j1 [3,4,5,6,7,8,9,10,11,12,13,14,15,16] U U hs) U U ?_
    try dsimp only [List.take]
    intro Q7
    try dsimp only
    refine rq U fun Y X K hT=>?_
    refine eh (es2:=(List.map iC (fs++[tt]))) (m':=(fs++[tt]).length) 1 U U U tj U U sm (bx (es:=List.map iC [tt]) 0 U U (by simp [bP]) U) (lU _) (by first|omega|(simp; done)|(simp; omega)) (by (simp only [maxLen]; omega)) sm sm U fun JU J5=>?_
    try dsimp only
    refine nM hT 30 19 U U (fun w hs=>St.j1 [4,5,6,7,8,9,10,11,12,13,14,15,16,17] U U hs) U U ?_
    try dsimp only [List.take]
    refine rq U fun Y X K hT=>?_
    have R:=Go.1 AA
    refine yp<|sE 4 U ?_
    try dsimp only [List.eraseIdx]
    refine z3 U<|sE 2 U ?_
    try dsimp only [List.eraseIdx]
    refine z3 U ?_
    try dsimp only
    refine oD 0 rfl rfl rfl rfl (hrec B (rs++[(j:Int)-1]) I1 J4 (fs++[tt]) JU J5 I (by simp only [List.length_append,List.length_singleton]; omega) (by simp only [List.length_append,List.length_singleton]; omega) (by rw [nB]; omega) (by intro x hx; rcases gK.1 hx with hx|hx; exact hrs x hx; rw [cE.1 hx]; omega)) rfl (eC 7 rfl rfl (dJ (cb _)) (eC 8 rfl rfl (dJ (cb _)) (eC 9 rfl rfl (dJ (cb _)) (eC 10 rfl rfl (dJ (cb _)) (eC 11 rfl rfl (dJ (cb _)) (eC 12 rfl rfl (dJ (cb _)) (eC 13 rfl rfl (dJ (cb _)) (eC 14 rfl rfl (dJ (cb _)) qR)))))))) rfl (fun Os A1=>?_)
    obtain ⟨Pi,Pl,v⟩:=Os
    try dsimp only
    dsimp only at A1
    refine nM hT 31 18 U U (fun w hs=>St.j1 [3,4,5,6,7,8,9,10,11,12,13,14,15,16] U U hs) U U ?_
    try dsimp only [List.take]
    refine rq U fun Y X K hT=>sE 0 U ?_
    try dsimp only [List.eraseIdx]
    refine zO ?_
    have T5:=vg (l:=l) (r:=r) (k:=B) (rs:=(rs++[(j:Int)-1])) (fs:=(fs++[tt])) A0 I
    refine eh (es2:=(List.zipWith dB.cells ((ia l r rs fs)++(iF l r B rs fs (j+1))) (E++(azW++v)))) (m':=((ia l r rs fs)++(iF l r B rs fs (j+1))).length) 18 U U U OL U U (uw (by simp only [List.length_append]; omega)).symm (aB (n:=(iE l r B (rs++[(j:Int)-1]) (fs++[tt])).length) 0 U (uw A1)) (CB _ _) (by simp only [List.length_append]; omega) (by simp only [List.length_append,maxLen]; omega) (by rw [nA R,← List.append_assoc,← List.append_assoc]; exact (LI (by simp only [List.length_append]; omega)).symm) (uw (by rw [nA R]; simp only [List.length_append]; omega)) U fun Jm J6=>?_
    try dsimp only
    refine nM hT 32 19 U U (fun w hs=>St.j1 [4,5,6,7,8,9,10,11,12,13,14,15,16,17] U U hs) U U ?_
    try dsimp only [List.take]
    refine rq U fun Y X K hT=>rS (AG U)<|nM hT 33 19 U U (fun w hs=>St.j1 [4,5,6,7,8,9,10,11,12,13,14,15,16,17] U U hs) U U ?_
    try dsimp only [List.take]
    refine aP<|KK P<|aw<|rP 3 [] mn ?_
    refine aK<|E2 1 U ?_
    try dsimp only [List.eraseIdx]
    refine E2 17 U ?_
    try dsimp only [List.eraseIdx]
    refine IP A ?_
    rw [← nA R]
    try dsimp only
    have Fn:(vI ((((j+1):Nat):Int)-1))=(vI (((j:Int)-1)+1)):=by exact cI I
    refine bu (O ⟨((j+1),Jm,J6,(azW++v)),⟨I,by dsimp only; (rw [nA R,List.length_append,List.length_append,A,A1])⟩⟩ _ _ _ U os (cP 8<|bw U Fn<|dp.nil _) (aR [4,5,6,7,8,9,10,11,12,13,14,15,16,0,17]))
   refine WS fun _ a=>rP 2 [] mn ?_
   refine RK a<|bR U (aU fun K4=>?_) (aT fun K4=>?_)
   ·refine cj ?_
    refine bu (jA (bD U) (aR [0,1,2,3,4,5,6,7,8,9,10,11,12,13,14]) (p ⟨(((gG r.Start fs)+(eE l rs.length)),r.gj),⟨by exact HW I,I⟩⟩))
   refine aq fun _ C0=>WS fun _ u=>rP 3 [] (mc 1 U mn) ?_
   obtain ⟨s,hs⟩:=aC r.aa ((((j:Int)-1)).toNat) I
   have MQ:=bO aF.cells hs
   refine rS (IA ((((j:Int)-1)).toNat) U (ay 8 U) wB dc I I)<|rS (pO (((((j:Int)-1)).toNat)*2) U (ay 8 U) (Nat.mul_pos I dc) eU U)<|rS (gD ((((j:Int)-1)).toNat) 0 (vI s.fI) U bU (ay 8 U) MQ U dc U) ?_
   have ST:=(hr.sig _ s hs).1
   refine rP 3 [] mn ?_
   refine bT (t:=99) U (aW fun A2=>?_) (aY fun A2=>?_)
   ·refine bI 7 U<|RK u<|aN U<|bQ<|ag<|ag<|aI<|KK P<|aw<|rP 3 [] mn ?_
    refine aK ?_
    have L:(iF l r B rs fs (j+1))=(iF l r B rs fs j):=by exact rl (yi I hs (fun q=>A2 I))
    rw [← L]
    have FS:(vI ((((j+1):Nat):Int)-1))=(vI (((j:Int)-1)+1)):=by exact cI I
    refine bu (O ⟨((j+1),M,N,azW),⟨I,by dsimp only; (rw [L]; exact A)⟩⟩ _ _ _ U os (cP 8<|bw U FS<|dp.nil _) (aR [0,1,2,3,4,5,6,7,8,9,10,11,12,13,14]))
   refine rP 3 [] (mc 0 U mn) ?_
   obtain ⟨bs,Ab⟩:=aC (fH l r r.aa.length) ((((j:Int)-1)).toNat) I
   have GT:=bO qA Ab
   refine rS (IA ((((j:Int)-1)).toNat) U (ay 11 U) Oh dc I I)<|rS (gD ((((j:Int)-1)).toNat) 0 (vB bs) U bU (ay 11 U) GT U dc U)<|rP 2 [] mn ?_
   refine RK u<|ck U (fun F=>?_) (fun F=>?_)
   ·rw [Bool.not_eq_true'] at F
    refine bQ<|ag<|ag<|aI<|KK P<|aw<|rP 3 [] mn ?_
    refine aK ?_
    have L:(iF l r B rs fs (j+1))=(iF l r B rs fs j):=by exact rl (yi I hs (fun q=>by rw [(B6 hs Ab).2 q.2] at F; cases F))
    rw [← L]
    have Fd:(vI ((((j+1):Nat):Int)-1))=(vI (((j:Int)-1)+1)):=by exact cI I
    refine bu (O ⟨((j+1),M,N,azW),⟨I,by dsimp only; (rw [L]; exact A)⟩⟩ _ _ _ U os (cP 8<|bw U Fd<|dp.nil _) (aR [0,1,2,3,4,5,6,7,8,9,10,11,12,13,14]))
   rw [Bool.not_eq_false'] at F
   refine WK C0<|cU cg 18 kr<|dP 4 [] (mc 0 U mn) ?_
   obtain ⟨z,hz⟩:=aC (e9 l r r.aa.length) ((((j:Int)-1)).toNat) I
   have If:=bO ai.cells hz
   refine dS (IA ((((j:Int)-1)).toNat) U (ay 10 U) kT dc I I)<|dS (pO (((((j:Int)-1)).toNat)*2) U (ay 10 U) (Nat.mul_pos I dc) eU U) ?_
   have In:=Lb hs hz
   have Op:=yH l s
   rw [← In] at Op
   have Lk:(cY l s).Lo≤(cY l s).Hi:=(B6 hs Ab).1 F
   refine dS (gD ((((j:Int)-1)).toNat) 0 (vI z.Lo) U bU (ay 10 U) If U dc U)<|dS (MX U)<|kv 4 [] (mc 0 U mn) U<|dS (IA ((((j:Int)-1)).toNat) U (ay 10 U) kT dc I I)<|dS (pO ((((((j:Int)-1)).toNat)*2)+1) U (ay 10 U) (Nat.mul_pos I dc) eU U)<|dS (gD ((((j:Int)-1)).toNat) 1 (vI z.Hi) U bU (ay 10 U) If U dc U)<|dS (MN U)<|dP 2 [] mn ?_
   refine cx<|aK ?_
   refine bu (jA (bD U) (aR [0,1,2,3,4,5,6,7,8,9,10,11,12,13,14]) (p ⟨((max ((gG r.Start fs)+(eE l rs.length)) z.Lo),(min r.gj z.Hi)),⟨by (rw [In]; exact Lz I hs I Lk),I⟩⟩))
  refine WS fun _ Z=>rP 2 [] mn ?_
  refine RK Z<|bR U (aU fun K0=>?_) (aT fun K0=>?_)
  ·refine cj ?_
   have Eq:(vI (gG r.Start fs))=(vI r.Start):=by exact cI (by have e:fs=[]:=kF I; rw [e]; rfl)
   refine bu (jA (cP 7<|bw U Eq<|dp.nil _) (aR [0,1,2,3,4,5,6,7,8,9,10,11,12,13]) (o ()))
  refine aw<|rP 3 [] mn ?_
  obtain ⟨xf,IO⟩:=aC fs (rs.length-1) I
  have IR:=bO iC IO
  refine rS (IA (rs.length-1) U (show fY _ (rd fA fs.length 1 (fs.map iC)).holds from (qf (c:=fC) (e:=3) 3 U sm sm)) dy dc I I)<|rS (gD (rs.length-1) 0 (vI xf) U bU (show fY _ (rd fA fs.length 1 (fs.map iC)).holds from (qf (c:=fC) (e:=3) 3 U sm sm)) IR U dc U)<|rP 1 [] mn ?_
  refine aK ?_
  have EQ:(vI (gG r.Start fs))=(vI xf):=by exact cI (Cl _ _ _ (by rw [hfl]; exact IO))
  refine bu (jA (cP 7<|bw U EQ<|dp.nil _) (aR [0,1,2,3,4,5,6,7,8,9,10,11,12,13]) (o ()))
 refine WS fun _ V=>rP 8 [0,1] (mc 1 U (mc 2 U mn)) ?_
 refine RK V<|bR U (aU fun G=>?_) (aT fun G=>?_)
 ·refine cj<|Et<|Gl 240 3 ?_
  rw [show (own none 0 240 3 [])=(own none 0 240 3 (List.zipWith dB.cells (ia l r rs fs) [])) from by rw [yj G]; rfl]
  have FO:(vS none ((ia l r rs fs).length) 0)=(vS none 0 0):=by first|rfl|(rw [yj G]; rfl)
  refine bu (jA (cP 6<|bw U FO<|dp.nil _) (aR [2,3,4,5,6,7,8,9,10,11,12,13,0,1]) (m ⟨(none,0,[],[]),(by exact .inr ⟨G,U,U⟩)⟩))
 refine aw<|rP 6 [0,1] (mc 1 U (mc 0 U mn)) ?_
 refine cX (KR r sgA sgC l vwA vwC vtA vtC vbA vbC rs rA rC hle hr I (by exact fun x hx h0=>(hrs x hx).2)) (ld [8,9,10,11]<|aD (show fY _ (rd rA rs.length 1 (rs.map iC)).holds from (qf (c:=rC) (e:=3) 3 U sm sm))<|aL) U fun Or PT=>?_
 obtain ⟨S,T⟩:=Or
 try dsimp only
 refine rS (SX (bq (xs:=[(0,.tmp 48),(1,.tmp 49),(2,.tmp 53)]) (cs:=(xC.cells (xC.mk (bE.mk rA rs.length rC) (bE.mk fA fs.length fC) (bE.mk S ((jD l r rs).length) T)))) U U (bp Rn U)) U U)<|eu (xs:=[.tmp 54]) (cs:=(xC.cells (xC.mk (bE.mk rA rs.length rC) (bE.mk fA fs.length fC) (bE.mk S ((jD l r rs).length) T)))) U Fm Td U U U U (by simp [Value.cells,xC.bo]) U U fun Qr=>gT 240 3 ?_
 refine eh (es2:=(List.zipWith dB.cells (ia l r rs fs) ([((rA,rC),(fA,fC),(S,T))]))) (m':=(ia l r rs fs).length) 0 rfl rfl rfl OL rfl rfl rfl (bx (es:=List.zipWith dB.cells [(dB.mk rs fs (jD l r rs))] [((rA,rC),(fA,fC),(S,T))]) 1 rfl rfl (by intro e he; simp at he; subst he; rfl) rfl) (CB _ _) dc dc (by rw [zm G]; rfl) (by rw [zm G]; rfl) rfl fun y AC=>?_
 try dsimp only
 refine yp<|Od 0 3 U U U ?_
 try dsimp only
 refine rP 1 [] mn ?_
 refine aK ?_
 have d:(vS y ((ia l r rs fs).length) AC)=(vS y ((ia l r rs fs).length) AC):=by first|rfl|(rw [yj G]; rfl)
 refine bu (jA (cP 6<|bw U d<|dp.nil _) (aR [3,4,5,6,7,8,9,10,11,12,13,14,1,0]) (m ⟨(y,AC,[((rA,rC),(fA,fC),(S,T))],[(own S T 3 1 ((jD l r rs).map iC))]),(by exact .inl ⟨G,_,U,U⟩)⟩))
theorem Qe (l:bG) (kA:OA) (kC:Nat) (az:List RA) (cA:OA) (cC:Nat) (bA:OA) (bC:Nat) (r:de) (sgA:OA) (sgC:Nat) (vwA:OA) (vwC:Nat) (vtA:OA) (vtC:Nat) (vbA:OA) (vbC k:Nat) (rs:List Int) (rA:OA) (rC:Nat) (fs:List Int) (fA:OA) (fC:Nat) (hin:ej l az) (hle:eT l=0) (hr:fQ l r) (hk:rs.length+k=l.ab.length) (hfl:fs.length=rs.length) (hst:r.Start≤gG r.Start fs∧gG r.Start fs≤r.gj) (hrs: ∀ x∈rs,-1≤x∧x<(r.aa.length:Int)):
 LY Tryz.prog 191 [(vA (cm.cells (jR l kA kC cA cC bA bC))),(vA (cL.cells (iM r sgA sgC))),(vA (iS.cells (iS.mk (bE.mk vwA ((cu l l.ab.length).length) vwC) (bE.mk vtA ((e9 l r r.aa.length).length) vtC) (bE.mk vbA ((fH l r r.aa.length).length) vbC)))),(vS rA rs.length rC),(vS fA fs.length fC)] [(rd kA l.aO.length 9 (l.aO.map au.cells)),(rd cA l.aj.length 2 (List.zipWith ax.cells l.aj az)),(dE (bg ax.e_ l.aj az)),(rd bA l.ab.length 4 (l.ab.map bK.cells)),(rd sgA r.aa.length 2 (r.aa.map aF.cells)),(rd vwA ((cu l l.ab.length).length) 1 ((cu l l.ab.length).map iC)),(rd vtA ((e9 l r r.aa.length).length) 2 ((e9 l r r.aa.length).map ai.cells)),(rd vbA ((fH l r r.aa.length).length) 1 ((fH l r r.aa.length).map qA))] (bM [own rA rC 3 1 (rs.map iC),own fA fC 3 1 (fs.map iC)]) (fun (x:(OA)×Nat×(List kS))=>(vS x.1 ((iE l r k rs fs).length) x.2.1)) (fun (x:(OA)×Nat×(List kS))=>x.2.2.length=(iE l r k rs fs).length) (fun (x:(OA)×Nat×(List kS))=>(bM (bg dB.owns (iE l r k rs fs) x.2.2++[own x.1 x.2.1 240 3 (List.zipWith dB.cells (iE l r k rs fs) x.2.2)]))):=by
 induction k using Nat.strongRecOn generalizing rs rA rC fs fA fC with
 |ind k ih=>exact GQ l kA kC az cA cC bA bC r sgA sgC vwA vwC vtA vtC vbA vbC k rs rA rC fs fA fC hin hle hr hk hfl hst hrs (fun L F D E C A B G H AA J K=>ih L G F D E C A B H AA J K)
end
section
open Go.RowKit
theorem NY (l:bG) (kA:OA) (kC:Nat) (az:List RA) (cA:OA) (cC:Nat) (bA:OA) (bC:Nat) (r:de) (sgA:OA) (sgC:Nat) (hin:ej l az) (hsl:r.aa.length≤1000000):
 nz Tryz.prog 151 [(vA (cm.cells (jR l kA kC cA cC bA bC))),(vA (cL.cells (iM r sgA sgC)))] [(rd kA l.aO.length 9 (l.aO.map au.cells)),(rd cA l.aj.length 2 (List.zipWith ax.cells l.aj az)),(dE (bg ax.e_ l.aj az)),(rd bA l.ab.length 4 (l.ab.map bK.cells)),(rd sgA r.aa.length 2 (r.aa.map aF.cells))] (fun (x:Bool×Int×(OA)×Nat×(List kS))=>bif x.1 then (vT [(vS x.2.2.1 ((qM l r).length) x.2.2.2.1),(vI 0)]) else (vT [(vS none 0 0),(vI x.2.1)])) (fun (x:Bool×Int×(OA)×Nat×(List kS))=>(x.1=true→(fr l r 0=0∧x.2.2.2.2.length=(qM l r).length))∧(x.1=false→(x.2.1=fr l r 0∧ ¬ fr l r 0=0))) (fun (x:Bool×Int×(OA)×Nat×(List kS))=>bif x.1 then [(own x.2.2.1 x.2.2.2.1 240 3 (List.zipWith dB.cells (qM l r) x.2.2.2.2)),(bM (bg dB.owns (qM l r) x.2.2.2.2))] else []):=by
 have k:=hin.sj
 have j:=hin.r_
 have h:=hin.lz
 have i:=hin.sh
 refine eO kr Tryz.func151 U U fun o Q hQ hN=>?_
 try dsimp only
 refine WS fun _ X=>eG U fun m=>eG U fun n=>bI 2 U<|RK X<|aq fun _ Y=>WS fun _ Z=>eV 1 [] (mc 1 U mn) U<|rS (CL (CU l kA kC az cA cC bA bC hin) (bk [2,3,4,5]) U)<|bI 1 U<|RK Z<|WS fun _ a=>rP 2 [] mn ?_
 refine RK a<|ck U (aW fun A=>?_) (aY fun A=>?_)
 ·refine WS fun _ b=>rP 3 [] mn ?_
  refine RK b<|ar<|LX hQ (false,(eT l),none,0,[]) [] [] mn U (by rfl) U U ?_
  exact qH<|Q0 (mO (r:=r) (me:=0) A) A
 refine WK Y<|aq fun _ c=>WS fun _ d=>eV 2 [0,1] (mc 1 U (mc 0 U mn)) U<|rS (CL (N7 l kA kC az cA cC bA bC r sgA sgC hin (by exact hsl)) (bk [2,3,4,5,6]) U)<|rP 1 [] mn ?_
 refine RK d<|ck U (aW fun B=>?_) (aY fun B=>?_)
 ·refine WS fun _ D=>rP 2 [] mn ?_
  refine RK D<|ar<|LX hQ (false,51,none,0,[]) [] [] mn U (by rfl) U U ?_
  exact qH<|sZ (fP (me:=0) A B)
 refine WK c<|aq fun _ E=>dH cg [4,5,6] [] [] [0,1,2,3,4,5,6] [] U U U U U<|eS U (LW 1 U bU U U)<|eS U (LW 0 U bU U U)<|eS U (LW 1 U bU U U)<|eS U (LW 0 U bU U U)<|ek U<|cq U fun T12 J=>cX (NL l kA kC az cA cC bA bC r sgA sgC hin (by exact A) (by exact B)) (bk [2,3,4,5,6]) U fun e g=>?_
 obtain ⟨V,W,T,AA,R,S⟩:=e
 try dsimp only
 refine aK (J _ _ (aR [3,4,5,6,7,8,9]) ?_)
 refine cq U fun T21 K=>gT 3 1<|gT 3 1<|yp<|sE 1 U ?_
 try dsimp only [List.eraseIdx]
 refine z3 U<|sE 1 U ?_
 try dsimp only [List.eraseIdx]
 refine z3 U ?_
 try dsimp only
 refine oD 0 rfl rfl rfl rfl (Qe l kA kC az cA cC bA bC r sgA sgC V W T AA R S l.ab.length ([]:List Int) none 0 ([]:List Int) none 0 hin (by exact A) (by exact B) sm (by rfl) (by exact ⟨Int.le_refl _,B.time.2.1⟩) (by intro x hx; cases hx)) rfl (eC 6 rfl rfl (dJ (cb _)) (eC 7 rfl rfl (dJ (cb _)) (eC 8 rfl rfl (dJ (cb _)) (eC 9 rfl rfl (dJ (cb _)) (eC 10 rfl rfl (dJ (cb _)) (eC 1 rfl rfl (js sm) (eC 2 rfl rfl (js sm) (eC 3 rfl rfl (js sm) qR)))))))) rfl (fun f M=>?_)
 obtain ⟨N,O,P⟩:=f
 try dsimp only
 refine aK (K _ _ (aR [4,5,6,7,8,9,10]) ?_)
 refine cq U fun T26 L=>sE 0 U ?_
 try dsimp only [List.eraseIdx]
 refine zO ?_
 dsimp only at M
 refine rS (AG U)<|aK (L _ _ (aR [5,6,7,8,9,10,11]) ?_)
 refine fJ U<|KK E<|aq fun _ F=>WS fun _ G=>rP 3 [] mn ?_
 refine RK G<|bR U (aU fun C=>?_) (aT fun C=>?_)
 ·refine WK F<|WS fun _ AB=>rP 3 [] mn ?_
  refine RK AB<|ar ?_
  refine LX hQ (true,0,N,O,P) [0,1] [] mn U (by (show List.all _ _=true; simp only [cond_true,il,List.all_nil,Lc,Bool.and_true]; rfl)) U U ?_
  exact ⟨fun _=>⟨rX A B U fun q=>C (by rw [show iE l r l.ab.length [] []=[] from (im A B).2 q]; rfl),M⟩,Pm⟩
 refine WS fun _ H=>rP 2 [] mn ?_
 refine RK H<|ar<|LX hQ (false,8,none,0,[]) [] [] mn U (by rfl) U U ?_
 exact qH<|sZ (tn (me:=0) A B U ((im A B).1 (kF (Int.natCast_eq_zero.1 C))))
theorem GO (ws:List dB) (wz:List kS) (wA:OA) (wC b:Nat) (hws:NI ws) (hwz:wz.length=ws.length) (hb:b≤6):
 dA Tryz.prog 154 [(vS wA ws.length wC),(vI (b:Int))] [(rd wA ws.length 3 (List.zipWith dB.cells ws wz)),(dE (bg dB.e_ ws wz))] (vT [(vA (ai.cells (pS ws b))),(vI (pQ ws b))]):=by
 have u:=hws.num
 refine bJ kr Tryz.func154 U U fun x Q hQ hN=>?_
 try dsimp only
 refine WS fun _ g=>AL U dT fun w=>bI 1 U<|RK g<|WS fun _ h=>AL U dT fun t=>RK h<|WS fun _ j=>bI 1 U<|RK j<|aq fun _ k=>WS fun _ l=>rP 1 [] mn ?_
 refine RK l<|aH ?_
 have D:(0≤ws.length)∧(nS b (ws.take 0) false (ai.mk 0 0)):=by exact ⟨Nat.zero_le _,Gx⟩
 refine bS (ι:={z:Nat×Bool×ai // (z.1≤ws.length)∧(nS b (ws.take z.1) z.2.1 z.2.2)}) [0,1,4,5,6] [1,2,3] U U (fun z=>[(7,(vB z.1.2.1)),(8,(vI (z.1.1:Int)))]) (fun z=>[(cz t 38 (ai.cells z.1.2.2))]) (fun _=>rfl) (fun _=>rfl) (fun z=>ws.length-z.1.1) ⟨(0,false,(ai.mk 0 0)),D⟩ (bD U) (aR [1,2,3,0]) ?_
 clear D
 rintro ⟨⟨i,fd,o⟩,⟨J,A⟩⟩ J8 H
 try dsimp only at J A
 try dsimp only
 refine aq fun _ m=>WS fun _ L=>rP 4 [] mn ?_
 refine RK L<|bR U (aU fun c=>?_) (aT fun c=>?_)
 ·refine bQ<|ag<|ag<|aI<|KK k<|aq fun _ R=>WS fun _ S=>rP 2 [] mn ?_
  refine RK S<|bR U (fun B=>?_) (fun B=>?_)
  ·rw [Bool.not_eq_false'] at B
   refine WK R<|WS fun _ AA=>eV 1 [] (mc 3 U mn) U<|eN U cT U<|rP 1 [] mn ?_
   refine RK AA<|ar<|l4 hQ [0] (mc 0 U mn) U ?_
   have AB:=zJ (by have q:=A; rwa [List.take_of_length_le I] at q) hws.FO
   (have q:=AB.2 B; rw [q.1,q.2]; done)
  rw [Bool.not_eq_true'] at B
  refine WS fun _ T=>rS (SX (bq (xs:=[]) (cs:=(ai.cells (ai.mk 0 0))) U U (bp gM U)) U U)<|eN U cT U<|rP 1 [] mn ?_
  refine RK T<|ar<|l4 hQ [0] (mc 0 U mn) U ?_
  have AB:=zJ (by have q:=A; rwa [List.take_of_length_le I] at q) hws.FO
  (have q:=AB.1 B; rw [q.1,q.2]; done)
 refine WK m<|aq fun _ C=>aH<|aq fun _ M=>WS fun _ N=>rP 2 [] mn ?_
 obtain ⟨y,hy⟩:=aC ws i I
 obtain ⟨ya,E⟩:=aC wz i I
 have K:(List.zipWith dB.cells ws wz)[i]? =some (dB.cells y ya):=cv hy E
 refine rS (IA i U (ay 1 U) Fm dc I I)<|rS (pO (i*3) U (ay 1 U) (Nat.mul_pos I dc) eU U)<|rS (gD i 0 (vS ya.1.1 y.gO.length ya.1.2) U bU (ay 1 U) K U dc U)<|rP 3 [] mn ?_
 refine RK N<|ck U (aT fun d=>?_) (aU fun d=>?_)
 ·refine bQ<|ag<|aI<|KK C<|aw<|rP 3 [] mn ?_
  refine aK ?_
  have X:(vI (((i+1):Nat):Int))=(vI ((i:Int)+1)):=by exact cI I
  refine bu (H ⟨((i+1),fd,o),⟨I,by dsimp only; rw [sD hy]; exact Ej A I⟩⟩ _ _ _ U os (cP 6<|bw U X<|dp.nil _) (aR [0,1,2,3]))
 refine WK M<|aq fun _ O=>dH cg [17,18] [] [] [0,1,2,3] [] U U U U U ?_
 have v:=hws.lens y (aM hy)
 obtain ⟨s,hs⟩: ∃ s,y.gO[b]? =some s:=⟨y.gO[b]'I,fV _⟩
 refine eS U (MV U)<|eS U (MV U)<|eS U (IA i U (ay 1 U) Fm dc I I)<|eS U (pO ((i*3)+1) U (ay 1 U) (Nat.mul_pos I dc) eU U)<|eS U (gD i 1 (vS ya.2.1.1 y.jd.length ya.2.1.2) U bU (ay 1 U) K U dc U)<|eS U (MV U) ?_
 obtain ⟨f,hf⟩:=aC y.jd b I
 have p:=bO iC hf
 refine eS U (IA b U (show fY _ (rd ya.2.1.1 y.jd.length 1 (y.jd.map iC)).holds from (bY 2 U (a_ hy E (by simp [dB.e_])))) dy dc I I)<|eS U (gD b 0 (vI f) U bU (show fY _ (rd ya.2.1.1 y.jd.length 1 (y.jd.map iC)).holds from (bY 2 U (a_ hy E (by simp [dB.e_])))) p U dc U)<|eS U (MV U)<|eS U (MV U)<|eS U (IA i U (ay 1 U) Fm dc I I)<|eS U (pO ((i*3)+2) U (ay 1 U) (Nat.mul_pos I dc) eU U)<|eS U (gD i 2 (vS ya.2.2.1 y.mo.length ya.2.2.2) U bU (ay 1 U) K U dc U)<|eS U (MV U) ?_
 obtain ⟨e,he⟩:=aC y.mo b I
 have n:=bO iC he
 refine eS U (IA b U (show fY _ (rd ya.2.2.1 y.mo.length 1 (y.mo.map iC)).holds from (bY 2 U (a_ hy E (by simp [dB.e_])))) dy dc I I)<|eS U (gD b 0 (vI e) U bU (show fY _ (rd ya.2.2.1 y.mo.length 1 (y.mo.map iC)).holds from (bY 2 U (a_ hy E (by simp [dB.e_])))) n U dc U)<|eS U (SX (bq (xs:=[(0,.tmp 31),(1,.tmp 39)]) (cs:=(ai.cells (ai.mk f e))) U U (bp gM U)) U U)<|ek U<|cq U fun T17 V=>AL U dT fun r=>aK (V _ _ (aR [1,2,3,4]) ?_)
 refine cq U fun T19 W=>eN U cT U<|aK (W _ _ (aR [1,2,3,4]) ?_)
 refine fJ U<|KK O<|aq fun _ F=>WS fun _ P=>?_
 have a:=hws.le y (aM hy) b f e I hf he
 refine rP 1 [] mn ?_
 refine RK P<|bR U (fun G=>?_) (fun G=>?_)
 ·refine WK F<|aw<|eV 1 [] (mc 0 U mn) U<|Q5 U cT U<|bI 1 U<|aK<|aP<|KK C<|aw<|rP 3 [] mn ?_
  refine aK ?_
  have Z:(vI (((i+1):Nat):Int))=(vI ((i:Int)+1)):=by exact cI I
  refine bu (H ⟨((i+1),true,(ai.mk f e)),⟨I,by dsimp only; rw [sD hy]; exact BW A G hs hf he a⟩⟩ _ _ _ U os (cP 6<|bw U Z<|dp.nil _) (aR [1,2,3,4]))
 refine aw<|eV 4 [0,1] (mc 0 U (mc 4 U mn)) U<|rS (MN U)<|eV 4 [0,1] (mc 0 U (mc 4 U mn)) U<|rS (MX U)<|rS (SX (bq (xs:=[(0,.tmp 46),(1,.tmp 51)]) (cs:=(ai.cells (ai.mk (min f o.Lo) (max e o.Hi)))) U U (bp gM U)) U U)<|eN U cT U<|RK F<|aw<|eV 1 [] (mc 0 U mn) U<|Q5 U cT U<|bI 1 U<|aK<|aP<|KK C<|aw<|rP 3 [] mn ?_
 refine aK ?_
 have Y:(vI (((i+1):Nat):Int))=(vI ((i:Int)+1)):=by exact cI I
 refine bu (H ⟨((i+1),true,(ai.mk (min f o.Lo) (max e o.Hi))),⟨I,by dsimp only; rw [sD hy]; exact Dx A G hs hf he a⟩⟩ _ _ _ U os (cP 6<|bw U Y<|dp.nil _) (aR [1,2,3,4]))
end
section
open Go.RowKit
theorem Po (l:bG) (kA:OA) (kC:Nat) (az:List RA) (cA:OA) (cC:Nat) (bA:OA) (bC:Nat) (r:de) (sgA:OA) (sgC:Nat) (hin:ej l az) (hsl:r.aa.length≤1000000):
 dA Tryz.prog 162 [(vA (cm.cells (cm.mk (bL.mk (bE.mk kA l.aO.length kC)) l.hU (bE.mk cA l.aj.length cC) (bE.mk bA l.ab.length bC) l.cd l.fK l.dC))),(vA (cL.cells (iM r sgA sgC)))] [(rd kA l.aO.length 9 (l.aO.map au.cells)),(rd cA l.aj.length 2 (List.zipWith ax.cells l.aj az)),(dE (bg ax.e_ l.aj az)),(rd bA l.ab.length 4 (l.ab.map bK.cells)),(rd sgA r.aa.length 2 (r.aa.map aF.cells))] (vT [(vA (ai.cells (Ai l r))),(vI (dW l r l.cd))]):=by
 have q:=hin.sj
 have j:=hin.r_
 have h:=hin.lz
 have i:=hin.sh
 refine bJ kr Tryz.func162 U U fun y Q hQ hN=>?_
 try dsimp only
 refine WS fun _ Z=>eG U fun v=>eG U fun w=>AL U dT fun x=>bI 1 U<|RK Z<|WS fun _ P=>rP 2 [0,1] (mc 2 U (mc 1 U mn)) ?_
 refine cX (NY l kA kC az cA cC bA bC r sgA sgC hin hsl) (bk [3,4,5,6,7]) U fun u V=>?_
 obtain ⟨W,g,e,Y,X⟩:=u
 cases W
 ·obtain ⟨R,he⟩:=V.2 rfl
  try dsimp only at R he
  subst R
  try dsimp only [cond_true,cond_false,List.cons_append,List.nil_append]
  refine bI 5 U<|RK P<|aq fun _ d=>WS fun _ G=>rP 2 [] mn ?_
  refine RK G<|bR U (aY fun F=>?_) (aW fun F=>?_)
  ·exact absurd F he
  refine WS fun _ H=>rS (SX (bq (xs:=[]) (cs:=(ai.cells (ai.mk 0 0))) U U (bp gM U)) U U)<|bI 1 U<|eN U cT U<|rP 1 [] mn ?_
  refine RK H<|ar<|l4 hQ [0] (mc 0 U mn) U ?_
  (rw [ED (fun z=>he ((wh he).symm.trans z)),wh he]<;>rfl)
 obtain ⟨he,C⟩:=V.1 rfl
 try dsimp only [cond_true,cond_false,List.cons_append,List.nil_append]
 try dsimp only at he C
 obtain ⟨T,E,_,k⟩:=jh he
 obtain ⟨s,c⟩:=d_ T
 have a:=c.head
 unfold e7 at a
 have AA:=Qt T E
 have t:=AA.num
 have o:=E.len
 have p:=E.time
 refine bI 5 U<|RK P<|aq fun _ AB=>WS fun _ J=>rP 1 [] mn ?_
 refine rS (SX (fO (r:= .bool false) U U U rE) U U)<|RK J<|cp U<|WK AB<|aq fun _ K=>?_
 obtain ⟨b,S⟩: ∃ b:Nat,l.cd=(b:Int):=⟨l.cd.toNat,I⟩
 have A:=IJ he (b:=b) I
 rw [← S] at A
 rw [S]
 refine aw<|eV 3 [] (mc 4 U mn) U<|rS (CL (GO (qM l r) X e Y b (by exact AA) (by exact C) I) (aD (aB (n:=(qM l r).length) 0 U (uw C))<|aD (dR 1 U NN)<|aL) U)<|bI 3 U<|AL U dT fun f=>eN U cT U<|bI 1 U<|RK K<|aq fun _ L=>WS fun _ M=>rP 2 [] mn ?_
 refine RK M<|ck U (aW fun B=>?_) (aY fun B=>?_)
 ·refine WS fun _ N=>rS (SX (bq (xs:=[]) (cs:=(ai.cells (ai.mk 0 0))) U U (bp gM U)) U U)<|bI 1 U<|Sx U cT U<|rP 1 [] mn ?_
  refine RK N<|ar<|l4 hQ [0] (mc 3 U mn) U ?_
  (rw [ED (fun z=>B (A.1.trans z)),← A.1]<;>rfl)
 refine WK L<|aq fun _ O=>?_
 have D:dW l r l.cd=0:=A.1.symm.trans B
 have m:=uN D
 rw [A.2]
 refine aw<|eV 10 [0,1,0,1] (mc 0 U (mc 4 U mn)) U<|rS (SX (bq (xs:=[(0,.tmp 34),(1,.tmp 39)]) (cs:=(ai.cells (ai.mk (((dQ l r l.cd).Lo)-r.Start) (((dQ l r l.cd).Hi)-r.Start)))) U U (bp gM U)) U U)<|Sx U cT U<|rP 1 [] mn ?_
 refine RK O<|ar<|l4 hQ [0] (mc 3 U mn) U ?_
 (rw [z9 D,D])
theorem DS (la:List aF) (laA:OA) (laC:Nat) (lb:List aF) (lbA:OA) (lbC:Nat) (h1:la.length≤1000000) (h2:lb.length≤1000000):
 dA Tryz.prog 61 [(vS laA la.length laC),(vS lbA lb.length lbC)] [(rd laA la.length 2 (la.map aF.cells)),(rd lbA lb.length 2 (lb.map aF.cells))] (vB (decide (la=lb))):=by
 refine bJ kr Tryz.func61 U U fun V Q hQ hN=>?_
 try dsimp only
 refine WS fun _ J=>bI 1 U<|RK J<|aq fun _ K=>WS fun _ L=>rP 5 [] mn ?_
 refine RK L<|ck U (aW fun hl=>?_) (aY fun hl=>?_)
 ·refine WS fun _ M=>rP 1 [] mn ?_
  refine RK M<|ar<|Q1 hQ U U U ?_
  first|exact cB (bj (nZ hx hy h)).symm|exact cB (cO (cR I A I)).symm|exact cB (bj (fun e=>by subst e; omega)).symm
 refine WK K<|aq fun _ N=>WS fun _ O=>rP 1 [] mn ?_
 refine RK O<|aH ?_
 have B:(0≤la.length)∧(la.take 0=lb.take 0):=by simp
 refine bS (ι:={z:Nat // (z≤la.length)∧(la.take z=lb.take z)}) [0,1] [0,1] U U (fun z=>[(5,(vI (z.1:Int)))]) (fun z=>[]) (fun _=>rfl) (fun _=>rfl) (fun z=>la.length-z.1) ⟨0,B⟩ (bD U) (aR [0,1]) ?_
 clear B
 rintro ⟨i,⟨S,A⟩⟩ J7 AB
 try dsimp only
 refine aq fun _ P=>WS fun _ R=>rP 4 [] mn ?_
 refine RK R<|bR U (aU fun H=>?_) (aT fun H=>?_)
 ·refine bQ<|ag<|ag<|aI<|KK N<|WS fun _ F=>rP 1 [] mn ?_
  refine RK F<|ar<|Q1 hQ U U U ?_
  first|exact cB (bj (nZ hx hy h)).symm|exact cB (cO (cR I A I)).symm|exact cB (bj (fun e=>by subst e; omega)).symm
 refine WK P<|aq fun _ C=>aH<|aq fun _ D=>cU cg 9 kr<|dP 2 [] mn ?_
 obtain ⟨x,hx⟩:=aC la i I
 have T:=bO aF.cells hx
 refine dS (IA i U (ay 0 U) wB dc I I)<|dS (jE i 0 (aF.cells x) U bU (ay 0 U) T U dc U U)<|dP 2 [] mn ?_
 obtain ⟨y,hy⟩:=aC lb i I
 have AA:=bO aF.cells hy
 refine dS (IA i U (ay 1 U) wB dc I I)<|dS (jE i 0 (aF.cells y) U bU (ay 1 U) AA U dc U U)<|dS (BI U (Py _ _ x y))<|cx<|RK D<|ck U (aW fun h=>?_) (aY fun h=>?_)
 ·refine WS fun _ E=>rP 1 [] mn ?_
  refine RK E<|ar<|Q1 hQ U U U ?_
  first|exact cB (bj (nZ hx hy h)).symm|exact cB (cO (cR I A I)).symm|exact cB (bj (fun e=>by subst e; omega)).symm
 refine cj<|aP<|KK C<|aw<|rP 3 [] mn ?_
 refine aK ?_
 have G:(vI (((i+1):Nat):Int))=(vI ((i:Int)+1)):=by exact cI I
 refine bu (AB ⟨(i+1),⟨I,iY A hx hy h⟩⟩ _ _ _ U os (dp.cons U<|dp.cons U<|bw U G<|dp.nil _) (aR [0,1]))
end
section
open Go.RowKit
theorem pH (n lo hi:Int):
 dA Tryz.prog 128 [(vI n),(vI lo),(vI hi)] [] (vB (decide (lo≤n∧n≤hi))):=by
 refine bJ kr Tryz.func128 U U fun D Q hQ hN=>?_
 try dsimp only
 refine WS fun _ B=>bI 1 U<|RK B<|WS fun _ A=>rP 4 [] mn ?_
 refine bT (t:=10) U (aT fun C=>?_) (aU fun C=>?_)
 ·refine rP 5 [] mn ?_
  refine RK A<|ar<|Q1 hQ U U U ?_
  exact cB (gV.2 I)
 refine rP 5 [] mn ?_
 refine RK A<|ar<|Q1 hQ U U U ?_
 exact cB (bj I).symm
theorem Fv (r:de) (sgA:OA) (sgC:Nat):
 dA Tryz.prog 160 [(vA (cL.cells (iM r sgA sgC)))] [(rd sgA r.aa.length 2 (r.aa.map aF.cells))] (vB (decide (nc r))):=by
 refine bJ kr Tryz.func160 U U fun F Q hQ hN=>?_
 try dsimp only
 refine WS fun _ B=>eG U fun E=>bI 1 U<|RK B<|WS fun _ A=>rP 4 [] (mc 0 U mn) ?_
 refine cG (t:=6) U (aU fun C=>?_) (aT fun C=>?_)
 ·refine rP 11 [] mn ?_
  refine RK A<|ar<|Q1 hQ U U U ?_
  simp only [nc]
  exact cB (bj I).symm
 refine rP 5 [] (mc 0 U mn) ?_
 refine cG (t:=11) U (aU fun D=>?_) (aT fun D=>?_)
 ·refine rP 6 [] mn ?_
  refine RK A<|ar<|Q1 hQ U U U ?_
  simp only [nc]
  exact cB (bj I).symm
 refine rP 6 [] (mc 0 U mn) ?_
 refine RK A<|ar<|Q1 hQ U U U ?_
 simp only [nc]
 exact cB (gV.2 I)
theorem Nr (s:ai):
 dA Tryz.prog 161 [(vA (ai.cells s))] [] (vB (decide (mA s))):=by
 refine bJ kr Tryz.func161 U U fun F Q hQ hN=>?_
 try dsimp only
 refine WS fun _ B=>eG U fun E=>bI 1 U<|RK B<|WS fun _ A=>rP 4 [] (mc 0 U mn) ?_
 refine cG (t:=6) U (aU fun C=>?_) (aT fun C=>?_)
 ·refine rP 12 [] mn ?_
  refine RK A<|ar<|Q1 hQ U U U ?_
  simp only [mA]
  exact cB (bj I).symm
 refine rP 7 [] (mc 0 U mn) ?_
 refine cG (t:=13) U (aU fun D=>?_) (aT fun D=>?_)
 ·refine rP 5 [] mn ?_
  refine RK A<|ar<|Q1 hQ U U U ?_
  simp only [mA]
  exact cB (bj I).symm
 refine rP 5 [] (mc 0 U mn) ?_
 refine RK A<|ar<|Q1 hQ U U U ?_
 simp only [mA]
 exact cB (gV.2 I)
theorem q6 (la:List Int) (laA:OA) (laC:Nat) (lb:List Int) (lbA:OA) (lbC:Nat) (h1:la.length≤1000000) (h2:lb.length≤1000000):
 dA Tryz.prog 47 [(vS laA la.length laC),(vS lbA lb.length lbC)] [(rd laA la.length 1 (la.map iC)),(rd lbA lb.length 1 (lb.map iC))] (vB (decide (la=lb))):=by
 refine bJ kr Tryz.func47 U U fun V Q hQ hN=>?_
 try dsimp only
 refine WS fun _ J=>bI 1 U<|RK J<|aq fun _ K=>WS fun _ L=>rP 5 [] mn ?_
 refine RK L<|ck U (aW fun hl=>?_) (aY fun hl=>?_)
 ·refine WS fun _ M=>rP 1 [] mn ?_
  refine RK M<|ar<|Q1 hQ U U U ?_
  exact cB (bj (fun e=>by subst e; omega)).symm
 refine WK K<|aq fun _ N=>WS fun _ O=>rP 1 [] mn ?_
 refine RK O<|aH ?_
 have A:(0≤la.length)∧(la.take 0=lb.take 0):=by simp
 refine bS (ι:={z:Nat // (z≤la.length)∧(la.take z=lb.take z)}) [0,1] [0,1] U U (fun z=>[(5,(vI (z.1:Int)))]) (fun z=>[]) (fun _=>rfl) (fun _=>rfl) (fun z=>la.length-z.1) ⟨0,A⟩ (bD U) (aR [0,1]) ?_
 clear A
 rintro ⟨i,⟨S,B⟩⟩ J7 AB
 try dsimp only
 refine aq fun _ P=>WS fun _ R=>rP 4 [] mn ?_
 refine RK R<|bR U (aU fun H=>?_) (aT fun H=>?_)
 ·refine bQ<|ag<|ag<|aI<|KK N<|WS fun _ F=>rP 1 [] mn ?_
  refine RK F<|ar<|Q1 hQ U U U ?_
  exact cB (cO (cR I B I)).symm
 refine WK P<|aq fun _ C=>aH<|aq fun _ D=>cU cg 9 kr<|dP 2 [] mn ?_
 obtain ⟨x,hx⟩:=aC la i I
 have T:=bO iC hx
 refine dS (IA i U (ay 0 U) dy dc I I)<|dS (gD i 0 (vI x) U bU (ay 0 U) T U dc U)<|dP 2 [] mn ?_
 obtain ⟨y,hy⟩:=aC lb i I
 have AA:=bO iC hy
 refine dS (IA i U (ay 1 U) dy dc I I)<|dS (gD i 0 (vI y) U bU (ay 1 U) AA U dc U)<|dP 1 [] mn ?_
 refine cx<|RK D<|ck U (aW fun h=>?_) (aY fun h=>?_)
 ·refine WS fun _ E=>rP 1 [] mn ?_
  refine RK E<|ar<|Q1 hQ U U U ?_
  exact cB (bj (nZ hx hy h)).symm
 refine cj<|aP<|KK C<|aw<|rP 3 [] mn ?_
 refine aK ?_
 have G:(vI (((i+1):Nat):Int))=(vI ((i:Int)+1)):=by exact cI I
 refine bu (AB ⟨(i+1),⟨I,iY B hx hy h⟩⟩ _ _ _ U os (dp.cons U<|dp.cons U<|bw U G<|dp.nil _) (aR [0,1]))
end
section
open Go.RowKit
theorem n7 (d:ak) (sgA:OA) (sgC:Nat) (e:ak) (shA:OA) (shC:Nat) (h1:d.aX.aa.length≤1000000) (h2:e.aX.aa.length≤1000000):
 dA Tryz.prog 27 [(vA (aG.cells (aG.mk d.Out d.cJ d.Time (iM d.aX sgA sgC)))),(vA (aG.cells (aG.mk e.Out e.cJ e.Time (cL.mk e.aX.Start e.aX.gj (bE.mk shA e.aX.aa.length shC)))))] [(rd sgA d.aX.aa.length 2 (d.aX.aa.map aF.cells)),(rd shA e.aX.aa.length 2 (e.aX.aa.map aF.cells))] (vB (decide (d=e))):=by
 refine bJ kr Tryz.func27 U U fun J Q hQ hN=>?_
 try dsimp only
 refine WS fun _ B=>eG U fun H=>eG U fun AA=>bI 1 U<|RK B<|WS fun _ A=>eV 4 [0,1] (mc 1 U (mc 0 U mn)) U<|rS (BI U (LH T3))<|rP 1 [] mn ?_
 refine cG (t:=10) U (fun C=>?_) (fun C=>?_)
 ·replace C: ¬ d.Out=e.Out:=by simpa using C
  refine rP 41 [] mn ?_
  refine RK A<|ar<|Q1 hQ U U U ?_
  clear hQ hN A B
  refine cB ?_
  simp [o5, *]
 replace C:d.Out=e.Out:=by simpa using C
 refine eV 4 [0,1] (mc 1 U (mc 0 U mn)) U<|rS (BI U (LH T3))<|rP 2 [] mn ?_
 refine cG (t:=17) U (fun D=>?_) (fun D=>?_)
 ·replace D: ¬ d.cJ=e.cJ:=by simpa using D
  refine rP 34 [] mn ?_
  refine RK A<|ar<|Q1 hQ U U U ?_
  clear hQ hN A B
  refine cB ?_
  simp [o5, *]
 replace D:d.cJ=e.cJ:=by simpa using D
 refine bI 1 U<|rS (LP (ai.cells d.Time) 1 U bU U U U)<|bI 1 U<|rS (LP (ai.cells e.Time) 0 U bU U U U)<|rS (BI U (uS _ _ d.Time e.Time))<|rP 2 [] mn ?_
 refine cG (t:=24) U (aU fun E=>?_) (aT fun E=>?_)
 ·refine rP 27 [] mn ?_
  refine RK A<|ar<|Q1 hQ U U U ?_
  clear hQ hN A B
  refine cB ?_
  simp [o5, *]
 refine rP 9 [0,1] (mc 1 U (mc 0 U mn)) ?_
 refine cG (t:=33) U (aU fun F=>?_) (aT fun F=>?_)
 ·refine rP 18 [] mn ?_
  refine RK A<|ar<|Q1 hQ U U U ?_
  clear hQ hN A B
  refine cB ?_
  simp [o5, *]
 refine rP 9 [0,1] (mc 1 U (mc 0 U mn)) ?_
 refine cG (t:=42) U (aU fun G=>?_) (aT fun G=>?_)
 ·refine rP 9 [] mn ?_
  refine RK A<|ar<|Q1 hQ U U U ?_
  clear hQ hN A B
  refine cB ?_
  simp [o5, *]
 refine eV 6 [0,1] (mc 1 U (mc 0 U mn)) U<|rS (CL (DS d.aX.aa sgA sgC e.aX.aa shA shC h1 h2) (bk [2,3]) U)<|rP 2 [] mn ?_
 refine RK A<|ar<|Q1 hQ U U U ?_
 clear hQ hN A B
 refine cB ?_
 simp [o5, *]
theorem yg (r:eD) (kA:OA) (kC:Nat) (az:List RA) (cA:OA) (cC:Nat) (bA:OA) (bC:Nat) (slA:OA) (slC:Nat) (drA:OA) (drC:Nat) (ha:List cD) (heA:OA) (heC:Nat) (q:eD) (k2A:OA) (k2C:Nat) (az2:List RA) (c2A:OA) (c2C:Nat) (b2A:OA) (b2C:Nat) (sl2A:OA) (sl2C:Nat) (dr2A:OA) (dr2C:Nat) (ha2:List cD) (he2A:OA) (he2C:Nat) (hin:iL r az ha) (hin2:iL q az2 ha2) (hsm: ¬ lQ r) (hsm2: ¬ lQ q):
 dA Tryz.prog 20 [(vA (cW.cells (vx r kA kC cA cC bA bC slA slC drA drC heA heC))),(vA (cW.cells (cW.mk (cm.mk (bL.mk (bE.mk k2A q.ao.aO.length k2C)) q.ao.hU (bE.mk c2A q.ao.aj.length c2C) (bE.mk b2A q.ao.ab.length b2C) q.ao.cd q.ao.fK q.ao.dC) (bE.mk sl2A q.aV.length sl2C) (bE.mk dr2A q.bV.length dr2C) q.j9 (bE.mk he2A q.av.length he2C))))] [(rd kA r.ao.aO.length 9 (r.ao.aO.map au.cells)),(rd cA r.ao.aj.length 2 (List.zipWith ax.cells r.ao.aj az)),(dE (bg ax.e_ r.ao.aj az)),(rd bA r.ao.ab.length 4 (r.ao.ab.map bK.cells)),(rd slA r.aV.length 1 (r.aV.map iC)),(rd drA r.bV.length 1 (r.bV.map iC)),(rd heA r.av.length 1 (List.zipWith bW r.av ha)),(dE (bg er r.av ha)),(rd k2A q.ao.aO.length 9 (q.ao.aO.map au.cells)),(rd c2A q.ao.aj.length 2 (List.zipWith ax.cells q.ao.aj az2)),(dE (bg ax.e_ q.ao.aj az2)),(rd b2A q.ao.ab.length 4 (q.ao.ab.map bK.cells)),(rd sl2A q.aV.length 1 (q.aV.map iC)),(rd dr2A q.bV.length 1 (q.bV.map iC)),(rd he2A q.av.length 1 (List.zipWith bW q.av ha2)),(dE (bg er q.av ha2))] (vB (decide (r=q))):=by
 have W:=hin.line
 have Do:=hin.g6
 have EQ:=hin.has
 have Df:=hin.g7
 have Cx:=hin.draw
 have Di:=iI (r:=r)
 have hline2:=hin2.line
 have C1:=hin2.g6
 have C3:=hin2.has
 have Cp:=hin2.g7
 have B3:=hin2.draw
 have AO:=AB hsm
 have Ab:=AB hsm2
 refine bJ kr Tryz.func20 U U fun w0 Q hQ hN=>?_
 try dsimp only
 refine WS fun _ A4=>eG U fun b2=>eG U fun b3=>bI 1 U<|RK A4<|aq fun _ A5=>WS fun _ P=>bI 1 U<|rS (LP (cm.cells (jR r.ao kA kC cA cC bA bC)) 1 U bU U U U)<|bI 1 U<|rS (LP (cm.cells (cm.mk (bL.mk (bE.mk k2A q.ao.aO.length k2C)) q.ao.hU (bE.mk c2A q.ao.aj.length c2C) (bE.mk b2A q.ao.ab.length b2C) q.ao.cd q.ao.fK q.ao.dC)) 0 U bU U U U)<|rS (CL (NM r.ao kA kC az cA cC bA bC q.ao k2A k2C az2 c2A c2C b2A b2C (by exact W) (by exact hline2) (by exact AO.1) (by exact Ab.1)) (bk [2,3,4,5,10,11,12,13]) U)<|rP 2 [] mn ?_
 refine bT (t:=13) U (aW fun D=>?_) (aY fun D=>?_)
 ·refine bI 31 U<|RK P<|aN U<|WS fun _ A6=>rP 1 [] mn ?_
  refine RK A6<|ar<|Q1 hQ U U U ?_
  first|exact cB (bj (fun e=>by cases e; first|exact D rfl|exact E rfl|exact F rfl|exact G rfl|exact M rfl)).symm|exact cB (cO (lB D E F G (cR I C I))).symm|exact cB (bj (fun z=>by cases z; rw [H] at A; cases A; first|omega|(rw [hd] at B; cases B; exact L rfl))).symm
 refine rP 4 [0,1] (mc 1 U (mc 0 U mn)) ?_
 refine rS (CL (q6 r.aV slA slC q.aV sl2A sl2C sd sd) (bk [6,14]) U) ?_
 refine rP 3 [] mn ?_
 refine bT (t:=21) U (aW fun E=>?_) (aY fun E=>?_)
 ·refine bI 23 U<|RK P<|aN U<|WS fun _ A7=>rP 1 [] mn ?_
  refine RK A7<|ar<|Q1 hQ U U U ?_
  first|exact cB (bj (fun e=>by cases e; first|exact D rfl|exact E rfl|exact F rfl|exact G rfl|exact M rfl)).symm|exact cB (cO (lB D E F G (cR I C I))).symm|exact cB (bj (fun z=>by cases z; rw [H] at A; cases A; first|omega|(rw [hd] at B; cases B; exact L rfl))).symm
 refine rP 4 [0,1] (mc 1 U (mc 0 U mn)) ?_
 refine rS (CL (q6 r.bV drA drC q.bV dr2A dr2C sd sd) (bk [7,15]) U) ?_
 refine rP 3 [] mn ?_
 refine bT (t:=29) U (aW fun F=>?_) (aY fun F=>?_)
 ·refine bI 15 U<|RK P<|aN U<|WS fun _ A8=>rP 1 [] mn ?_
  refine RK A8<|ar<|Q1 hQ U U U ?_
  first|exact cB (bj (fun e=>by cases e; first|exact D rfl|exact E rfl|exact F rfl|exact G rfl|exact M rfl)).symm|exact cB (cO (lB D E F G (cR I C I))).symm|exact cB (bj (fun z=>by cases z; rw [H] at A; cases A; first|omega|(rw [hd] at B; cases B; exact L rfl))).symm
 refine rP 7 [0,1] (mc 1 U (mc 0 U mn)) ?_
 refine bT (t:=36) U (aW fun G=>?_) (aY fun G=>?_)
 ·refine bI 8 U<|RK P<|aN U<|WS fun _ A9=>rP 1 [] mn ?_
  refine RK A9<|ar<|Q1 hQ U U U ?_
  first|exact cB (bj (fun e=>by cases e; first|exact D rfl|exact E rfl|exact F rfl|exact G rfl|exact M rfl)).symm|exact cB (cO (lB D E F G (cR I C I))).symm|exact cB (bj (fun z=>by cases z; rw [H] at A; cases A; first|omega|(rw [hd] at B; cases B; exact L rfl))).symm
 refine rP 8 [0,1] (mc 1 U (mc 0 U mn)) ?_
 refine RK P<|ck U (aW fun M=>?_) (aY fun M=>?_)
 ·refine WS fun _ Z=>rP 1 [] mn ?_
  refine RK Z<|ar<|Q1 hQ U U U ?_
  first|exact cB (bj (fun e=>by cases e; first|exact D rfl|exact E rfl|exact F rfl|exact G rfl|exact M rfl)).symm|exact cB (cO (lB D E F G (cR I C I))).symm|exact cB (bj (fun z=>by cases z; rw [H] at A; cases A; first|omega|(rw [hd] at B; cases B; exact L rfl))).symm
 refine WK A5<|aq fun _ a=>WS fun _ b=>rP 1 [] mn ?_
 refine RK b<|aH ?_
 have J:(0≤r.av.length)∧(r.av.take 0=q.av.take 0):=by exact ⟨Nat.zero_le _,rfl⟩
 refine bS (ι:={z:Nat // (z≤r.av.length)∧(r.av.take z=q.av.take z)}) [2,3] [0,1,2,3,4,5,6,7,8,9,10,11,12,13,14,15,16,17] U U (fun z=>[(5,(vI (z.1:Int)))]) (fun z=>[]) (fun _=>rfl) (fun _=>rfl) (fun z=>r.av.length-z.1) ⟨0,J⟩ (bD U) (aR [0,1,2,3,4,5,6,7,8,9,10,11,12,13,14,15,16,17]) ?_
 clear J
 rintro ⟨h,⟨Ci,C⟩⟩ J13 X
 try dsimp only
 refine aq fun _ c=>WS fun _ f=>rP 5 [] (mc 1 U mn) ?_
 refine RK f<|bR U (aU fun A1=>?_) (aT fun A1=>?_)
 ·refine bQ<|ag<|ag<|aI<|KK a<|WS fun _ v=>rP 1 [] mn ?_
  refine RK v<|ar<|Q1 hQ U U U ?_
  first|exact cB (bj (fun e=>by cases e; first|exact D rfl|exact E rfl|exact F rfl|exact G rfl|exact M rfl)).symm|exact cB (cO (lB D E F G (cR I C I))).symm|exact cB (bj (fun z=>by cases z; rw [H] at A; cases A; first|omega|(rw [hd] at B; cases B; exact L rfl))).symm
 refine WK c<|aq fun _ g=>aH<|aq fun _ j=>aq fun _ k=>cU cg 13 kr<|dP 3 [] (mc 1 U mn) ?_
 obtain ⟨ht,H⟩:=aC r.av h I
 obtain ⟨AD,N⟩:=aC ha h I
 have R:(List.zipWith bW r.av ha)[h]? =some (bW ht AD):=cv H N
 refine dS (IA h U (ay 8 U) j7 dc I I)<|dS (gD h 0 (vS AD.1.1 ht.length AD.1.2) U bU (ay 8 U) R U dc U)<|dP 4 [] (mc 0 U mn) ?_
 obtain ⟨hu,A⟩:=aC q.av h I
 obtain ⟨K,O⟩:=aC ha2 h I
 have V:(List.zipWith bW q.av ha2)[h]? =some (bW hu K):=cv A O
 refine dS (IA h U (ay 16 U) j7 dc I I)<|dS (gD h 0 (vS K.1.1 hu.length K.1.2) U bU (ay 16 U) V U dc U)<|dP 1 [] mn ?_
 have A0:=hin.eo _ _ _ H N
 have C0:=A0.lz
 have AA:=hin2.eo _ _ _ A O
 have B9:=AA.lz
 have C2:=AO.2.2.2.2 ht (aM H)
 refine dP 1 [] mn ?_
 refine cx<|RK k<|ck U (aW fun A3=>?_) (aY fun A3=>?_)
 ·refine WS fun _ l=>rP 1 [] mn ?_
  refine RK l<|ar<|Q1 hQ U U U ?_
  first|exact cB (bj (fun e=>by cases e; first|exact D rfl|exact E rfl|exact F rfl|exact G rfl|exact M rfl)).symm|exact cB (cO (lB D E F G (cR I C I))).symm|exact cB (bj (fun z=>by cases z; rw [H] at A; cases A; first|omega|(rw [hd] at B; cases B; exact L rfl))).symm
 refine WK j<|WS fun _ m=>rP 1 [] mn ?_
 refine RK m<|aH ?_
 have J:(0≤ht.length)∧(ht.take 0=hu.take 0):=by exact ⟨Nat.zero_le _,rfl⟩
 refine bS (ι:={z:Nat // (z≤ht.length)∧(ht.take z=hu.take z)}) [2,3,5] [0,1,2,3,4,5,6,7,8,9,10,11,12,13,14,15,16,17] U U (fun z=>[(6,(vI (z.1:Int)))]) (fun z=>[]) (fun _=>rfl) (fun _=>rfl) (fun z=>ht.length-z.1) ⟨0,J⟩ (bD U) (aR [0,1,2,3,4,5,6,7,8,9,10,11,12,13,14,15,16,17]) ?_
 clear J
 rintro ⟨i,⟨Ck,S⟩⟩ J22 Y
 try dsimp only
 refine aq fun _ n=>WS fun _ o=>eV 4 [] (mc 1 U mn) U<|rS (IA h U (ay 8 U) j7 dc I I)<|rS (gD h 0 (vS AD.1.1 ht.length AD.1.2) U bU (ay 8 U) R U dc U)<|rP 2 [] mn ?_
 refine RK o<|bR U (aU fun A2=>?_) (aT fun A2=>?_)
 ·refine bQ<|ag<|ag<|aI<|aP<|KK g<|aw<|rP 3 [] mn ?_
  refine aK ?_
  have x:(vI (((h+1):Nat):Int))=(vI ((h:Int)+1)):=by exact cI I
  refine bu (X ⟨(h+1),⟨I,iY C H A (cR I S I)⟩⟩ _ _ _ U os (dp.cons U<|dp.cons U<|bw U x<|dp.nil _) (aR [0,1,2,3,4,5,6,7,8,9,10,11,12,13,14,15,16,17]))
 refine WK n<|aq fun _ p=>aH<|aq fun _ s=>cU cg 18 kr<|kv 3 [] (mc 1 U mn) U<|dS (IA h U (ay 8 U) j7 dc I I)<|dS (gD h 0 (vS AD.1.1 ht.length AD.1.2) U bU (ay 8 U) R U dc U)<|dP 1 [] mn ?_
 obtain ⟨d,hd⟩:=aC ht i I
 obtain ⟨da,y⟩:=aC AD.2 i I
 have Bh:(List.zipWith ak.cells ht AD.2)[i]? =some (ak.cells d da):=cv hd y
 refine dS (IA i U (show fY _ (rd AD.1.1 ht.length 7 (List.zipWith ak.cells ht AD.2)).holds from (bY 9 U (a_ H N bX))) mJ dc I I)<|dS (jE i 0 (aG.cells (aG.mk d.Out d.cJ d.Time (cL.mk d.aX.Start d.aX.gj (bE.mk da.1 d.aX.aa.length da.2)))) U bU (show fY _ (rd AD.1.1 ht.length 7 (List.zipWith ak.cells ht AD.2)).holds from (bY 9 U (a_ H N bX))) Bh U dc U U)<|kv 3 [] (mc 0 U mn) U<|dS (IA h U (ay 16 U) j7 dc I I)<|dS (gD h 0 (vS K.1.1 hu.length K.1.2) U bU (ay 16 U) V U dc U)<|dP 1 [] mn ?_
 obtain ⟨e,B⟩:=aC hu i I
 obtain ⟨ea,T⟩:=aC K.2 i I
 have AC:(List.zipWith ak.cells hu K.2)[i]? =some (ak.cells e ea):=cv B T
 refine dS (IA i U (show fY _ (rd K.1.1 hu.length 7 (List.zipWith ak.cells hu K.2)).holds from (bY 17 U (a_ A O bX))) mJ dc I I)<|dS (jE i 0 (aG.cells (aG.mk e.Out e.cJ e.Time (cL.mk e.aX.Start e.aX.gj (bE.mk ea.1 e.aX.aa.length ea.2)))) U bU (show fY _ (rd K.1.1 hu.length 7 (List.zipWith ak.cells hu K.2)).holds from (bY 17 U (a_ A O bX))) AC U dc U U)<|dS (CL (n7 d da.1 da.2 e ea.1 ea.2 (by exact A0.sig d (aM hd)) (by exact AA.sig e (aM B))) (aD (show fY _ (rd da.1 d.aX.aa.length 2 (d.aX.aa.map aF.cells)).holds from (bY 9 U (a_ H N (dh _ (a_ hd y (by simp [ak.e_]))))))<|aD (show fY _ (rd ea.1 e.aX.aa.length 2 (e.aX.aa.map aF.cells)).holds from (bY 17 U (a_ A O (dh _ (a_ B T (by simp [ak.e_]))))))<|aL) U)<|dP 1 [] mn ?_
 refine cx<|RK s<|bR U (aY fun L=>?_) (aW fun L=>?_)
 ·refine cj<|aP<|KK p<|aw<|rP 3 [] mn ?_
  refine aK ?_
  have w:(vI (((i+1):Nat):Int))=(vI ((i:Int)+1)):=by exact cI I
  refine bu (Y ⟨(i+1),⟨I,iY S hd B L⟩⟩ _ _ _ U os (cP 3<|bw U w<|dp.nil _) (aR [0,1,2,3,4,5,6,7,8,9,10,11,12,13,14,15,16,17]))
 refine WS fun _ u=>rP 1 [] mn ?_
 refine RK u<|ar<|Q1 hQ U U U ?_
 first|exact cB (bj (fun e=>by cases e; first|exact D rfl|exact E rfl|exact F rfl|exact G rfl|exact M rfl)).symm|exact cB (cO (lB D E F G (cR I C I))).symm|exact cB (bj (fun z=>by cases z; rw [H] at A; cases A; first|omega|(rw [hd] at B; cases B; exact L rfl))).symm
end
section
open Go.RowKit
theorem IQ (n lo hi:Int) (g1 g2:Nat):
 dA Tryz.prog 77 [(vI n),(vP g1),(vP g2)] [(cz g1 3 [(vI lo)]),(cz g2 3 [(vI hi)])] (vB (decide (n<lo∨hi<n))):=by
 refine bJ kr Tryz.func77 U U fun D Q hQ hN=>?_
 try dsimp only
 refine WS fun _ B=>bI 1 U<|RK B<|WS fun _ A=>rP 4 [] (mr 0 U mn) ?_
 refine bT (t:=8) U (aT fun C=>?_) (aU fun C=>?_)
 ·refine rP 5 [] mn ?_
  refine RK A<|ar<|Q1 hQ U U U ?_
  exact cB (cO I).symm
 refine rP 5 [] (mr 1 U mn) ?_
 refine RK A<|ar<|Q1 hQ U U U ?_
 exact cB (gV.2 I)
theorem ik (lo hi:Int) (l:List Int) (lA:OA) (lC:Nat) (hlen:l.length≤1000000):
 dA Tryz.prog 48 [(vI lo),(vI hi),(vS lA l.length lC)] [(rd lA l.length 1 (l.map iC))] (vB (o4 lo hi l)):=by
 refine bJ kr Tryz.func48 U U fun F Q hQ hN=>?_
 try dsimp only
 refine WS fun _ D=>wO U U fun A=>wO U U fun B=>bI 1 U<|RK D<|WS fun _ E=>rP 1 [] mn ?_
 refine rS (FU U) ?_
 refine rS (CL (qt l lA lC (Value.func (.func 77) [].toArray [(vP A),(vP B)].toArray) (fun C=>(decide (C<lo∨hi<C))) (dE [(cz A 3 [(vI lo)]),(cz B 3 [(vI hi)])]) (by intro C _; exact k9 (fi:=[]) (ca:=[(vP A),(vP B)]) (j3 (IQ C lo hi A B) (bk [0,1]))) hlen) (dM 2 U U<|aD (j2 (bk [1,0]))<|aL) U) ?_
 refine rP 2 [] mn ?_
 refine RK E<|ar ?_
 exact Q1 hQ U U U U
theorem tU (o fx:Bool) (tm:ai) (rv:cL):
 dA Tryz.prog 69 [(vA (aG.cells (aG.mk o fx tm rv)))] [] (vB (decide (o=false∧fx=false))):=by
 refine bJ kr Tryz.func69 U U fun E Q hQ hN=>?_
 try dsimp only
 refine WS fun _ B=>eG U fun D=>bI 1 U<|RK B<|WS fun _ A=>rP 4 [] (mc 0 U mn) ?_
 refine cG (t:=6) U (fun C=>?_) (fun C=>?_)
 ·rw [Bool.not_eq_false'] at C
  refine rP 5 [] mn ?_
  refine RK A<|ar<|Q1 hQ U U U ?_
  clear hQ hN A B
  refine cB ?_
  (simp_all; done)
 rw [Bool.not_eq_true'] at C
 refine rP 5 [] (mc 0 U mn) ?_
 refine RK A<|ar<|Q1 hQ U U U ?_
 clear hQ hN A B
 refine cB ?_
 (simp_all; done)
theorem MG (l:List aZ) (lA:OA) (lC:Nat) (f:Value) (p:Int→aZ→Bool) (X:aA) (hf: ∀ x0 x1,(∃ i_:Nat,x0=(i_:Int)∧l[i_]? =some x1)→Ev Tryz.prog f [.int .i64 x0,.agg (aZ.cells x1).toArray] [X] (.bool (p x0 x1))) (hlen:l.length≤1000000):
 nz Tryz.prog 67 [(vS lA l.length lC),f] [(rd lA l.length 4 (l.map aZ.cells)),X] (fun (x:(OA)×Nat)=>(vS x.1 ((l_ (iu l p) l.length).length) x.2)) (fun (x:(OA)×Nat)=>True) (fun (x:(OA)×Nat)=>[(own x.1 x.2 3 1 ((l_ (iu l p) l.length).map iC))]):=by
 refine eO kr Tryz.func67 U U fun Z Q hQ hN=>?_
 try dsimp only
 refine WS fun _ M=>bI 1 U<|RK M<|WS fun _ N=>bI 1 U<|RK N<|aq fun _ O=>WS fun _ R=>rP 3 [] mn ?_
 refine RK R<|aH<|eX 3 1 ?_
 have A:(0≤l.length):=by exact Nat.zero_le _
 refine bS (ι:={z:Nat×(OA)×Nat // (z.1≤l.length)}) [1,8,9] [1,2] U U (fun z=>[(5,(vS z.1.2.1 ((l_ (iu l p) z.1.1).length) z.1.2.2)),(10,(vI (z.1.1:Int)))]) (fun z=>[(own z.1.2.1 z.1.2.2 3 1 ((l_ (iu l p) z.1.1).map iC))]) (fun _=>rfl) (fun _=>rfl) (fun z=>l.length-z.1.1) ⟨(0,none,0),A⟩ (bD U) (aR [1,2,0]) ?_
 clear A
 rintro ⟨⟨i,a,c⟩,C⟩ J5 D
 try dsimp only at C
 try dsimp only
 refine WS fun _ S=>rP 1 [] mn ?_
 refine RK S<|aq fun _ T=>bR U (aU fun Y=>?_) (aT fun Y=>?_)
 ·refine bQ<|ag<|ag<|aI<|KK O<|WS fun _ G=>?_
  rw [show (l_ (iu l p) i)=(l_ (iu l p) l.length) from by rw [show i=l.length by omega]]
  refine rP 2 [] mn ?_
  refine RK G<|ar<|LX hQ (a,c) [2] [] mn U U U U ?_
  trivial
 refine WK T<|aq fun _ H=>aH<|WS fun _ E=>rP 1 [] mn ?_
 obtain ⟨x,hx⟩:=aC l i I
 have AA:=bO aZ.cells hx
 refine rS (IA i U (ay 0 U) Br dc I I)<|rS (jE i 0 (aZ.cells x) U bU (ay 0 U) AA U dc U U)<|AL U QR fun V=>bI 1 U<|eN U SC U<|RK E<|WS fun _ F=>rP 3 [] (mc 0 U mn) ?_
 refine rS (SX (qj U U U (hf (i:Int) x ⟨_,U,hx⟩) (bk [2])) U U)<|RK F<|bR U (fun B=>?_) (fun B=>?_)
 ·refine cj<|aP<|KK H<|aw<|rP 2 [] mn ?_
  refine aK ?_
  rw [show l_ (iu l p) i=l_ (iu l p) (i+1) from (s8 (by rw [si hx]; simpa using B)).symm]
  have J:(vI (((i+1):Nat):Int))=(vI ((i:Int)+1)):=by exact cI I
  refine bu (D ⟨((i+1),a,c),(by first|omega|(simp only []; omega))⟩ _ _ _ U os (cP 4<|bw U J<|dp.nil _) (aR [1,2,3]))
 refine aw<|rP 2 [] mn ?_
 refine eu (xs:=[.tmp 20]) (cs:=[(vI (i:Int))]) U dy j8 U U U U (by simp [Value.cells]) U U fun W=>?_
 refine eh (es2:=(List.map iC (l_ (iu l p) (i+1)))) (m':=(l_ (iu l p) (i+1)).length) 4 U U U tj U U sm (bx (es:=List.map iC [(i:Int)]) 0 U U (by simp [bP]) U) (lU _) (by have:=qs (P:=iu l p) (n:=i); omega) (by have:=qs (P:=iu l p) (n:=i); simp only [maxLen]; omega) (by rw [yq (by rw [si hx]; exact B)]; simp) sm U fun K L=>?_
 try dsimp only
 refine bI 1 U<|aK<|aP<|KK H<|aw<|rP 2 [] mn ?_
 refine aK ?_
 have AB:(vI (((i+1):Nat):Int))=(vI ((i:Int)+1)):=by exact cI I
 refine bu (D ⟨((i+1),K,L),(by first|omega|(simp only []; omega))⟩ _ _ _ U os (cP 4<|bw U AB<|dp.nil _) (aR [2,3,4]))
theorem zZ (l:List br) (lA:OA) (lC:Nat) (f:Value) (p:Int→br→Bool) (X:aA) (hf: ∀ x0 x1,(∃ i_:Nat,x0=(i_:Int)∧l[i_]? =some x1)→Ev Tryz.prog f [.int .i64 x0,.agg (br.cells x1).toArray] [X] (.bool (p x0 x1))) (hlen:l.length≤1000000):
 nz Tryz.prog 41 [(vS lA l.length lC),f] [(rd lA l.length 5 (l.map br.cells)),X] (fun (x:(OA)×Nat)=>(vS x.1 ((l_ (iu l p) l.length).length) x.2)) (fun (x:(OA)×Nat)=>True) (fun (x:(OA)×Nat)=>[(own x.1 x.2 3 1 ((l_ (iu l p) l.length).map iC))]):=by
 refine eO kr Tryz.func41 U U fun Z Q hQ hN=>?_
 try dsimp only
 refine WS fun _ M=>bI 1 U<|RK M<|WS fun _ N=>bI 1 U<|RK N<|aq fun _ O=>WS fun _ R=>rP 3 [] mn ?_
 refine RK R<|aH<|eX 3 1 ?_
 have A:(0≤l.length):=by exact Nat.zero_le _
 refine bS (ι:={z:Nat×(OA)×Nat // (z.1≤l.length)}) [1,8,9] [1,2] U U (fun z=>[(5,(vS z.1.2.1 ((l_ (iu l p) z.1.1).length) z.1.2.2)),(10,(vI (z.1.1:Int)))]) (fun z=>[(own z.1.2.1 z.1.2.2 3 1 ((l_ (iu l p) z.1.1).map iC))]) (fun _=>rfl) (fun _=>rfl) (fun z=>l.length-z.1.1) ⟨(0,none,0),A⟩ (bD U) (aR [1,2,0]) ?_
 clear A
 rintro ⟨⟨i,a,c⟩,C⟩ J5 D
 try dsimp only at C
 try dsimp only
 refine WS fun _ S=>rP 1 [] mn ?_
 refine RK S<|aq fun _ T=>bR U (aU fun Y=>?_) (aT fun Y=>?_)
 ·refine bQ<|ag<|ag<|aI<|KK O<|WS fun _ G=>?_
  rw [show (l_ (iu l p) i)=(l_ (iu l p) l.length) from by rw [show i=l.length by omega]]
  refine rP 2 [] mn ?_
  refine RK G<|ar<|LX hQ (a,c) [2] [] mn U U U U ?_
  trivial
 refine WK T<|aq fun _ H=>aH<|WS fun _ E=>rP 1 [] mn ?_
 obtain ⟨x,hx⟩:=aC l i I
 have AA:=bO br.cells hx
 refine rS (IA i U (ay 0 U) DK dc I I)<|rS (jE i 0 (br.cells x) U bU (ay 0 U) AA U dc U U)<|AL U FB fun V=>bI 1 U<|eN U Ly U<|RK E<|WS fun _ F=>rP 3 [] (mc 0 U mn) ?_
 refine rS (SX (qj U U U (hf (i:Int) x ⟨_,U,hx⟩) (bk [2])) U U)<|RK F<|bR U (fun B=>?_) (fun B=>?_)
 ·refine cj<|aP<|KK H<|aw<|rP 2 [] mn ?_
  refine aK ?_
  rw [show l_ (iu l p) i=l_ (iu l p) (i+1) from (s8 (by rw [si hx]; simpa using B)).symm]
  have J:(vI (((i+1):Nat):Int))=(vI ((i:Int)+1)):=by exact cI I
  refine bu (D ⟨((i+1),a,c),(by first|omega|(simp only []; omega))⟩ _ _ _ U os (cP 4<|bw U J<|dp.nil _) (aR [1,2,3]))
 refine aw<|rP 2 [] mn ?_
 refine eu (xs:=[.tmp 20]) (cs:=[(vI (i:Int))]) U dy j8 U U U U (by simp [Value.cells]) U U fun W=>?_
 refine eh (es2:=(List.map iC (l_ (iu l p) (i+1)))) (m':=(l_ (iu l p) (i+1)).length) 4 U U U tj U U sm (bx (es:=List.map iC [(i:Int)]) 0 U U (by simp [bP]) U) (lU _) (by have:=qs (P:=iu l p) (n:=i); omega) (by have:=qs (P:=iu l p) (n:=i); simp only [maxLen]; omega) (by rw [yq (by rw [si hx]; exact B)]; simp) sm U fun K L=>?_
 try dsimp only
 refine bI 1 U<|aK<|aP<|KK H<|aw<|rP 2 [] mn ?_
 refine aK ?_
 have AB:(vI (((i+1):Nat):Int))=(vI ((i:Int)+1)):=by exact cI I
 refine bu (D ⟨((i+1),K,L),(by first|omega|(simp only []; omega))⟩ _ _ _ U os (cP 4<|bw U AB<|dp.nil _) (aR [2,3,4]))
end
section
open Go.RowKit
theorem Lv (i:Int) (f:aZ) (j:cS) (kA:OA) (kC:Nat) (cA:OA) (cC:Nat) (bA:OA) (bC:Nat) (slA:OA) (slC:Nat) (drA:OA) (drC:Nat) (heA:OA) (heC:Nat) (faA:OA) (faC:Nat) (prA:OA) (prC g1:Nat) (hk:0≤f.Kind∧f.Kind≤255):
 dA Tryz.prog 68 [(vI i),(vA (aZ.cells f)),(vP g1)] [(cz g1 36 (gh.cells (nq j kA kC cA cC bA bC slA slC drA drC heA heC faA faC prA prC)))] (vB (decide (¬ oT j.Race.ao.cd f))):=by
 refine bJ kr Tryz.func68 U U fun V Q hQ hN=>?_
 try dsimp only
 refine WS fun _ N=>eG U fun AA=>bI 1 U<|RK N<|WS fun _ O=>eV 5 [] (mr 1 U mn) U<|RK O<|aq fun _ D=>WS fun _ P=>rP 2 [] (mc 0 U mn) ?_
 refine rS (BI U m_)<|RK P<|bR U (aU fun A=>?_) (aT fun A=>?_)
 ·refine WK D<|WS fun _ B=>rP 2 [] (mc 0 U mn) ?_
  refine rS (SX (ow (m:=f.Kind) U U HT qu (lx (by first|assumption|omega))) U U)<|eu (xs:=[.tmp 16]) (cs:=[(vI f.Kind)]) U dy j8 U U U U (by simp [Value.cells]) U U fun F=>?_
  refine rS (CL (dA.eq (ik 1 3 ([f.Kind]) (some ⟨F,0,none⟩) 1 (by (simp; done))) cy) (aD (bx 0 U U (by simp [bP]) U)<|aL) U) ?_
  refine rP 2 [] mn ?_
  refine bT (t:=20) U (aW fun K=>?_) (aY fun K=>?_)
  ·refine rP 24 [] mn ?_
   refine RK B<|ar<|Q1 hQ U U U ?_
   (refine cB (cO ?_).symm; (rw [tY A]; omega))
  refine rP 4 [] (mc 1 U mn) ?_
  refine eu (xs:=[.tmp 22,.tmp 24]) (cs:=[(vI f.mY),(vI f.To)]) U dy j8 U U U U (by simp [Value.cells]) U U fun G=>?_
  refine rS (CL (dA.eq (ik 0 86400000 ([f.mY,f.To]) (some ⟨G,0,none⟩) 2 (by (simp; done))) o7) (aD (bx 0 U U (by simp [bP]) U)<|aL) U) ?_
  refine rP 3 [] mn ?_
  refine bT (t:=29) U (aW fun L=>?_) (aY fun L=>?_)
  ·refine rP 15 [] mn ?_
   refine RK B<|ar<|Q1 hQ U U U ?_
   (refine cB (cO ?_).symm; (rw [tY A]; omega))
  refine rP 7 [] (mc 2 U mn) ?_
  refine bT (t:=36) U (aT fun M=>?_) (aU fun M=>?_)
  ·refine rP 8 [] mn ?_
   refine RK B<|ar<|Q1 hQ U U U ?_
   (refine cB (cO ?_).symm; (rw [tY A]; omega))
  refine rP 3 [] (mc 2 U mn) ?_
  refine eu (xs:=[.tmp 39]) (cs:=[(vI f.ig)]) U dy j8 U U U U (by simp [Value.cells]) U U fun H=>?_
  refine rS (CL (dA.eq (ik 0 j.Race.ao.cd ([f.ig]) (some ⟨H,0,none⟩) 1 (by (simp; done))) cy) (aD (bx 0 U U (by simp [bP]) U)<|aL) U) ?_
  refine rP 3 [] mn ?_
  refine RK B<|ar<|Q1 hQ U U U ?_
  (refine cB (decide_not.symm.trans (gV.2 ?_)); (rw [tY A]; omega))
 refine aw<|bI 1 U<|RK D<|WS fun _ C=>rP 2 [] (mc 0 U mn) ?_
 refine rS (SX (ow (m:=f.Kind) U U HT qu (lx (by first|assumption|omega))) U U)<|eu (xs:=[.tmp 16]) (cs:=[(vI f.Kind)]) U dy j8 U U U U (by simp [Value.cells]) U U fun R=>?_
 refine rS (CL (dA.eq (ik 1 3 ([f.Kind]) (some ⟨R,0,none⟩) 1 (by (simp; done))) cy) (aD (bx 0 U U (by simp [bP]) U)<|aL) U) ?_
 refine rP 2 [] mn ?_
 refine bT (t:=20) U (aW fun T=>?_) (aY fun T=>?_)
 ·refine rP 24 [] mn ?_
  refine RK C<|ar<|Q1 hQ U U U ?_
  (refine cB (cO ?_).symm; (rw [uC A]; omega))
 refine rP 4 [] (mc 1 U mn) ?_
 refine eu (xs:=[.tmp 22,.tmp 24]) (cs:=[(vI f.mY),(vI f.To)]) U dy j8 U U U U (by simp [Value.cells]) U U fun S=>?_
 refine rS (CL (dA.eq (ik 0 86400000 ([f.mY,f.To]) (some ⟨S,0,none⟩) 2 (by (simp; done))) o7) (aD (bx 0 U U (by simp [bP]) U)<|aL) U) ?_
 refine rP 3 [] mn ?_
 refine bT (t:=29) U (aW fun AB=>?_) (aY fun AB=>?_)
 ·refine rP 15 [] mn ?_
  refine RK C<|ar<|Q1 hQ U U U ?_
  (refine cB (cO ?_).symm; (rw [uC A]; omega))
 refine rP 7 [] (mc 2 U mn) ?_
 refine bT (t:=36) U (aT fun J=>?_) (aU fun J=>?_)
 ·refine rP 8 [] mn ?_
  refine RK C<|ar<|Q1 hQ U U U ?_
  (refine cB (cO ?_).symm; (rw [uC A]; omega))
 refine rP 3 [] (mc 2 U mn) ?_
 refine eu (xs:=[.tmp 39]) (cs:=[(vI f.ig)]) U dy j8 U U U U (by simp [Value.cells]) U U fun E=>?_
 refine rS (CL (dA.eq (ik 0 0 ([f.ig]) (some ⟨E,0,none⟩) 1 (by (simp; done))) cy) (aD (bx 0 U U (by simp [bP]) U)<|aL) U) ?_
 refine rP 3 [] mn ?_
 refine RK C<|ar<|Q1 hQ U U U ?_
 (refine cB (decide_not.symm.trans (gV.2 ?_)); (rw [uC A]; omega))
theorem uP (fk fw:Int) (ff ft:Int) (al ah:Int) (ae an:Bool) (bl bh:Int) (be bn:Bool):
 dA Tryz.prog 115 [(vA (aZ.cells (aZ.mk fk fw ff ft))),(vA (kG.cells (kG.mk (ai.mk al ah) ae an))),(vA (kG.cells (kG.mk (ai.mk bl bh) be bn)))] [] (vB (decide (ah≤ft∧ff≤bl))):=by
 refine bJ kr Tryz.func115 U U fun G Q hQ hN=>?_
 try dsimp only
 refine WS fun _ B=>eG U fun D=>eG U fun E=>eG U fun F=>bI 1 U<|RK B<|WS fun _ A=>rP 7 [0,1] (mc 1 U (mc 2 U mn)) ?_
 refine cG (t:=13) U (aU fun C=>?_) (aT fun C=>?_)
 ·refine rP 8 [] mn ?_
  refine RK A<|ar<|Q1 hQ U U U ?_
  exact cB (bj I).symm
 refine rP 8 [0,1] (mc 0 U (mc 2 U mn)) ?_
 refine RK A<|ar<|Q1 hQ U U U ?_
 exact cB (gV.2 I)
theorem FR (fk fw:Int) (ff ft:Int) (al ah:Int) (ae an:Bool) (bl bh:Int) (be bn:Bool):
 dA Tryz.prog 119 [(vA (aZ.cells (aZ.mk fk fw ff ft))),(vA (kG.cells (kG.mk (ai.mk al ah) ae an))),(vA (kG.cells (kG.mk (ai.mk bl bh) be bn)))] [] (vB (decide (ai.mk (max al ff) (min ah ft)=ai.mk al ah))):=by
 refine bJ kr Tryz.func119 U U fun F Q hQ hN=>?_
 try dsimp only
 refine WS fun _ A=>eG U fun C=>eG U fun D=>eG U fun E=>bI 1 U<|RK A<|WS fun _ B=>eV 5 [0,1] (mc 1 U (mc 2 U mn)) U<|rS (MX U)<|eV 5 [0,1] (mc 1 U (mc 2 U mn)) U<|rS (MN U)<|rS (SX (bq (xs:=[(0,.tmp 12),(1,.tmp 18)]) (cs:=(ai.cells (ai.mk (max al ff) (min ah ft)))) U U (bp gM U)) U U)<|bI 1 U<|rS (LP (ai.cells (ai.mk al ah)) 1 U bU U U U)<|rS (BI U (uS _ _ (ai.mk (max al ff) (min ah ft)) (ai.mk al ah)))<|rP 1 [] mn ?_
 refine RK B<|ar ?_
 exact Q1 hQ U U U U
theorem RB (j:cS) (kA:OA) (kC:Nat) (cA:OA) (cC:Nat) (bA:OA) (bC:Nat) (slA:OA) (slC:Nat) (drA:OA) (drC:Nat) (heA:OA) (heC:Nat) (faA:OA) (faC:Nat) (prA:OA) (prC:Nat) (fk fw:Int) (ff ft:Int):
 dA Tryz.prog 116 [(vA (df.cells (df.mk (nq j kA kC cA cC bA bC slA slC drA drC heA heC faA faC prA prC)))),(vA (aZ.cells (aZ.mk fk fw ff ft)))] [] (vT [(vI (-1)),(vI j.Race.ao.cd)]):=by
 refine bJ kr Tryz.func116 U U fun E Q hQ hN=>?_
 try dsimp only
 refine WS fun _ A=>eG U fun C=>eG U fun D=>bI 2 U<|RK A<|aq fun _ B=>cU cg 7 kr<|dP 7 [] (mc 1 U mn) ?_
 refine cx<|RK B<|ar<|Q2 hQ U U U U ?_
 rfl
theorem Rs (j:cS) (kA:OA) (kC:Nat) (cA:OA) (cC:Nat) (bA:OA) (bC:Nat) (slA:OA) (slC:Nat) (drA:OA) (drC:Nat) (heA:OA) (heC:Nat) (faA:OA) (faC:Nat) (prA:OA) (prC:Nat) (fk fw:Int) (ff ft:Int) (hw:0≤fw∧fw≤1000000):
 dA Tryz.prog 117 [(vA (df.cells (df.mk (nq j kA kC cA cC bA bC slA slC drA drC heA heC faA faC prA prC)))),(vA (aZ.cells (aZ.mk fk fw ff ft)))] [] (vT [(vI (fw-1)),(vI fw)]):=by
 refine bJ kr Tryz.func117 U U fun E Q hQ hN=>?_
 try dsimp only
 refine WS fun _ A=>eG U fun C=>eG U fun D=>rP 2 [] mn ?_
 refine RK A<|aq fun _ B=>cU cg 7 kr ?_
 try dsimp only
 refine dP 7 [] (mc 0 U mn) ?_
 refine cx<|RK B<|ar<|Q2 hQ U U U U ?_
 rfl
theorem Tb (j:cS) (kA:OA) (kC:Nat) (cA:OA) (cC:Nat) (bA:OA) (bC:Nat) (slA:OA) (slC:Nat) (drA:OA) (drC:Nat) (heA:OA) (heC:Nat) (faA:OA) (faC:Nat) (prA:OA) (prC:Nat) (fk fw:Int) (ff ft:Int):
 dA Tryz.prog 118 [(vA (df.cells (df.mk (nq j kA kC cA cC bA bC slA slC drA drC heA heC faA faC prA prC)))),(vA (aZ.cells (aZ.mk fk fw ff ft)))] [] (vT [(vI fw),(vI fw)]):=by
 refine bJ kr Tryz.func118 U U fun E Q hQ hN=>?_
 try dsimp only
 refine WS fun _ A=>eG U fun C=>eG U fun D=>bI 2 U<|RK A<|aq fun _ B=>cU cg 6 kr<|dP 6 [] (mc 0 U mn) ?_
 refine cx<|RK B<|ar<|Q2 hQ U U U U ?_
 rfl
theorem yJ:
 dA Tryz.prog 94 [] [] (vA ((fp.cells (fp.mk Value.nilFunc Value.nilFunc))++(fp.cells (fp.mk (Value.func (.func 116) [].toArray [].toArray) (Value.func (.func 115) [].toArray [].toArray)))++(fp.cells (fp.mk (Value.func (.func 117) [].toArray [].toArray) (Value.func (.func 115) [].toArray [].toArray)))++(fp.cells (fp.mk (Value.func (.func 118) [].toArray [].toArray) (Value.func (.func 119) [].toArray [].toArray))))):=by
 refine bJ kr Tryz.func94 U U fun E Q hQ hN=>?_
 try dsimp only
 refine WS fun _ A=>AL U Tl fun D=>RK A<|WS fun _ B=>bI 1 U<|RK B<|WS fun _ C=>bI 1 U<|rS (SX (bq (xs:=[(0,.func 116),(1,.tmp 2)]) (cs:=(fp.cells (fp.mk (Value.func (.func 116) [].toArray [].toArray) (Value.func (.func 115) [].toArray [].toArray)))) U U (bp K1 U)) U U)<|rP 1 [] mn ?_
 refine rS (SX (bq (xs:=[(0,.func 117),(1,.tmp 4)]) (cs:=(fp.cells (fp.mk (Value.func (.func 117) [].toArray [].toArray) (Value.func (.func 115) [].toArray [].toArray)))) U U (bp K1 U)) U U)<|rS (SX (bq (xs:=[(0,.func 118),(1,.func 119)]) (cs:=(fp.cells (fp.mk (Value.func (.func 118) [].toArray [].toArray) (Value.func (.func 119) [].toArray [].toArray)))) U U (bp K1 U)) U U)<|rS (SX (bq (xs:=[(1,.tmp 3),(2,.tmp 5),(3,.tmp 6)]) (cs:=((fp.cells (fp.mk Value.nilFunc Value.nilFunc))++(fp.cells (fp.mk (Value.func (.func 116) [].toArray [].toArray) (Value.func (.func 115) [].toArray [].toArray)))++(fp.cells (fp.mk (Value.func (.func 117) [].toArray [].toArray) (Value.func (.func 115) [].toArray [].toArray)))++(fp.cells (fp.mk (Value.func (.func 118) [].toArray [].toArray) (Value.func (.func 119) [].toArray [].toArray))))) U U (bp Ru U)) U U)<|eN U RV U<|RK C<|ar<|Dj hQ [0] (mc 0 U mn) U ?_
 rfl
theorem BO (l:List aZ) (lA:OA) (lC:Nat) (f:aZ) (hlen:l.length≤1000000):
 dA Tryz.prog 65 [(vS lA l.length lC),(vA (aZ.cells f))] [(rd lA l.length 4 (l.map aZ.cells))] (vI (oS l f)):=by
 refine bJ kr Tryz.func65 U U fun AA Q hQ hN=>?_
 try dsimp only
 refine WS fun _ J=>eG U fun T=>bI 1 U<|RK J<|aq fun _ K=>WS fun _ L=>rP 3 [] mn ?_
 refine RK L<|aH ?_
 have B:(0≤l.length)∧(∀ (q:Nat) y,q<0→l[q]? =some y→y≠f):=by exact ⟨Nat.zero_le _,fun q y hq=>absurd hq (Nat.not_lt_zero _)⟩
 refine bS (ι:={z:Nat // (z≤l.length)∧(∀ (q:Nat) y,q<z→l[q]? =some y→y≠f)}) [0,3,7] [0,1] U U (fun z=>[(8,(vI (z.1:Int)))]) (fun z=>[]) (fun _=>rfl) (fun _=>rfl) (fun z=>l.length-z.1) ⟨0,B⟩ (bD U) (aR [0,1]) ?_
 clear B
 rintro ⟨i,⟨P,A⟩⟩ J5 AB
 try dsimp only
 refine WS fun _ M=>rP 1 [] mn ?_
 refine RK M<|aq fun _ N=>bR U (aU fun S=>?_) (aT fun S=>?_)
 ·refine bQ<|ag<|ag<|aI<|KK K<|WS fun _ G=>rP 1 [] mn ?_
  refine RK G<|ar<|Q1 hQ U U U ?_
  exact cI (Nq A I).symm
 refine WK N<|aq fun _ O=>aH<|WS fun _ D=>bI 2 U<|RK D<|aq fun _ E=>cU cg 6 kr<|dP 3 [] (mc 0 U mn) ?_
 obtain ⟨x,hx⟩:=aC l i I
 have R:=bO aZ.cells hx
 refine dS (IA i U (ay 1 U) Br dc I I)<|dS (jE i 0 (aZ.cells x) U bU (ay 1 U) R U dc U U)<|dS (BI U (Rz _ _ f x))<|cx<|RK E<|ck U (aT fun C=>?_) (aU fun C=>?_)
 ·refine WS fun _ F=>rP 2 [] mn ?_
  refine RK F<|ar<|Q1 hQ U U U ?_
  exact cI (L9 hx C.symm A).symm
 refine cj<|aP<|KK O<|aw<|rP 2 [] mn ?_
 refine aK ?_
 have H:(vI (((i+1):Nat):Int))=(vI ((i:Int)+1)):=by exact cI I
 refine bu (AB ⟨(i+1),⟨I,fun q y hq hy=>by rcases Nat.lt_or_ge q i with c|c; exact A q y c hy; (obtain rfl:q=i:=by omega); rw [hx] at hy; cases hy; exact fun e=>C e.symm⟩⟩ _ _ _ rfl os (cP 3<|bw rfl H<|dp.nil _) (aR [0,1]))
end
section
open Go.RowKit
theorem RH (l:List Int) (lA:OA) (lC:Nat) (hne:1≤l.length) (hlen:l.length≤1000000):
 dA Tryz.prog 122 [(vS lA l.length lC)] [(rd lA l.length 1 (l.map iC))] (vI (pR l)):=by
 refine bJ kr Tryz.func122 U U fun V Q hQ hN=>?_
 try dsimp only
 refine WS fun _ L=>bI 1 U<|RK L<|aq fun _ M=>WS fun _ N=>rP 3 [] mn ?_
 refine RK N<|ck U (aT fun AA=>?_) (aU fun AA=>?_)
 ·exfalso; omega
 refine WK M<|WS fun _ O=>rP 1 [] mn ?_
 obtain ⟨AB,B⟩:=aC l 0 I
 have hx0m:=bO iC B
 refine rS (IA 0 U (ay 0 U) dy dc U I)<|rS (gD 0 0 (vI AB) U bU (ay 0 U) hx0m U dc U)<|bI 1 U<|RK O<|aq fun _ P=>WS fun _ R=>rP 1 [] mn ?_
 refine RK R<|aH ?_
 have A:(1≤1∧1≤l.length):=by omega
 have S:(vI (pR (l.take 1)))=(vI AB):=by rw [Gb B]
 refine bS (ι:={z:Nat // (1≤z∧z≤l.length)}) [0] [0] U U (fun z=>[(3,(vI (pR (l.take z.1)))),(4,(vI (z.1:Int)))]) (fun z=>[]) (fun _=>rfl) (fun _=>rfl) (fun z=>l.length-z.1) ⟨1,A⟩ (bw U S<|bD U) (aR [0]) ?_
 clear A
 rintro ⟨i,T⟩ J9 K
 try dsimp only
 refine aq fun _ C=>WS fun _ D=>rP 4 [] mn ?_
 refine RK D<|bR U (aU fun J=>?_) (aT fun J=>?_)
 ·refine bQ<|ag<|ag<|aI<|KK P<|WS fun _ F=>rP 2 [] mn ?_
  refine RK F<|ar<|Q1 hQ U U U ?_
  rw [List.take_of_length_le I]
 refine WK C<|aq fun _ E=>aH<|aw<|rP 3 [] mn ?_
 obtain ⟨AB,B⟩:=aC l i I
 have hx0m:=bO iC B
 refine rS (IA i U (ay 0 U) dy dc I I)<|rS (gD i 0 (vI AB) U bU (ay 0 U) hx0m U dc U)<|rS (MN U)<|bI 1 U<|aK<|aP<|KK E<|aw<|rP 3 [] mn ?_
 refine aK ?_
 have G:(vI (pR (l.take (i+1))))=(vI (min (pR (l.take i)) AB)):=by rw [JN B I]
 have H:(vI (((i+1):Nat):Int))=(vI ((i:Int)+1)):=by exact cI I
 refine bu (K ⟨(i+1),(by first|omega|(simp only []; omega))⟩ _ _ _ U os (dp.cons U<|bw U G<|bw U H<|dp.nil _) (aR [0]))
end
section
open Go.RowKit
theorem MW (l:bG) (kA:OA) (kC:Nat) (az:List RA) (cA:OA) (cC:Nat) (bA:OA) (bC:Nat) (r:de) (sgA:OA) (sgC:Nat) (hin:ej l az) (hsl:r.aa.length≤1000000):
 nz Tryz.prog 121 [(vA (cm.cells (jR l kA kC cA cC bA bC))),(vA (cL.cells (iM r sgA sgC)))] [(rd kA l.aO.length 9 (l.aO.map au.cells)),(rd cA l.aj.length 2 (List.zipWith ax.cells l.aj az)),(dE (bg ax.e_ l.aj az)),(rd bA l.ab.length 4 (l.ab.map bK.cells)),(rd sgA r.aa.length 2 (r.aa.map aF.cells))] (fun (x:(OA)×Nat)=>(vT [(vS x.1 ((kh l r).length) x.2),(vI (fr l r 0))])) (fun (x:(OA)×Nat)=>True) (fun (x:(OA)×Nat)=>[(own x.1 x.2 3 1 ((kh l r).map iC))]):=by
 have A4:=hin.sj
 have AC:=hin.r_
 have w:=hin.lz
 have y:=hin.sh
 have A3:=hin.side
 refine eO kr Tryz.func121 U U fun w0 Q hQ hN=>?_
 try dsimp only
 refine WS fun _ g=>eG U fun b2=>eG U fun b3=>bI 2 U<|RK g<|WS fun _ P=>rP 2 [0,1] (mc 1 U (mc 0 U mn)) ?_
 refine cX (Nd l kA kC az cA cC bA bC r sgA sgC hin hsl) (bk [2,3,4,5,6]) U fun y5 AA=>?_
 obtain ⟨V,v,e,d,F,Y,Z,a,B,AB,G,H,A,E,W,X⟩:=y5
 cases V
 ·obtain ⟨S,he⟩:=AA.2 rfl
  try dsimp only at S he
  subst S
  try dsimp only [cond_true,cond_false,List.cons_append,List.nil_append]
  refine bI 5 U<|RK P<|aq fun _ q=>WS fun _ K=>rP 2 [] mn ?_
  refine RK K<|bR U (aY fun J=>?_) (aW fun J=>?_)
  ·exact absurd J he
  refine WS fun _ L=>gT 3 1 ?_
  rw [show (own none 0 3 1 ([]:List (List Value)))=own none 0 3 1 ((kh l r).map iC) from by rw [vL he]; rfl]
  refine bI 1 U<|rP 2 [] mn ?_
  refine RK L<|ar ?_
  refine LX hQ (none,0) [0] [] mn U U U ?_ ?_
  ·first|rfl|(rw [he]; rfl)|(rw [vL he]; rfl)
  ·trivial
 obtain ⟨he,C,R,i,h,k⟩:=AA.1 rfl
 try dsimp only [cond_true,cond_false,List.cons_append,List.nil_append]
 dsimp only at C R i h k
 obtain ⟨f,D,Ab,A0⟩:=jh he
 obtain ⟨m,T⟩:=d_ f
 have j:=T.head
 unfold e7 at j
 have o:=mV m T D
 have A2:=D.time
 have A1:=D.len
 have s:(cu l l.ab.length).length=l.ab.length:=dv
 have t:(cN l r.aa r.aa.length).length=l.ab.length:=gS
 have AO:B.length=l.ab.length+1:=by have:=C.len; rw [show (dx l r).n=l.ab.length from dv] at this; exact this
 have z:A.length=l.ab.length+1:=by have:=R.len; rw [show (dx l r).n=l.ab.length from dv] at this; exact this
 refine bI 5 U<|RK P<|aq fun _ M=>WS fun _ N=>bI 1 U<|rS (SX (fO (r:= .bool false) U U U rE) U U)<|RK N<|cp U<|WK M<|WS fun _ O=>rP 1 [] mn ?_
 refine cX (vM (jR l kA kC cA cC bA bC) (iM r sgA sgC) (cu l l.ab.length) (cN l r.aa r.aa.length) d F a Y Z B A AB G H E W X e (by exact o) sd (by exact dv.symm) (by exact C) sd) (aD (aB (n:=(cu l l.ab.length).length) 1 U sm)<|aD (aB (n:=(cN l r.aa r.aa.length).length) 2 U (by rw [List.length_zipWith]; omega))<|aD (dR 3 U lV)<|aD (aB (n:=B.length) 4 U (by rw [List.length_zipWith]; omega))<|aD (dR 5 U lV)<|aD (aB (n:=A.length) 6 U (by rw [List.length_zipWith]; omega))<|aD (dR 7 U lV)<|dM 0 U U<|aL) U fun p u=>?_
 obtain ⟨b,c⟩:=p
 try dsimp only
 rw [show (l5 (cZ (jR l kA kC cA cC bA bC) (iM r sgA sgC) (cu l l.ab.length) (cN l r.aa r.aa.length)))=kh l r from (vf he).symm]
 refine rP 2 [] mn ?_
 refine RK O<|ar ?_
 refine LX hQ (b,c) [0] [] mn U U U ?_ ?_
 ·first|rfl|(rw [he]; rfl)|(rw [vL he]; rfl)
 ·trivial
end
section
open Go.RowKit
theorem mz (j:cS) (kA:OA) (kC:Nat) (az:List RA) (cA:OA) (cC:Nat) (bA:OA) (bC:Nat) (slA:OA) (slC:Nat) (drA:OA) (drC:Nat) (ha:List cD) (heA:OA) (heC:Nat) (faA:OA) (faC:Nat) (prA:OA) (prC:Nat) (r:de) (sgA:OA) (sgC:Nat) (b:Int) (hin:gZ j az ha) (hsl:r.aa.length≤1000000):
 dA Tryz.prog 95 [(vA (df.cells (df.mk (nq j kA kC cA cC bA bC slA slC drA drC heA heC faA faC prA prC)))),(vA (cL.cells (iM r sgA sgC))),(vI b)] [(rd kA j.Race.ao.aO.length 9 (j.Race.ao.aO.map au.cells)),(rd cA j.Race.ao.aj.length 2 (List.zipWith ax.cells j.Race.ao.aj az)),(dE (bg ax.e_ j.Race.ao.aj az)),(rd bA j.Race.ao.ab.length 4 (j.Race.ao.ab.map bK.cells)),(rd slA j.Race.aV.length 1 (j.Race.aV.map iC)),(rd drA j.Race.bV.length 1 (j.Race.bV.map iC)),(rd heA j.Race.av.length 1 (List.zipWith bW j.Race.av ha)),(dE (bg er j.Race.av ha)),(rd faA j.aS.length 4 (j.aS.map aZ.cells)),(rd prA j.aJ.length 5 (j.aJ.map br.cells)),(rd sgA r.aa.length 2 (r.aa.map aF.cells))] (vA (kG.cells (kG.mk (ai.mk ((cQ j.Race.ao r b).Lo) ((cQ j.Race.ao r b).Hi)) ((cQ j.Race.ao r b).each) ((cQ j.Race.ao r b).never)))):=by
 have Y:=hin.race
 have AA:=hin.race.line
 have c:=hin.race.g6
 have d:=hin.race.has
 have Z:=hin.race.g7
 have W:=hin.nf
 have X:=hin.np
 refine bJ kr Tryz.func95 U U fun i Q hQ hN=>?_
 try dsimp only
 refine WS fun _ O=>eG U fun e=>eG U fun f=>AL U oB fun g=>RK O<|aq fun _ P=>WS fun _ R=>rP 2 [] mn ?_
 refine RK R<|ck U (aT fun B=>?_) (aU fun B=>?_)
 ·refine WS fun _ S=>rP 4 [] (mc 1 U mn) ?_
  refine rS (SX (bq (xs:=[(0,.tmp 15),(1,.tmp 17)]) (cs:=(ai.cells (ai.mk r.Start r.Start))) U U (bp gM U)) U U)<|rS (SX (bq (xs:=[(0,.tmp 18),(1,.const (vB true)),(2,.const (vB false))]) (cs:=(kG.cells (kG.mk (ai.mk r.Start r.Start) true false))) U U (bp Fg U)) U U)<|eN U mL U<|RK S<|ar<|Dj hQ [0] (mc 0 U mn) U ?_
  (rw [GX B])
 refine WK P<|WS fun _ T=>bI 3 U<|rS (LP (cm.cells (jR j.Race.ao kA kC cA cC bA bC)) 2 U bU U U U)<|eV 2 [] (mc 1 U mn) U<|rS (CL (Co j.Race.ao kA kC az cA cC bA bC r sgA sgC b asm hsl) (bk [3,4,5,6,13]) U)<|bI 3 U<|AL U dT fun h=>eN U cT U<|bI 1 U<|RK T<|aq fun _ E=>WS fun _ F=>rP 2 [] mn ?_
 refine RK F<|ck U (aW fun A=>?_) (aY fun A=>?_)
 ·refine WS fun _ G=>rS (SX (bq (xs:=[(0,.const (vI 86400000)),(1,.const (vI 86400000))]) (cs:=(ai.cells (ai.mk 86400000 86400000))) U U (bp gM U)) U U)<|rS (SX (bq (xs:=[(0,.tmp 32),(1,.const (vB false)),(2,.const (vB true))]) (cs:=(kG.cells (kG.mk (ai.mk 86400000 86400000) false true))) U U (bp Fg U)) U U)<|qN U mL U<|RK G<|ar<|Dj hQ [0] (mc 1 U mn) U ?_
  (rw [CW B A])
 refine WK E<|WS fun _ H=>bI 3 U<|rS (LP (cm.cells (jR j.Race.ao kA kC cA cC bA bC)) 3 U bU U U U)<|rP 1 [] (mc 2 U mn) ?_
 refine cX (MW j.Race.ao kA kC az cA cC bA bC r sgA sgC asm hsl) (bk [4,5,6,7,14]) U fun V a=>?_
 obtain ⟨M,N⟩:=V
 try dsimp only
 refine bI 5 U<|RK H<|WS fun _ AB=>rP 1 [] mn ?_
 refine rS (CL (RH (kh j.Race.ao r) M N (by exact D6 (vj A I)) (by have:=Es (l:=j.Race.ao) (r:=r); omega)) (aD (aB (n:=(kh j.Race.ao r).length) 0 U sm)<|aL) U) ?_
 refine bI 3 U<|RK AB<|aq fun _ D=>WS fun _ J=>rP 2 [] mn ?_
 refine RK J<|bR U (aY fun C=>?_) (aW fun C=>?_)
 ·refine WK D<|WS fun _ L=>rP 2 [] (mc 1 U mn) ?_
  refine rS (SX (bq (xs:=[(0,.tmp 50),(1,.tmp 51),(2,.const (vB false))]) (cs:=(kG.cells (kG.mk (dQ j.Race.ao r b) (decide (b<(pR (kh j.Race.ao r)))) false))) U U (bp Fg U)) U U)<|Hc U mL U<|RK L<|ar<|Dj hQ [0] (mc 2 U mn) U ?_
  (rw [zV B A (by rw [Cf (vj A I)]; exact cO C),cO C])
 refine aw<|bI 1 U<|VR (ai.cells (ai.mk ((dQ j.Race.ao r b).Lo) 86400000)) U FY U U<|RK D<|WS fun _ K=>rP 2 [] (mc 1 U mn) ?_
 refine rS (SX (bq (xs:=[(0,.tmp 50),(1,.tmp 51),(2,.const (vB false))]) (cs:=(kG.cells (kG.mk (ai.mk ((dQ j.Race.ao r b).Lo) 86400000) (decide (b<(pR (kh j.Race.ao r)))) false))) U U (bp Fg U)) U U)<|Hc U mL U<|RK K<|ar<|Dj hQ [0] (mc 2 U mn) U ?_
 (rw [xU B A (by rw [Cf (vj A I)]; exact bj C),bj C])
end
section
open Go.RowKit
variable {E:fh} {ops:Array Oper} {D:List Deferred} {L:List (Nat×Value)} {C:List aA}
variable {dst:Option Tmp} {ty:TypeId} {ps:String} {af:Array Edge} {g:Option (Nat×Bool)}
theorem vE {x ix:Operand} {t e len sz:Nat} {cs vs:List Value} {j:Int} {kd:IntKind} (m:Nat) (hg:j_ ops L g=true) (hx:ev L x=some (.agg cs.toArray)) (hi:ev L ix=some (.int kd j)) (ht:tX E.P t=some (len,e)) (hk:tK E.P e=some (true,sz)) (hj:j=(m:Int)) (hm:m<len) (hv:(cs.drop (m*sz)).take sz=vs):
 SD E ops ⟨dst,.index t x ix,ty,ps,af,g⟩ D L C (.agg vs.toArray):=
 eM hg sm fun a w A _=>by
  have B:(0:Int)≤(m:Int)∧(m:Int)<(len:Int):=by omega
  subst hj
  simp [execOp,A.ev hx,A.ev hi,Instr.index,asIntOf,run_underlying (Jk ht),B,hm,(oW hk w).2,iZ hk hv w]
end
section
open Go.RowKit
theorem Lf (j:cS) (kA:OA) (kC:Nat) (az:List RA) (cA:OA) (cC:Nat) (bA:OA) (bC:Nat) (slA:OA) (slC:Nat) (drA:OA) (drC:Nat) (ha:List cD) (heA:OA) (heC:Nat) (faA:OA) (faC:Nat) (prA:OA) (prC:Nat) (fw ff ft:Int) (d:ak) (sgA:OA) (sgC:Nat) (hin:gZ j az ha) (hw:0≤fw∧fw≤1000000) (hsl:d.aX.aa.length≤1000000):
 dA Tryz.prog 62 [(vA (df.cells (df.mk (nq j kA kC cA cC bA bC slA slC drA drC heA heC faA faC prA prC)))),(vA (aZ.cells (aZ.mk 1 fw ff ft))),(vA (aG.cells (aG.mk d.Out d.cJ d.Time (iM d.aX sgA sgC))))] [(rd kA j.Race.ao.aO.length 9 (j.Race.ao.aO.map au.cells)),(rd cA j.Race.ao.aj.length 2 (List.zipWith ax.cells j.Race.ao.aj az)),(dE (bg ax.e_ j.Race.ao.aj az)),(rd bA j.Race.ao.ab.length 4 (j.Race.ao.ab.map bK.cells)),(rd slA j.Race.aV.length 1 (j.Race.aV.map iC)),(rd drA j.Race.bV.length 1 (j.Race.bV.map iC)),(rd heA j.Race.av.length 1 (List.zipWith bW j.Race.av ha)),(dE (bg er j.Race.av ha)),(rd faA j.aS.length 4 (j.aS.map aZ.cells)),(rd prA j.aJ.length 5 (j.aJ.map br.cells)),(rd sgA d.aX.aa.length 2 (d.aX.aa.map aF.cells))] (Value.int .u8 (g_ j.Race.ao (aZ.mk 1 fw ff ft) d)):=by
 have l:=hin.race
 have h:=hin.race.line
 have r:=hin.race.g6
 have s:=hin.race.has
 have m:=hin.race.g7
 have i:=hin.nf
 have k:=hin.np
 refine bJ kr Tryz.func62 U U fun u Q hQ hN=>?_
 try dsimp only
 refine WS fun _ a=>eG U fun n=>eG U fun o=>eG U fun p=>bI 1 U<|RK a<|aq fun _ b=>WS fun _ c=>eV 1 [] (mc 0 U mn) U<|rS (CL (tU d.Out d.cJ d.Time (iM d.aX sgA sgC)) (aL) U)<|rP 1 [] mn ?_
 refine RK c<|ck U (aW fun A=>?_) (aY fun A=>?_)
 ·refine WS fun _ e=>rP 1 [] mn ?_
  refine RK e<|ar<|Q1 hQ U U U ?_
  (rw [sw (fun q=>A q)]; done)
 refine WK b<|aq fun _ f=>dH cg [4,5] [] [] [0,1,2,3,4,5,6,7,8,9,10,11,12,13] [] U U U U U<|eS U (CL yJ (aL) U)<|eS U (FA 0 U eU U)<|eS U (L1 (Value.int .u8 1) 1 U bU U U)<|eS U (SX (vE (vs:=(fp.cells (fp.mk (Value.func (.func 116) [].toArray [].toArray) (Value.func (.func 115) [].toArray [].toArray)))) 1 U U U It bU U dc U) U U)<|ek U<|cq U fun T9 g=>AL U JH fun X=>aK (g _ _ (aR [1,2,3,4,5,6,7,8,9,10,11,12,13,14]) ?_)
 refine cq U fun T11 W=>eN U IM U<|aK (W _ _ (aR [1,2,3,4,5,6,7,8,9,10,11,12,13,14]) ?_)
 refine fJ U<|KK f<|WS fun _ V=>eV 4 [0,1,2] (mc 0 U (mc 3 U (mc 2 U mn))) U<|rS (CL (RB j kA kC cA cC bA bC slA slC drA drC heA heC faA faC prA prC 1 fw ff ft) (aL) U)<|rP 5 [] mn ?_
 refine RK V<|aq fun _ AA=>k6 cg [0,1,2,3,4,5,6,7,8,9] [10,11,12,13] [false,false,false,false,false,false,false,false,false,false] [] [(cz X 179 (fp.cells (fp.mk (Value.func (.func 116) [].toArray [].toArray) (Value.func (.func 115) [].toArray [].toArray)))),(cz p 43 (aG.cells (aG.mk d.Out d.cJ d.Time (iM d.aX sgA sgC)))),(cz o 86 (aZ.cells (aZ.mk 1 fw ff ft))),(cz n 97 (df.cells (df.mk (nq j kA kC cA cC bA bC slA slC drA drC heA heC faA faC prA prC)))),(rd kA j.Race.ao.aO.length 9 (j.Race.ao.aO.map au.cells)).ro,(rd cA j.Race.ao.aj.length 2 (List.zipWith ax.cells j.Race.ao.aj az)).ro,(dE (bg ax.e_ j.Race.ao.aj az)).ro,(rd bA j.Race.ao.ab.length 4 (j.Race.ao.ab.map bK.cells)).ro,(rd slA j.Race.aV.length 1 (j.Race.aV.map iC)).ro,(rd drA j.Race.bV.length 1 (j.Race.bV.map iC)).ro,(rd heA j.Race.av.length 1 (List.zipWith bW j.Race.av ha)).ro,(dE (bg er j.Race.av ha)).ro,(rd faA j.aS.length 4 (j.aS.map aZ.cells)).ro,(rd prA j.aJ.length 5 (j.aJ.map br.cells)).ro,(rd sgA d.aX.aa.length 2 (d.aX.aa.map aF.cells)).ro] [] kr (aR [0,1,2,3,4,5,6,7,8,9,10,11,12,13,14]) (aR [])<|eS U (LW 3 U bU U U)<|eS U (FA 4 U eU U)<|eS U (LP (cL.cells (iM d.aX sgA sgC)) 1 U bU U U U)<|eS U (MV U)<|eS U (CL (mz j kA kC az cA cC bA bC slA slC drA drC ha heA heC faA faC prA prC d.aX sgA sgC (-1) hin hsl) (bk [4,5,6,7,8,9,10,11,12,13,14]) U)<|eS U (LW 3 U bU U U)<|eS U (FA 4 U eU U)<|eS U (LP (cL.cells (iM d.aX sgA sgC)) 1 U bU U U U)<|eS U (MV U)<|eS U (CL (mz j kA kC az cA cC bA bC slA slC drA drC ha heA heC faA faC prA prC d.aX sgA sgC j.Race.ao.cd hin hsl) (bk [4,5,6,7,8,9,10,11,12,13,14]) U)<|ek U<|fu [10,11] kr (cK ?_<|cK ?_<|gU)
 rotate_left 1
 ·refine NO U U [10,12,13] fun T14 P=>AL U oB fun Y=>RD P 1 U<|N1 10<|NO U U [12,13] fun T16 R=>AL U oB fun Z=>RD R 2 U<|N1 12<|NO U U [13] fun T18 S=>eN U mL U<|RD S 2 U<|N1 13<|NO U U [] fun T19 T=>qN U mL U<|RD T 2 U<|kH<|KK AA<|aq fun _ F=>aH<|WS fun _ E=>rP 3 [] (mc 0 U mn) ?_
  refine bT (t:=40) U (fun C=>?_) (fun C=>?_)
  ·refine bI 16 U<|RK E<|aN U<|WS fun _ J=>rP 1 [] mn ?_
   refine RK J<|ar<|Q1 hQ U U U ?_
   (rw [jF rfl A]; (rw [g8 (.inl C)]; done))
  refine rP 8 [0,1] (mc 0 U (mc 4 U mn)) ?_
  refine bT (t:=48) U (aT fun D=>?_) (aU fun D=>?_)
  ·refine bI 8 U<|RK E<|aN U<|WS fun _ K=>rP 1 [] mn ?_
   refine RK K<|ar<|Q1 hQ U U U ?_
   (rw [jF rfl A]; (rw [g8 (.inr (.inl D))]; done))
  refine rP 8 [0,1] (mc 1 U (mc 4 U mn)) ?_
  refine RK E<|ck U (aT fun B=>?_) (aU fun B=>?_)
  ·refine WS fun _ L=>rP 1 [] mn ?_
   refine RK L<|ar<|Q1 hQ U U U ?_
   (rw [jF rfl A]; (rw [g8 (.inr (.inr B))]; done))
  refine WS fun _ G=>rP 3 [] (mc 0 U mn) ?_
  refine cG (t:=59) U (fun AB=>?_) (fun AB=>?_)
  ·refine bI 8 U<|RK G<|cp U<|cj<|aP<|KK F<|WS fun _ O=>rP 1 [] mn ?_
   refine RK O<|ar<|Q1 hQ U U U ?_
   (rw [jF rfl A]; (rw [jG (Ba (by simpa using C) (by first|exact D|(simp only []; omega)) (by first|exact B|(simp only []; omega))) (fun q=>by rw [AB] at q; exact Bool.noConfusion q.1)]; done))
  refine eV 5 [0,1,2,3] (mc 2 U (mc 4 U (mc 0 U (mc 1 U mn)))) U<|rS (CL (uP 1 fw ff ft ((cQ j.Race.ao d.aX (-1)).Lo) ((cQ j.Race.ao d.aX (-1)).Hi) ((cQ j.Race.ao d.aX (-1)).each) ((cQ j.Race.ao d.aX (-1)).never) ((cQ j.Race.ao d.aX j.Race.ao.cd).Lo) ((cQ j.Race.ao d.aX j.Race.ao.cd).Hi) ((cQ j.Race.ao d.aX j.Race.ao.cd).each) ((cQ j.Race.ao d.aX j.Race.ao.cd).never)) (aL) U)<|rP 2 [] mn ?_
  refine RK G<|ck U (aT fun H=>?_) (aU fun H=>?_)
  ·refine WS fun _ M=>rP 1 [] mn ?_
   refine RK M<|ar<|Q1 hQ U U U ?_
   (rw [jF rfl A]; (rw [pz (Ba (by simpa using C) (by first|exact D|(simp only []; omega)) (by first|exact B|(simp only []; omega))) AB ((oM (show ¬ (1:Int)=3 by decide)).2 H)]; done))
  refine cj<|aP<|KK F<|WS fun _ N=>rP 1 [] mn ?_
  refine RK N<|ar<|Q1 hQ U U U ?_
  (rw [jF rfl A]; (rw [jG (Ba (by simpa using C) (by first|exact D|(simp only []; omega)) (by first|exact B|(simp only []; omega))) (fun q=>H ((oM (show ¬ (1:Int)=3 by decide)).1 q.2))]; done))
 refine NO U U [11,12,13] fun T14 P=>AL U oB fun Y=>RD P 1 U<|N1 11<|NO U U [12,13] fun T16 R=>AL U oB fun Z=>RD R 2 U<|N1 12<|NO U U [13] fun T18 S=>qN U mL U<|RD S 2 U<|N1 13<|NO U U [] fun T19 T=>eN U mL U<|RD T 2 U<|kH<|KK AA<|aq fun _ F=>aH<|WS fun _ E=>rP 3 [] (mc 1 U mn) ?_
 refine bT (t:=40) U (fun C=>?_) (fun C=>?_)
 ·refine bI 16 U<|RK E<|aN U<|WS fun _ J=>rP 1 [] mn ?_
  refine RK J<|ar<|Q1 hQ U U U ?_
  (rw [jF rfl A]; (rw [g8 (.inl C)]; done))
 refine rP 8 [0,1] (mc 1 U (mc 4 U mn)) ?_
 refine bT (t:=48) U (aT fun D=>?_) (aU fun D=>?_)
 ·refine bI 8 U<|RK E<|aN U<|WS fun _ K=>rP 1 [] mn ?_
  refine RK K<|ar<|Q1 hQ U U U ?_
  (rw [jF rfl A]; (rw [g8 (.inr (.inl D))]; done))
 refine rP 8 [0,1] (mc 0 U (mc 4 U mn)) ?_
 refine RK E<|ck U (aT fun B=>?_) (aU fun B=>?_)
 ·refine WS fun _ L=>rP 1 [] mn ?_
  refine RK L<|ar<|Q1 hQ U U U ?_
  (rw [jF rfl A]; (rw [g8 (.inr (.inr B))]; done))
 refine WS fun _ G=>rP 3 [] (mc 1 U mn) ?_
 refine cG (t:=59) U (fun AB=>?_) (fun AB=>?_)
 ·refine bI 8 U<|RK G<|cp U<|cj<|aP<|KK F<|WS fun _ O=>rP 1 [] mn ?_
  refine RK O<|ar<|Q1 hQ U U U ?_
  (rw [jF rfl A]; (rw [jG (Ba (by simpa using C) (by first|exact D|(simp only []; omega)) (by first|exact B|(simp only []; omega))) (fun q=>by rw [AB] at q; exact Bool.noConfusion q.1)]; done))
 refine eV 5 [0,1,2,3] (mc 2 U (mc 4 U (mc 1 U (mc 0 U mn)))) U<|rS (CL (uP 1 fw ff ft ((cQ j.Race.ao d.aX (-1)).Lo) ((cQ j.Race.ao d.aX (-1)).Hi) ((cQ j.Race.ao d.aX (-1)).each) ((cQ j.Race.ao d.aX (-1)).never) ((cQ j.Race.ao d.aX j.Race.ao.cd).Lo) ((cQ j.Race.ao d.aX j.Race.ao.cd).Hi) ((cQ j.Race.ao d.aX j.Race.ao.cd).each) ((cQ j.Race.ao d.aX j.Race.ao.cd).never)) (aL) U)<|rP 2 [] mn ?_
 refine RK G<|ck U (aT fun H=>?_) (aU fun H=>?_)
 ·refine WS fun _ M=>rP 1 [] mn ?_
  refine RK M<|ar<|Q1 hQ U U U ?_
  (rw [jF rfl A]; (rw [pz (Ba (by simpa using C) (by first|exact D|(simp only []; omega)) (by first|exact B|(simp only []; omega))) AB ((oM (show ¬ (1:Int)=3 by decide)).2 H)]; done))
 refine cj<|aP<|KK F<|WS fun _ N=>rP 1 [] mn ?_
 refine RK N<|ar<|Q1 hQ U U U ?_
 (rw [jF rfl A]; (rw [jG (Ba (by simpa using C) (by first|exact D|(simp only []; omega)) (by first|exact B|(simp only []; omega))) (fun q=>H ((oM (show ¬ (1:Int)=3 by decide)).1 q.2))]; done))
theorem Kx (j:cS) (kA:OA) (kC:Nat) (az:List RA) (cA:OA) (cC:Nat) (bA:OA) (bC:Nat) (slA:OA) (slC:Nat) (drA:OA) (drC:Nat) (ha:List cD) (heA:OA) (heC:Nat) (faA:OA) (faC:Nat) (prA:OA) (prC:Nat) (fw ff ft:Int) (d:ak) (sgA:OA) (sgC:Nat) (hin:gZ j az ha) (hw:0≤fw∧fw≤1000000) (hsl:d.aX.aa.length≤1000000):
 dA Tryz.prog 62 [(vA (df.cells (df.mk (nq j kA kC cA cC bA bC slA slC drA drC heA heC faA faC prA prC)))),(vA (aZ.cells (aZ.mk 2 fw ff ft))),(vA (aG.cells (aG.mk d.Out d.cJ d.Time (iM d.aX sgA sgC))))] [(rd kA j.Race.ao.aO.length 9 (j.Race.ao.aO.map au.cells)),(rd cA j.Race.ao.aj.length 2 (List.zipWith ax.cells j.Race.ao.aj az)),(dE (bg ax.e_ j.Race.ao.aj az)),(rd bA j.Race.ao.ab.length 4 (j.Race.ao.ab.map bK.cells)),(rd slA j.Race.aV.length 1 (j.Race.aV.map iC)),(rd drA j.Race.bV.length 1 (j.Race.bV.map iC)),(rd heA j.Race.av.length 1 (List.zipWith bW j.Race.av ha)),(dE (bg er j.Race.av ha)),(rd faA j.aS.length 4 (j.aS.map aZ.cells)),(rd prA j.aJ.length 5 (j.aJ.map br.cells)),(rd sgA d.aX.aa.length 2 (d.aX.aa.map aF.cells))] (Value.int .u8 (g_ j.Race.ao (aZ.mk 2 fw ff ft) d)):=by
 have l:=hin.race
 have h:=hin.race.line
 have r:=hin.race.g6
 have s:=hin.race.has
 have m:=hin.race.g7
 have i:=hin.nf
 have k:=hin.np
 refine bJ kr Tryz.func62 U U fun u Q hQ hN=>?_
 try dsimp only
 refine WS fun _ a=>eG U fun n=>eG U fun o=>eG U fun p=>bI 1 U<|RK a<|aq fun _ b=>WS fun _ c=>eV 1 [] (mc 0 U mn) U<|rS (CL (tU d.Out d.cJ d.Time (iM d.aX sgA sgC)) (aL) U)<|rP 1 [] mn ?_
 refine RK c<|ck U (aW fun A=>?_) (aY fun A=>?_)
 ·refine WS fun _ e=>rP 1 [] mn ?_
  refine RK e<|ar<|Q1 hQ U U U ?_
  (rw [sw (fun q=>A q)]; done)
 refine WK b<|aq fun _ f=>dH cg [4,5] [] [] [0,1,2,3,4,5,6,7,8,9,10,11,12,13] [] U U U U U<|eS U (CL yJ (aL) U)<|eS U (FA 0 U eU U)<|eS U (L1 (Value.int .u8 2) 1 U bU U U)<|eS U (SX (vE (vs:=(fp.cells (fp.mk (Value.func (.func 117) [].toArray [].toArray) (Value.func (.func 115) [].toArray [].toArray)))) 2 U U U It bU U dc U) U U)<|ek U<|cq U fun T9 g=>AL U JH fun X=>aK (g _ _ (aR [1,2,3,4,5,6,7,8,9,10,11,12,13,14]) ?_)
 refine cq U fun T11 W=>eN U IM U<|aK (W _ _ (aR [1,2,3,4,5,6,7,8,9,10,11,12,13,14]) ?_)
 refine fJ U<|KK f<|WS fun _ V=>eV 4 [0,1,2] (mc 0 U (mc 3 U (mc 2 U mn))) U<|rS (CL (Rs j kA kC cA cC bA bC slA slC drA drC heA heC faA faC prA prC 2 fw ff ft hw) (aL) U)<|rP 5 [] mn ?_
 refine RK V<|aq fun _ AA=>k6 cg [0,1,2,3,4,5,6,7,8,9] [10,11,12,13] [false,false,false,false,false,false,false,false,false,false] [] [(cz X 179 (fp.cells (fp.mk (Value.func (.func 117) [].toArray [].toArray) (Value.func (.func 115) [].toArray [].toArray)))),(cz p 43 (aG.cells (aG.mk d.Out d.cJ d.Time (iM d.aX sgA sgC)))),(cz o 86 (aZ.cells (aZ.mk 2 fw ff ft))),(cz n 97 (df.cells (df.mk (nq j kA kC cA cC bA bC slA slC drA drC heA heC faA faC prA prC)))),(rd kA j.Race.ao.aO.length 9 (j.Race.ao.aO.map au.cells)).ro,(rd cA j.Race.ao.aj.length 2 (List.zipWith ax.cells j.Race.ao.aj az)).ro,(dE (bg ax.e_ j.Race.ao.aj az)).ro,(rd bA j.Race.ao.ab.length 4 (j.Race.ao.ab.map bK.cells)).ro,(rd slA j.Race.aV.length 1 (j.Race.aV.map iC)).ro,(rd drA j.Race.bV.length 1 (j.Race.bV.map iC)).ro,(rd heA j.Race.av.length 1 (List.zipWith bW j.Race.av ha)).ro,(dE (bg er j.Race.av ha)).ro,(rd faA j.aS.length 4 (j.aS.map aZ.cells)).ro,(rd prA j.aJ.length 5 (j.aJ.map br.cells)).ro,(rd sgA d.aX.aa.length 2 (d.aX.aa.map aF.cells)).ro] [] kr (aR [0,1,2,3,4,5,6,7,8,9,10,11,12,13,14]) (aR [])<|eS U (LW 3 U bU U U)<|eS U (FA 4 U eU U)<|eS U (LP (cL.cells (iM d.aX sgA sgC)) 1 U bU U U U)<|eS U (MV U)<|eS U (CL (mz j kA kC az cA cC bA bC slA slC drA drC ha heA heC faA faC prA prC d.aX sgA sgC (fw-1) hin hsl) (bk [4,5,6,7,8,9,10,11,12,13,14]) U)<|eS U (LW 3 U bU U U)<|eS U (FA 4 U eU U)<|eS U (LP (cL.cells (iM d.aX sgA sgC)) 1 U bU U U U)<|eS U (MV U)<|eS U (CL (mz j kA kC az cA cC bA bC slA slC drA drC ha heA heC faA faC prA prC d.aX sgA sgC fw hin hsl) (bk [4,5,6,7,8,9,10,11,12,13,14]) U)<|ek U<|fu [10,11] kr (cK ?_<|cK ?_<|gU)
 rotate_left 1
 ·refine NO U U [10,12,13] fun T14 P=>AL U oB fun Y=>RD P 1 U<|N1 10<|NO U U [12,13] fun T16 R=>AL U oB fun Z=>RD R 2 U<|N1 12<|NO U U [13] fun T18 S=>eN U mL U<|RD S 2 U<|N1 13<|NO U U [] fun T19 T=>qN U mL U<|RD T 2 U<|kH<|KK AA<|aq fun _ F=>aH<|WS fun _ E=>rP 3 [] (mc 0 U mn) ?_
  refine bT (t:=40) U (fun C=>?_) (fun C=>?_)
  ·refine bI 16 U<|RK E<|aN U<|WS fun _ J=>rP 1 [] mn ?_
   refine RK J<|ar<|Q1 hQ U U U ?_
   (rw [jK rfl A]; (rw [g8 (.inl C)]; done))
  refine rP 8 [0,1] (mc 0 U (mc 4 U mn)) ?_
  refine bT (t:=48) U (aT fun D=>?_) (aU fun D=>?_)
  ·refine bI 8 U<|RK E<|aN U<|WS fun _ K=>rP 1 [] mn ?_
   refine RK K<|ar<|Q1 hQ U U U ?_
   (rw [jK rfl A]; (rw [g8 (.inr (.inl D))]; done))
  refine rP 8 [0,1] (mc 1 U (mc 4 U mn)) ?_
  refine RK E<|ck U (aT fun B=>?_) (aU fun B=>?_)
  ·refine WS fun _ L=>rP 1 [] mn ?_
   refine RK L<|ar<|Q1 hQ U U U ?_
   (rw [jK rfl A]; (rw [g8 (.inr (.inr B))]; done))
  refine WS fun _ G=>rP 3 [] (mc 0 U mn) ?_
  refine cG (t:=59) U (fun AB=>?_) (fun AB=>?_)
  ·refine bI 8 U<|RK G<|cp U<|cj<|aP<|KK F<|WS fun _ O=>rP 1 [] mn ?_
   refine RK O<|ar<|Q1 hQ U U U ?_
   (rw [jK rfl A]; (rw [jG (Ba (by simpa using C) (by first|exact D|(simp only []; omega)) (by first|exact B|(simp only []; omega))) (fun q=>by rw [AB] at q; exact Bool.noConfusion q.1)]; done))
  refine eV 5 [0,1,2,3] (mc 2 U (mc 4 U (mc 0 U (mc 1 U mn)))) U<|rS (CL (uP 2 fw ff ft ((cQ j.Race.ao d.aX (fw-1)).Lo) ((cQ j.Race.ao d.aX (fw-1)).Hi) ((cQ j.Race.ao d.aX (fw-1)).each) ((cQ j.Race.ao d.aX (fw-1)).never) ((cQ j.Race.ao d.aX fw).Lo) ((cQ j.Race.ao d.aX fw).Hi) ((cQ j.Race.ao d.aX fw).each) ((cQ j.Race.ao d.aX fw).never)) (aL) U)<|rP 2 [] mn ?_
  refine RK G<|ck U (aT fun H=>?_) (aU fun H=>?_)
  ·refine WS fun _ M=>rP 1 [] mn ?_
   refine RK M<|ar<|Q1 hQ U U U ?_
   (rw [jK rfl A]; (rw [pz (Ba (by simpa using C) (by first|exact D|(simp only []; omega)) (by first|exact B|(simp only []; omega))) AB ((oM (show ¬ (2:Int)=3 by decide)).2 H)]; done))
  refine cj<|aP<|KK F<|WS fun _ N=>rP 1 [] mn ?_
  refine RK N<|ar<|Q1 hQ U U U ?_
  (rw [jK rfl A]; (rw [jG (Ba (by simpa using C) (by first|exact D|(simp only []; omega)) (by first|exact B|(simp only []; omega))) (fun q=>H ((oM (show ¬ (2:Int)=3 by decide)).1 q.2))]; done))
 refine NO U U [11,12,13] fun T14 P=>AL U oB fun Y=>RD P 1 U<|N1 11<|NO U U [12,13] fun T16 R=>AL U oB fun Z=>RD R 2 U<|N1 12<|NO U U [13] fun T18 S=>qN U mL U<|RD S 2 U<|N1 13<|NO U U [] fun T19 T=>eN U mL U<|RD T 2 U<|kH<|KK AA<|aq fun _ F=>aH<|WS fun _ E=>rP 3 [] (mc 1 U mn) ?_
 refine bT (t:=40) U (fun C=>?_) (fun C=>?_)
 ·refine bI 16 U<|RK E<|aN U<|WS fun _ J=>rP 1 [] mn ?_
  refine RK J<|ar<|Q1 hQ U U U ?_
  (rw [jK rfl A]; (rw [g8 (.inl C)]; done))
 refine rP 8 [0,1] (mc 1 U (mc 4 U mn)) ?_
 refine bT (t:=48) U (aT fun D=>?_) (aU fun D=>?_)
 ·refine bI 8 U<|RK E<|aN U<|WS fun _ K=>rP 1 [] mn ?_
  refine RK K<|ar<|Q1 hQ U U U ?_
  (rw [jK rfl A]; (rw [g8 (.inr (.inl D))]; done))
 refine rP 8 [0,1] (mc 0 U (mc 4 U mn)) ?_
 refine RK E<|ck U (aT fun B=>?_) (aU fun B=>?_)
 ·refine WS fun _ L=>rP 1 [] mn ?_
  refine RK L<|ar<|Q1 hQ U U U ?_
  (rw [jK rfl A]; (rw [g8 (.inr (.inr B))]; done))
 refine WS fun _ G=>rP 3 [] (mc 1 U mn) ?_
 refine cG (t:=59) U (fun AB=>?_) (fun AB=>?_)
 ·refine bI 8 U<|RK G<|cp U<|cj<|aP<|KK F<|WS fun _ O=>rP 1 [] mn ?_
  refine RK O<|ar<|Q1 hQ U U U ?_
  (rw [jK rfl A]; (rw [jG (Ba (by simpa using C) (by first|exact D|(simp only []; omega)) (by first|exact B|(simp only []; omega))) (fun q=>by rw [AB] at q; exact Bool.noConfusion q.1)]; done))
 refine eV 5 [0,1,2,3] (mc 2 U (mc 4 U (mc 1 U (mc 0 U mn)))) U<|rS (CL (uP 2 fw ff ft ((cQ j.Race.ao d.aX (fw-1)).Lo) ((cQ j.Race.ao d.aX (fw-1)).Hi) ((cQ j.Race.ao d.aX (fw-1)).each) ((cQ j.Race.ao d.aX (fw-1)).never) ((cQ j.Race.ao d.aX fw).Lo) ((cQ j.Race.ao d.aX fw).Hi) ((cQ j.Race.ao d.aX fw).each) ((cQ j.Race.ao d.aX fw).never)) (aL) U)<|rP 2 [] mn ?_
 refine RK G<|ck U (aT fun H=>?_) (aU fun H=>?_)
 ·refine WS fun _ M=>rP 1 [] mn ?_
  refine RK M<|ar<|Q1 hQ U U U ?_
  (rw [jK rfl A]; (rw [pz (Ba (by simpa using C) (by first|exact D|(simp only []; omega)) (by first|exact B|(simp only []; omega))) AB ((oM (show ¬ (2:Int)=3 by decide)).2 H)]; done))
 refine cj<|aP<|KK F<|WS fun _ N=>rP 1 [] mn ?_
 refine RK N<|ar<|Q1 hQ U U U ?_
 (rw [jK rfl A]; (rw [jG (Ba (by simpa using C) (by first|exact D|(simp only []; omega)) (by first|exact B|(simp only []; omega))) (fun q=>H ((oM (show ¬ (2:Int)=3 by decide)).1 q.2))]; done))
theorem Ln (j:cS) (kA:OA) (kC:Nat) (az:List RA) (cA:OA) (cC:Nat) (bA:OA) (bC:Nat) (slA:OA) (slC:Nat) (drA:OA) (drC:Nat) (ha:List cD) (heA:OA) (heC:Nat) (faA:OA) (faC:Nat) (prA:OA) (prC:Nat) (fw ff ft:Int) (d:ak) (sgA:OA) (sgC:Nat) (hin:gZ j az ha) (hw:0≤fw∧fw≤1000000) (hsl:d.aX.aa.length≤1000000):
 dA Tryz.prog 62 [(vA (df.cells (df.mk (nq j kA kC cA cC bA bC slA slC drA drC heA heC faA faC prA prC)))),(vA (aZ.cells (aZ.mk 3 fw ff ft))),(vA (aG.cells (aG.mk d.Out d.cJ d.Time (iM d.aX sgA sgC))))] [(rd kA j.Race.ao.aO.length 9 (j.Race.ao.aO.map au.cells)),(rd cA j.Race.ao.aj.length 2 (List.zipWith ax.cells j.Race.ao.aj az)),(dE (bg ax.e_ j.Race.ao.aj az)),(rd bA j.Race.ao.ab.length 4 (j.Race.ao.ab.map bK.cells)),(rd slA j.Race.aV.length 1 (j.Race.aV.map iC)),(rd drA j.Race.bV.length 1 (j.Race.bV.map iC)),(rd heA j.Race.av.length 1 (List.zipWith bW j.Race.av ha)),(dE (bg er j.Race.av ha)),(rd faA j.aS.length 4 (j.aS.map aZ.cells)),(rd prA j.aJ.length 5 (j.aJ.map br.cells)),(rd sgA d.aX.aa.length 2 (d.aX.aa.map aF.cells))] (Value.int .u8 (g_ j.Race.ao (aZ.mk 3 fw ff ft) d)):=by
 have l:=hin.race
 have h:=hin.race.line
 have r:=hin.race.g6
 have s:=hin.race.has
 have m:=hin.race.g7
 have i:=hin.nf
 have k:=hin.np
 refine bJ kr Tryz.func62 U U fun u Q hQ hN=>?_
 try dsimp only
 refine WS fun _ a=>eG U fun n=>eG U fun o=>eG U fun p=>bI 1 U<|RK a<|aq fun _ b=>WS fun _ c=>eV 1 [] (mc 0 U mn) U<|rS (CL (tU d.Out d.cJ d.Time (iM d.aX sgA sgC)) (aL) U)<|rP 1 [] mn ?_
 refine RK c<|ck U (aW fun A=>?_) (aY fun A=>?_)
 ·refine WS fun _ e=>rP 1 [] mn ?_
  refine RK e<|ar<|Q1 hQ U U U ?_
  (rw [sw (fun q=>A q)]; done)
 refine WK b<|aq fun _ f=>dH cg [4,5] [] [] [0,1,2,3,4,5,6,7,8,9,10,11,12,13] [] U U U U U<|eS U (CL yJ (aL) U)<|eS U (FA 0 U eU U)<|eS U (L1 (Value.int .u8 3) 1 U bU U U)<|eS U (SX (vE (vs:=(fp.cells (fp.mk (Value.func (.func 118) [].toArray [].toArray) (Value.func (.func 119) [].toArray [].toArray)))) 3 U U U It bU U dc U) U U)<|ek U<|cq U fun T9 g=>AL U JH fun X=>aK (g _ _ (aR [1,2,3,4,5,6,7,8,9,10,11,12,13,14]) ?_)
 refine cq U fun T11 W=>eN U IM U<|aK (W _ _ (aR [1,2,3,4,5,6,7,8,9,10,11,12,13,14]) ?_)
 refine fJ U<|KK f<|WS fun _ V=>eV 4 [0,1,2] (mc 0 U (mc 3 U (mc 2 U mn))) U<|rS (CL (Tb j kA kC cA cC bA bC slA slC drA drC heA heC faA faC prA prC 3 fw ff ft) (aL) U)<|rP 5 [] mn ?_
 refine RK V<|aq fun _ AA=>k6 cg [0,1,2,3,4,5,6,7,8,9] [10,11,12,13] [false,false,false,false,false,false,false,false,false,false] [] [(cz X 179 (fp.cells (fp.mk (Value.func (.func 118) [].toArray [].toArray) (Value.func (.func 119) [].toArray [].toArray)))),(cz p 43 (aG.cells (aG.mk d.Out d.cJ d.Time (iM d.aX sgA sgC)))),(cz o 86 (aZ.cells (aZ.mk 3 fw ff ft))),(cz n 97 (df.cells (df.mk (nq j kA kC cA cC bA bC slA slC drA drC heA heC faA faC prA prC)))),(rd kA j.Race.ao.aO.length 9 (j.Race.ao.aO.map au.cells)).ro,(rd cA j.Race.ao.aj.length 2 (List.zipWith ax.cells j.Race.ao.aj az)).ro,(dE (bg ax.e_ j.Race.ao.aj az)).ro,(rd bA j.Race.ao.ab.length 4 (j.Race.ao.ab.map bK.cells)).ro,(rd slA j.Race.aV.length 1 (j.Race.aV.map iC)).ro,(rd drA j.Race.bV.length 1 (j.Race.bV.map iC)).ro,(rd heA j.Race.av.length 1 (List.zipWith bW j.Race.av ha)).ro,(dE (bg er j.Race.av ha)).ro,(rd faA j.aS.length 4 (j.aS.map aZ.cells)).ro,(rd prA j.aJ.length 5 (j.aJ.map br.cells)).ro,(rd sgA d.aX.aa.length 2 (d.aX.aa.map aF.cells)).ro] [] kr (aR [0,1,2,3,4,5,6,7,8,9,10,11,12,13,14]) (aR [])<|eS U (LW 3 U bU U U)<|eS U (FA 4 U eU U)<|eS U (LP (cL.cells (iM d.aX sgA sgC)) 1 U bU U U U)<|eS U (MV U)<|eS U (CL (mz j kA kC az cA cC bA bC slA slC drA drC ha heA heC faA faC prA prC d.aX sgA sgC fw hin hsl) (bk [4,5,6,7,8,9,10,11,12,13,14]) U)<|eS U (LW 3 U bU U U)<|eS U (FA 4 U eU U)<|eS U (LP (cL.cells (iM d.aX sgA sgC)) 1 U bU U U U)<|eS U (MV U)<|eS U (CL (mz j kA kC az cA cC bA bC slA slC drA drC ha heA heC faA faC prA prC d.aX sgA sgC fw hin hsl) (bk [4,5,6,7,8,9,10,11,12,13,14]) U)<|ek U<|fu [10,11] kr (cK ?_<|cK ?_<|gU)
 rotate_left 1
 ·refine NO U U [10,12,13] fun T14 P=>AL U oB fun Y=>RD P 1 U<|N1 10<|NO U U [12,13] fun T16 R=>AL U oB fun Z=>RD R 2 U<|N1 12<|NO U U [13] fun T18 S=>eN U mL U<|RD S 2 U<|N1 13<|NO U U [] fun T19 T=>qN U mL U<|RD T 2 U<|kH<|KK AA<|aq fun _ F=>aH<|WS fun _ E=>rP 3 [] (mc 0 U mn) ?_
  refine bT (t:=40) U (fun C=>?_) (fun C=>?_)
  ·refine bI 16 U<|RK E<|aN U<|WS fun _ J=>rP 1 [] mn ?_
   refine RK J<|ar<|Q1 hQ U U U ?_
   (rw [jI rfl A]; (rw [g8 (.inl C)]; done))
  refine rP 8 [0,1] (mc 0 U (mc 4 U mn)) ?_
  refine bT (t:=48) U (aT fun D=>?_) (aU fun D=>?_)
  ·refine bI 8 U<|RK E<|aN U<|WS fun _ K=>rP 1 [] mn ?_
   refine RK K<|ar<|Q1 hQ U U U ?_
   (rw [jI rfl A]; (rw [g8 (.inr (.inl D))]; done))
  refine rP 8 [0,1] (mc 1 U (mc 4 U mn)) ?_
  refine RK E<|ck U (aT fun B=>?_) (aU fun B=>?_)
  ·refine WS fun _ L=>rP 1 [] mn ?_
   refine RK L<|ar<|Q1 hQ U U U ?_
   (rw [jI rfl A]; (rw [g8 (.inr (.inr B))]; done))
  refine WS fun _ G=>rP 3 [] (mc 0 U mn) ?_
  refine cG (t:=59) U (fun AB=>?_) (fun AB=>?_)
  ·refine bI 8 U<|RK G<|cp U<|cj<|aP<|KK F<|WS fun _ O=>rP 1 [] mn ?_
   refine RK O<|ar<|Q1 hQ U U U ?_
   (rw [jI rfl A]; (rw [jG (Ba (by simpa using C) (by first|exact D|(simp only []; omega)) (by first|exact B|(simp only []; omega))) (fun q=>by rw [AB] at q; exact Bool.noConfusion q.1)]; done))
  refine eV 5 [0,1,2,3] (mc 2 U (mc 4 U (mc 0 U (mc 1 U mn)))) U<|rS (CL (FR 3 fw ff ft ((cQ j.Race.ao d.aX fw).Lo) ((cQ j.Race.ao d.aX fw).Hi) ((cQ j.Race.ao d.aX fw).each) ((cQ j.Race.ao d.aX fw).never) ((cQ j.Race.ao d.aX fw).Lo) ((cQ j.Race.ao d.aX fw).Hi) ((cQ j.Race.ao d.aX fw).each) ((cQ j.Race.ao d.aX fw).never)) (aL) U)<|rP 2 [] mn ?_
  refine RK G<|ck U (aT fun H=>?_) (aU fun H=>?_)
  ·refine WS fun _ M=>rP 1 [] mn ?_
   refine RK M<|ar<|Q1 hQ U U U ?_
   (rw [jI rfl A]; (rw [pz (Ba (by simpa using C) (by first|exact D|(simp only []; omega)) (by first|exact B|(simp only []; omega))) AB ((AE rfl).2 H)]; done))
  refine cj<|aP<|KK F<|WS fun _ N=>rP 1 [] mn ?_
  refine RK N<|ar<|Q1 hQ U U U ?_
  (rw [jI rfl A]; (rw [jG (Ba (by simpa using C) (by first|exact D|(simp only []; omega)) (by first|exact B|(simp only []; omega))) (fun q=>H ((AE rfl).1 q.2))]; done))
 refine NO U U [11,12,13] fun T14 P=>AL U oB fun Y=>RD P 1 U<|N1 11<|NO U U [12,13] fun T16 R=>AL U oB fun Z=>RD R 2 U<|N1 12<|NO U U [13] fun T18 S=>qN U mL U<|RD S 2 U<|N1 13<|NO U U [] fun T19 T=>eN U mL U<|RD T 2 U<|kH<|KK AA<|aq fun _ F=>aH<|WS fun _ E=>rP 3 [] (mc 1 U mn) ?_
 refine bT (t:=40) U (fun C=>?_) (fun C=>?_)
 ·refine bI 16 U<|RK E<|aN U<|WS fun _ J=>rP 1 [] mn ?_
  refine RK J<|ar<|Q1 hQ U U U ?_
  (rw [jI rfl A]; (rw [g8 (.inl C)]; done))
 refine rP 8 [0,1] (mc 1 U (mc 4 U mn)) ?_
 refine bT (t:=48) U (aT fun D=>?_) (aU fun D=>?_)
 ·refine bI 8 U<|RK E<|aN U<|WS fun _ K=>rP 1 [] mn ?_
  refine RK K<|ar<|Q1 hQ U U U ?_
  (rw [jI rfl A]; (rw [g8 (.inr (.inl D))]; done))
 refine rP 8 [0,1] (mc 0 U (mc 4 U mn)) ?_
 refine RK E<|ck U (aT fun B=>?_) (aU fun B=>?_)
 ·refine WS fun _ L=>rP 1 [] mn ?_
  refine RK L<|ar<|Q1 hQ U U U ?_
  (rw [jI rfl A]; (rw [g8 (.inr (.inr B))]; done))
 refine WS fun _ G=>rP 3 [] (mc 1 U mn) ?_
 refine cG (t:=59) U (fun AB=>?_) (fun AB=>?_)
 ·refine bI 8 U<|RK G<|cp U<|cj<|aP<|KK F<|WS fun _ O=>rP 1 [] mn ?_
  refine RK O<|ar<|Q1 hQ U U U ?_
  (rw [jI rfl A]; (rw [jG (Ba (by simpa using C) (by first|exact D|(simp only []; omega)) (by first|exact B|(simp only []; omega))) (fun q=>by rw [AB] at q; exact Bool.noConfusion q.1)]; done))
 refine eV 5 [0,1,2,3] (mc 2 U (mc 4 U (mc 1 U (mc 0 U mn)))) U<|rS (CL (FR 3 fw ff ft ((cQ j.Race.ao d.aX fw).Lo) ((cQ j.Race.ao d.aX fw).Hi) ((cQ j.Race.ao d.aX fw).each) ((cQ j.Race.ao d.aX fw).never) ((cQ j.Race.ao d.aX fw).Lo) ((cQ j.Race.ao d.aX fw).Hi) ((cQ j.Race.ao d.aX fw).each) ((cQ j.Race.ao d.aX fw).never)) (aL) U)<|rP 2 [] mn ?_
 refine RK G<|ck U (aT fun H=>?_) (aU fun H=>?_)
 ·refine WS fun _ M=>rP 1 [] mn ?_
  refine RK M<|ar<|Q1 hQ U U U ?_
  (rw [jI rfl A]; (rw [pz (Ba (by simpa using C) (by first|exact D|(simp only []; omega)) (by first|exact B|(simp only []; omega))) AB ((AE rfl).2 H)]; done))
 refine cj<|aP<|KK F<|WS fun _ N=>rP 1 [] mn ?_
 refine RK N<|ar<|Q1 hQ U U U ?_
 (rw [jI rfl A]; (rw [jG (Ba (by simpa using C) (by first|exact D|(simp only []; omega)) (by first|exact B|(simp only []; omega))) (fun q=>H ((AE rfl).1 q.2))]; done))
theorem Av (j:cS) (kA:OA) (kC:Nat) (az:List RA) (cA:OA) (cC:Nat) (bA:OA) (bC:Nat) (slA:OA) (slC:Nat) (drA:OA) (drC:Nat) (ha:List cD) (heA:OA) (heC:Nat) (faA:OA) (faC:Nat) (prA:OA) (prC:Nat) (f:aZ) (d:ak) (sgA:OA) (sgC:Nat) (hin:gZ j az ha) (hk:1≤f.Kind∧f.Kind≤3) (hw:0≤f.ig∧f.ig≤1000000) (hsl:d.aX.aa.length≤1000000):
 dA Tryz.prog 62 [(vA (df.cells (df.mk (nq j kA kC cA cC bA bC slA slC drA drC heA heC faA faC prA prC)))),(vA (aZ.cells f)),(vA (aG.cells (aG.mk d.Out d.cJ d.Time (iM d.aX sgA sgC))))] [(rd kA j.Race.ao.aO.length 9 (j.Race.ao.aO.map au.cells)),(rd cA j.Race.ao.aj.length 2 (List.zipWith ax.cells j.Race.ao.aj az)),(dE (bg ax.e_ j.Race.ao.aj az)),(rd bA j.Race.ao.ab.length 4 (j.Race.ao.ab.map bK.cells)),(rd slA j.Race.aV.length 1 (j.Race.aV.map iC)),(rd drA j.Race.bV.length 1 (j.Race.bV.map iC)),(rd heA j.Race.av.length 1 (List.zipWith bW j.Race.av ha)),(dE (bg er j.Race.av ha)),(rd faA j.aS.length 4 (j.aS.map aZ.cells)),(rd prA j.aJ.length 5 (j.aJ.map br.cells)),(rd sgA d.aX.aa.length 2 (d.aX.aa.map aF.cells))] (Value.int .u8 (g_ j.Race.ao f d)):=by
 obtain ⟨fk,fw,ff,ft⟩:=f
 have A:fk=1∨fk=2∨fk=3:=by have:=hk; simp only at this; omega
 rcases A with rfl|rfl|rfl
 ·exact Lf j kA kC az cA cC bA bC slA slC drA drC ha heA heC faA faC prA prC fw ff ft d sgA sgC hin hw hsl
 ·exact Kx j kA kC az cA cC bA bC slA slC drA drC ha heA heC faA faC prA prC fw ff ft d sgA sgC hin hw hsl
 ·exact Ln j kA kC az cA cC bA bC slA slC drA drC ha heA heC faA faC prA prC fw ff ft d sgA sgC hin hw hsl
end
section
open Go.RowKit
theorem Kg (j:cS) (kA:OA) (kC:Nat) (az:List RA) (cA:OA) (cC:Nat) (bA:OA) (bC:Nat) (slA:OA) (slC:Nat) (drA:OA) (drC:Nat) (ha:List cD) (heA:OA) (heC:Nat) (faA:OA) (faC:Nat) (prA:OA) (prC:Nat) (p:br) (hin:gZ j az ha) (hok:dG j=0) (hp: ∃ i:Nat,j.aJ[i]? =some p):
 dA Tryz.prog 66 [(vA (df.cells (df.mk (nq j kA kC cA cC bA bC slA slC drA drC heA heC faA faC prA prC)))),(vA (br.cells p))] [(rd kA j.Race.ao.aO.length 9 (j.Race.ao.aO.map au.cells)),(rd cA j.Race.ao.aj.length 2 (List.zipWith ax.cells j.Race.ao.aj az)),(dE (bg ax.e_ j.Race.ao.aj az)),(rd bA j.Race.ao.ab.length 4 (j.Race.ao.ab.map bK.cells)),(rd slA j.Race.aV.length 1 (j.Race.aV.map iC)),(rd drA j.Race.bV.length 1 (j.Race.bV.map iC)),(rd heA j.Race.av.length 1 (List.zipWith bW j.Race.av ha)),(dE (bg er j.Race.av ha)),(rd faA j.aS.length 4 (j.aS.map aZ.cells)),(rd prA j.aJ.length 5 (j.aJ.map br.cells))] (Value.int .u8 (mZ j p)):=by
 have S:=hin.race
 have e:=hin.race.line
 have s:=hin.race.g6
 have t:=hin.race.has
 have q:=hin.race.g7
 have k:=hin.nf
 have o:=hin.np
 have R:=(eA hok).1
 have P:=(eA hok).2
 have c:=(eg R).1
 have h:=(eg R).2
 have a:=(d_ c).2.head
 unfold e7 at a
 obtain ⟨pi,f⟩:=hp
 have G:=P.ic pi p f
 have x:=G.eo
 have g:=G.jT
 simp only [mD] at g
 have w:=G.fault
 have u:=P.min_
 refine bJ kr Tryz.func66 U U fun w0 Q hQ hN=>?_
 try dsimp only
 refine WS fun _ T=>eG U fun z=>eG U fun b3=>rP 1 [] mn ?_
 refine RK T<|aq fun _ AA=>dH cg [20,21] [] [] [0,1,2,3,4,5,6,7,8,9,10,11] [] U U U U U<|eS U (LW 1 U bU U U)<|eS U (FA 0 U eU U)<|eS U (FA 0 U eU U)<|eS U (FA 10 U eU U)<|eS U (L1 (vS heA j.Race.av.length heC) 1 U bU U U)<|eS U (FA 2 U eU U)<|eS U (L1 (vI p.jm) 0 U bU U U) ?_
 obtain ⟨ht,C⟩:=aC j.Race.av ((p.jm).toNat) I
 obtain ⟨A,B⟩:=aC ha ((p.jm).toNat) I
 have O:(List.zipWith bW j.Race.av ha)[(p.jm).toNat]? =some (bW ht A):=cv C B
 refine eS U (IA ((p.jm).toNat) U (ay 8 U) j7 dc I I)<|eS U (gD ((p.jm).toNat) 0 (vS A.1.1 ht.length A.1.2) U bU (ay 8 U) O U dc U)<|eS U (FA 1 U eU U)<|eS U (L1 (vI p.iQ) 0 U bU U U) ?_
 have N:=S.eo _ _ _ C B
 have m:=N.lz
 have n:=(h.eo ht (aM C)).1
 obtain ⟨d,hd⟩:=aC ht ((p.iQ).toNat) I
 obtain ⟨da,M⟩:=aC A.2 ((p.iQ).toNat) I
 have Z:(List.zipWith ak.cells ht A.2)[(p.iQ).toNat]? =some (ak.cells d da):=cv hd M
 refine eS U (IA ((p.iQ).toNat) U (show fY _ (rd A.1.1 ht.length 7 (List.zipWith ak.cells ht A.2)).holds from (bY 9 U (a_ C B bX))) mJ dc I I)<|eS U (pO ((((p.iQ).toNat)*7)+4) U (show fY _ (rd A.1.1 ht.length 7 (List.zipWith ak.cells ht A.2)).holds from (bY 9 U (a_ C B bX))) (Nat.mul_pos I dc) eU U) ?_
 have D:=o3 (j:=j) (p:=p) C hd
 have y:=N.sig d (aM hd)
 have v:=MD (l:=j.Race.ao) (r:=d.aX) (b:=j.Race.ao.cd) I
 refine eS U (jE ((p.iQ).toNat) 4 (cL.cells (cL.mk d.aX.Start d.aX.gj (bE.mk da.1 d.aX.aa.length da.2))) U bU (show fY _ (rd A.1.1 ht.length 7 (List.zipWith ak.cells ht A.2)).holds from (bY 9 U (a_ C B bX))) Z U dc U U)<|eS U (FA 0 U eU U)<|eS U (FA 0 U eU U)<|eS U (FA 0 U eU U)<|eS U (FA 4 U eU U)<|eS U (L1 (vI j.Race.ao.cd) 1 U bU U U)<|eS U (CL (mz j kA kC az cA cC bA bC slA slC drA drC ha heA heC faA faC prA prC d.aX da.1 da.2 j.Race.ao.cd hin asm) (ld [2,3,4,5,6,7,8,9,10,11]<|aD (show fY _ (rd da.1 d.aX.aa.length 2 (d.aX.aa.map aF.cells)).holds from (bY 9 U (a_ C B (dh _ (a_ hd M (by simp [ak.e_]))))))<|aL) U)<|ek U<|cq U fun T5 X=>AL U oB fun b6=>aK (X _ _ (aR [1,2,3,4,5,6,7,8,9,10,11,12]) ?_)
 refine cq U fun T7 Y=>eN U mL U<|aK (Y _ _ (aR [1,2,3,4,5,6,7,8,9,10,11,12]) ?_)
 refine fJ U<|KK AA<|WS fun _ V=>eV 3 [] (mc 2 U mn) U<|rS (BI U (ux ⟨I,I⟩))<|bI 1 U<|RK V<|aq fun _ W=>aH<|WS fun _ H=>rP 9 [0,1] (mc 1 U (mc 0 U mn)) ?_
 refine RK H<|ck U (aT fun E=>?_) (aU fun E=>?_)
 ·refine WS fun _ AB=>rP 1 [] mn ?_
  refine RK AB<|ar<|Q1 hQ U U U ?_
  (rw [QQ D E]; done)
 refine WS fun _ J=>rP 9 [0,1] (mc 1 U (mc 0 U mn)) ?_
 refine RK J<|ck U (aT fun F=>?_) (aU fun F=>?_)
 ·refine WS fun _ K=>rP 1 [] mn ?_
  refine RK K<|ar<|Q1 hQ U U U ?_
  (rw [Pg D E F]; done)
 refine cj<|aP<|KK W<|WS fun _ L=>rP 1 [] mn ?_
 refine RK L<|ar<|Q1 hQ U U U ?_
 (rw [QO D E F]; done)
theorem vG (j:cS) (kA:OA) (kC:Nat) (az:List RA) (cA:OA) (cC:Nat) (bA:OA) (bC:Nat) (slA:OA) (slC:Nat) (drA:OA) (drC:Nat) (ha:List cD) (heA:OA) (heC:Nat) (faA:OA) (faC:Nat) (prA:OA) (prC:Nat) (i:Int) (p:br) (hin:gZ j az ha) (hok:dG j=0) (hp: ∃ i:Nat,j.aJ[i]? =some p):
 dA Tryz.prog 42 [(vA (df.cells (df.mk (nq j kA kC cA cC bA bC slA slC drA drC heA heC faA faC prA prC)))),(vI i),(vA (br.cells p))] [(rd kA j.Race.ao.aO.length 9 (j.Race.ao.aO.map au.cells)),(rd cA j.Race.ao.aj.length 2 (List.zipWith ax.cells j.Race.ao.aj az)),(dE (bg ax.e_ j.Race.ao.aj az)),(rd bA j.Race.ao.ab.length 4 (j.Race.ao.ab.map bK.cells)),(rd slA j.Race.aV.length 1 (j.Race.aV.map iC)),(rd drA j.Race.bV.length 1 (j.Race.bV.map iC)),(rd heA j.Race.av.length 1 (List.zipWith bW j.Race.av ha)),(dE (bg er j.Race.av ha)),(rd faA j.aS.length 4 (j.aS.map aZ.cells)),(rd prA j.aJ.length 5 (j.aJ.map br.cells))] (vB (iD j p)):=by
 have O:=hin.race
 have V:=hin.race.line
 have h:=hin.race.g6
 have k:=hin.race.has
 have c:=hin.race.g7
 have Y:=hin.nf
 have b:=hin.np
 have M:=(eA hok).1
 have E:=(eA hok).2
 have AA:=(eg M).1
 have X:=(eg M).2
 have T:=(d_ AA).2.head
 unfold e7 at T
 obtain ⟨pi,N⟩:=hp
 have F:=E.ic pi p N
 have n:=F.eo
 have W:=F.jT
 simp only [mD] at W
 have m:=F.fault
 have l:=E.min_
 refine bJ kr Tryz.func42 U U fun u Q hQ hN=>?_
 try dsimp only
 refine WS fun _ P=>eG U fun r=>eG U fun s=>bI 1 U<|RK P<|aq fun _ G=>cU cg 29 kr<|kv 2 [0,1] (mc 1 U (mc 0 U mn)) U<|dS (CL (Kg j kA kC az cA cC bA bC slA slC drA drC ha heA heC faA faC prA prC p hin hok (by exact ⟨pi,N⟩)) (bk [2,3,4,5,6,7,8,9,10,11]) U)<|dS (BI U rE)<|dP 1 [] mn ?_
 refine hP (t:=11) U (aY fun D=>?_) (aW fun D=>?_)
 ·refine kR 17 U<|kR 2 U<|dP 5 [] mn ?_
  refine cx<|RK G<|ar<|Q1 hQ U U U ?_
  (rw [I3 D]; done)
 refine dP 6 [0,0,1] (mc 1 U (mc 0 U mn)) ?_
 obtain ⟨f,hf⟩:=aC j.aS ((p.j5).toNat) I
 have S:=bO aZ.cells hf
 refine dS (IA ((p.j5).toNat) U (ay 10 U) Br dc I I)<|dS (jE ((p.j5).toNat) 0 (aZ.cells f) U bU (ay 10 U) S U dc U U)<|dP 6 [0,1] (mc 1 U (mc 0 U mn)) ?_
 obtain ⟨ht,C⟩:=aC j.Race.av ((p.jm).toNat) I
 obtain ⟨A,B⟩:=aC ha ((p.jm).toNat) I
 have L:(List.zipWith bW j.Race.av ha)[(p.jm).toNat]? =some (bW ht A):=cv C B
 refine dS (IA ((p.jm).toNat) U (ay 8 U) j7 dc I I)<|dS (gD ((p.jm).toNat) 0 (vS A.1.1 ht.length A.1.2) U bU (ay 8 U) L U dc U)<|dP 1 [] mn ?_
 have K:=O.eo _ _ _ C B
 have Z:=K.lz
 have a:=(X.eo ht (aM C)).1
 refine dP 1 [] (mc 0 U mn) ?_
 obtain ⟨d,hd⟩:=aC ht ((p.iQ).toNat) I
 obtain ⟨da,AB⟩:=aC A.2 ((p.iQ).toNat) I
 have R:(List.zipWith ak.cells ht A.2)[(p.iQ).toNat]? =some (ak.cells d da):=cv hd AB
 refine dS (IA ((p.iQ).toNat) U (show fY _ (rd A.1.1 ht.length 7 (List.zipWith ak.cells ht A.2)).holds from (bY 9 U (a_ C B bX))) mJ dc I I) ?_
 have H:=o3 (j:=j) (p:=p) C hd
 have o:=K.sig d (aM hd)
 have J:=E.fault f (aM hf)
 have g:0≤f.ig∧f.ig≤1000000:=by have e:=J.2.2; split at e<;>omega
 refine dS (jE ((p.iQ).toNat) 0 (aG.cells (aG.mk d.Out d.cJ d.Time (cL.mk d.aX.Start d.aX.gj (bE.mk da.1 d.aX.aa.length da.2)))) U bU (show fY _ (rd A.1.1 ht.length 7 (List.zipWith ak.cells ht A.2)).holds from (bY 9 U (a_ C B bX))) R U dc U U)<|dS (CL (Av j kA kC az cA cC bA bC slA slC drA drC ha heA heC faA faC prA prC f d da.1 da.2 hin (by exact J.1) asm asm) (ld [2,3,4,5,6,7,8,9,10,11]<|aD (show fY _ (rd da.1 d.aX.aa.length 2 (d.aX.aa.map aF.cells)).holds from (bY 9 U (a_ C B (dh _ (a_ hd AB (by simp [ak.e_]))))))<|aL) U)<|dS (BI U rE)<|dP 2 [] mn ?_
 refine cx<|RK G<|ar<|Q1 hQ U U U ?_
 (rw [Ls H hf (fun q=>D q)]; done)
end
section
open Go.RowKit
theorem Jj (j:cS) (kA:OA) (kC:Nat) (az:List RA) (cA:OA) (cC:Nat) (bA:OA) (bC:Nat) (slA:OA) (slC:Nat) (drA:OA) (drC:Nat) (ha:List cD) (heA:OA) (heC:Nat) (faA:OA) (faC:Nat) (prA:OA) (prC:Nat) (hin:gZ j az ha):
 dA Tryz.prog 37 [(vA (gh.cells (nq j kA kC cA cC bA bC slA slC drA drC heA heC faA faC prA prC)))] [(rd gd 3 2 fj),(rd kA j.Race.ao.aO.length 9 (j.Race.ao.aO.map au.cells)),(rd cA j.Race.ao.aj.length 2 (List.zipWith ax.cells j.Race.ao.aj az)),(dE (bg ax.e_ j.Race.ao.aj az)),(rd bA j.Race.ao.ab.length 4 (j.Race.ao.ab.map bK.cells)),(rd slA j.Race.aV.length 1 (j.Race.aV.map iC)),(rd drA j.Race.bV.length 1 (j.Race.bV.map iC)),(rd heA j.Race.av.length 1 (List.zipWith bW j.Race.av ha)),(dE (bg er j.Race.av ha)),(rd faA j.aS.length 4 (j.aS.map aZ.cells)),(rd prA j.aJ.length 5 (j.aJ.map br.cells))] (vI (dG j)):=by
 have GT:=hin.race
 have K8:=hin.race.line
 have Pl:=hin.race.g6
 have QS:=hin.race.has
 have Op:=hin.race.g7
 have Md:=hin.nf
 have Ne:=hin.np
 refine bJ kr Tryz.func37 U U fun w0 Q hQ hN=>?_
 try dsimp only
 refine WS fun _ J4=>eG U fun b2=>bI 1 U<|RK J4<|AY U<|aq fun _ J5=>WS fun _ J6=>bI 1 U<|rS (LP (cW.cells (vx j.Race kA kC cA cC bA bC slA slC drA drC heA heC)) 0 U bU U U U)<|rS (CL (yF j.Race kA kC az cA cC bA bC slA slC drA drC ha heA heC asm) (bk [1,2,3,4,5,6,7,8,9]) U)<|bI 1 U<|RK J6<|WS fun _ J7=>rP 2 [] mn ?_
 refine RK J7<|ck U (aW fun A=>?_) (aY fun A=>?_)
 ·refine WS fun _ J8=>rP 2 [] mn ?_
  refine RK J8<|ar<|Q1 hQ U U U ?_
  exact cI (zy A).symm
 refine WK J5<|WS fun _ J9=>rP 2 [] (mc 0 U mn) ?_
 refine rS (FU U) ?_
 refine cX (MG j.aS faA faC (Value.func (.func 68) [].toArray [(vP b2)].toArray) (fun u8 u9=>(decide (¬ oT j.Race.ao.cd u9))) (dE [(cz b2 36 (gh.cells (nq j kA kC cA cC bA bC slA slC drA drC heA heC faA faC prA prC)))]) (by intro u8 u9 LA; exact k9 (fi:=[]) (ca:=[(vP b2)]) (j3 (Lv u8 u9 j kA kC cA cC bA bC slA slC drA drC heA heC faA faC prA prC b2 (by (obtain ⟨i_,_,K4⟩:=LA; exact hin.kind _ (aM K4)))) (bk [0]))) asm) (dM 10 rfl rfl<|aD (j2 (bk [0]))<|aL) rfl fun Lo Or=>?_
 obtain ⟨PG,PT⟩:=Lo
 try dsimp only
 refine bI 1 U<|RK J9<|aq fun _ b=>WS fun _ G=>rP 5 [] (mc 1 U mn) ?_
 refine bT (t:=25) U (aT fun I1=>?_) (aU fun I1=>?_)
 ·refine bI 24 U<|RK G<|aN U<|WS fun _ c=>rP 1 [] mn ?_
  refine RK c<|ar<|Q1 hQ U U U ?_
  exact cI (jH A (fun q=>by have AA:=q.nf; have O:=q.min_; have V:=q.tf; have W:=q.np; omega)).symm
 refine rP 5 [] mn ?_
 refine bT (t:=30) U (aT fun S=>?_) (aU fun S=>?_)
 ·refine bI 19 U<|RK G<|aN U<|WS fun _ e=>rP 1 [] mn ?_
  refine RK e<|ar<|Q1 hQ U U U ?_
  exact cI (jH A (D0 S)).symm
 refine rP 2 [] (mc 1 U mn) ?_
 refine eu (xs:=[.tmp 32]) (cs:=[(vI j.iw)]) U dy j8 U U U U (by simp [Value.cells]) U U fun Hi=>?_
 refine rS (CL (dA.eq (ik 0 60 ([j.iw]) (some ⟨Hi,0,none⟩) 1 (by (simp; done))) cy) (aD (bx 0 U U (by simp [bP]) U)<|aL) U) ?_
 refine rP 3 [] mn ?_
 refine bT (t:=37) U (aW fun Jm=>?_) (aY fun Jm=>?_)
 ·refine bI 12 U<|RK G<|aN U<|WS fun _ f=>rP 1 [] mn ?_
  refine RK f<|ar<|Q1 hQ U U U ?_
  exact cI (jH A (fun q=>by have AA:=q.nf; have O:=q.min_; have V:=q.tf; have W:=q.np; omega)).symm
 refine rP 2 [] (mc 2 U mn) ?_
 refine eu (xs:=[.tmp 39]) (cs:=[(vI j.Df)]) U dy j8 U U U U (by simp [Value.cells]) U U fun H1=>?_
 refine rS (CL (dA.eq (ik 0 100000 ([j.Df]) (some ⟨H1,0,none⟩) 1 (by (simp; done))) cy) (aD (bx 0 U U (by simp [bP]) U)<|aL) U) ?_
 refine rP 3 [] mn ?_
 refine bT (t:=44) U (aW fun J2=>?_) (aY fun J2=>?_)
 ·refine bI 5 U<|RK G<|aN U<|WS fun _ g=>rP 1 [] mn ?_
  refine RK g<|ar<|Q1 hQ U U U ?_
  exact cI (jH A (fun q=>by have AA:=q.nf; have O:=q.min_; have V:=q.tf; have W:=q.np; omega)).symm
 refine rP 5 [] (mc 3 U mn) ?_
 refine RK G<|ck U (aT fun J3=>?_) (aU fun J3=>?_)
 ·refine WS fun _ h=>rP 1 [] mn ?_
  refine RK h<|ar<|Q1 hQ U U U ?_
  exact cI (jH A (fun q=>by have AA:=q.nf; have O:=q.min_; have V:=q.tf; have W:=q.np; omega)).symm
 refine WK b<|WS fun _ l=>bI 1 U<|RK l<|WS fun _ m=>bI 1 U<|RK m<|aq fun _ n=>Ag<|KK n<|aq fun _ C=>WS fun _ o=>rP 4 [] (mc 3 U mn) ?_
 refine RK o<|aH ?_
 have N:(0≤j.aJ.length)∧(oE j 0):=by exact ⟨Nat.zero_le _,yk⟩
 refine bS (ι:={z:Nat // (z≤j.aJ.length)∧(oE j z)}) [1,5,51,52] [2,3,4,5,6,7,8,9,10,11,12,13,14] U U (fun z=>[(6,(vI (pM j z.1))),(53,(vI (z.1:Int)))]) (fun z=>[]) (fun _=>rfl) (fun _=>rfl) (fun z=>j.aJ.length-z.1) ⟨0,N⟩ (bD U) (aR [2,3,4,5,6,7,8,9,10,11,12,13,14]) ?_
 clear N
 rintro ⟨k,⟨B,D⟩⟩ J28 P
 try dsimp only
 refine WS fun _ r=>rP 1 [] mn ?_
 refine RK r<|aq fun _ s=>bR U (aU fun JU=>?_) (aT fun JU=>?_)
 ·refine bQ<|ag<|ag<|aI<|KK C<|WS fun _ Di=>rP 2 [] mn ?_
  refine RK Di<|ar<|Q1 hQ U U U ?_
  exact cI (xy A ⟨I,B2 S,I,I,I,fun i p hi=>D i p (by have:=(bf.1 hi).1; omega) hi⟩).symm
 refine WK s<|aq fun _ R=>aH<|WS fun _ u=>?_
 obtain ⟨p,hp⟩:=aC j.aJ k I
 have LE:=bO br.cells hp
 refine rS (IA k U (ay 12 U) DK dc I I)<|rS (jE k 0 (br.cells p) U bU (ay 12 U) LE U dc U U)<|AL U FB fun PP=>eN U Ly U<|RK u<|WS fun _ AB=>rP 1 [] mn ?_
 have K5:=Nc D B
 refine rP 3 [] (mc 0 U mn) ?_
 refine eu (xs:=[.tmp 60]) (cs:=[(vI p.Id)]) U dy j8 U U U U (by simp [Value.cells]) U U fun IO=>?_
 refine rS (CL (dA.eq (ik ((pM j k)+1) 9999 ([p.Id]) (some ⟨IO,0,none⟩) 1 (by (simp; done))) cy) (aD (bx 0 U U (by simp [bP]) U)<|aL) U) ?_
 refine rP 1 [] mn ?_
 refine cG (t:=63) U (aU fun Y=>?_) (aT fun Y=>?_)
 ·refine bI 32 U<|RK AB<|aq fun _ Cx=>WS fun _ C0=>bI 1 U<|RK C0<|cp U<|WK Cx<|aq fun _ MQ=>WS fun _ C1=>bI 2 U<|RK C1<|aN U<|WS fun _ C2=>bI 1 U<|RK C2<|bQ<|ag<|fG U<|ag<|ag<|aI<|KK C<|WS fun _ C3=>rP 2 [] mn ?_
  refine RK C3<|ar<|Q1 hQ U U U ?_
  exact cI (jH A (sb hp (fun q=>by have q0:=wQ q B; have AA:=q.id; have O:=q.jT; have V:=q.eo; have W:=q.fault; simp only [mD] at O; omega))).symm
 refine rP 7 [0,1] (mc 3 U (mc 1 U mn)) ?_
 refine eu (xs:=[.tmp 70]) (cs:=[(vI p.iQ)]) U dy j8 U U U U (by simp [Value.cells]) U U fun IR=>?_
 refine rS (CL (dA.eq (ik 0 ((j.Race.aV.length:Int)-1) ([p.iQ]) (some ⟨IR,0,none⟩) 1 (by (simp; done))) cy) (aD (bx 0 U U (by simp [bP]) U)<|aL) U) ?_
 refine rP 2 [] mn ?_
 refine cG (t:=74) U (aU fun Z=>?_) (aT fun Z=>?_)
 ·refine bI 21 U<|RK AB<|aq fun _ B3=>WS fun _ B9=>bI 1 U<|RK B9<|cp U<|WK B3<|aq fun _ L3=>WS fun _ Ci=>bI 2 U<|RK Ci<|aN U<|WS fun _ Ck=>bI 1 U<|RK Ck<|bQ<|ag<|fG U<|ag<|ag<|aI<|KK C<|WS fun _ Cp=>rP 2 [] mn ?_
  refine RK Cp<|ar<|Q1 hQ U U U ?_
  exact cI (jH A (sb hp (fun q=>by have q0:=wQ q B; have AA:=q.id; have O:=q.jT; have V:=q.eo; have W:=q.fault; simp only [mD] at O; omega))).symm
 refine rP 7 [0,1] (mc 4 U (mc 2 U mn)) ?_
 refine eu (xs:=[.tmp 81]) (cs:=[(vI p.jm)]) U dy j8 U U U U (by simp [Value.cells]) U U fun Ia=>?_
 refine rS (CL (dA.eq (ik 0 ((j.Race.av.length:Int)-1) ([p.jm]) (some ⟨Ia,0,none⟩) 1 (by (simp; done))) cy) (aD (bx 0 U U (by simp [bP]) U)<|aL) U) ?_
 refine rP 2 [] mn ?_
 refine cG (t:=85) U (aU fun a=>?_) (aT fun a=>?_)
 ·refine bI 10 U<|RK AB<|aq fun _ A6=>WS fun _ A7=>bI 1 U<|RK A7<|cp U<|WK A6<|aq fun _ L2=>WS fun _ A8=>bI 2 U<|RK A8<|aN U<|WS fun _ A9=>bI 1 U<|RK A9<|bQ<|ag<|fG U<|ag<|ag<|aI<|KK C<|WS fun _ Bh=>rP 2 [] mn ?_
  refine RK Bh<|ar<|Q1 hQ U U U ?_
  exact cI (jH A (sb hp (fun q=>by have q0:=wQ q B; have AA:=q.id; have O:=q.jT; have V:=q.eo; have W:=q.fault; simp only [mD] at O; omega))).symm
 refine rP 6 [0,1] (mc 5 U (mc 3 U mn)) ?_
 refine eu (xs:=[.tmp 91]) (cs:=[(vI p.j5)]) U dy j8 U U U U (by simp [Value.cells]) U U fun If=>?_
 refine rS (CL (dA.eq (ik 0 ((j.aS.length:Int)-1) ([p.j5]) (some ⟨If,0,none⟩) 1 (by (simp; done))) cy) (aD (bx 0 U U (by simp [bP]) U)<|aL) U) ?_
 refine bI 2 U<|RK AB<|aq fun _ L=>WS fun _ v=>rP 1 [] mn ?_
 refine RK v<|bR U (aU fun T=>?_) (aT fun T=>?_)
 ·refine WK L<|aq fun _ A2=>WS fun _ A3=>rP 2 [] mn ?_
  refine RK A3<|bR U (aY fun F=>?_) (aW fun F=>?_)
  ·refine WK A2<|aw<|eV 3 [] (mc 4 U mn) U<|aK<|aP<|KK R<|aw<|rP 2 [] mn ?_
   refine aK ?_
   have FS:(vI (pM j (k+1)))=(vI p.Id):=by exact cI (oh hp)
   have Fd:(vI (((k+1):Nat):Int))=(vI ((k:Int)+1)):=by exact cI I
   refine bu (P ⟨(k+1),(by exact absurd F T)⟩ _ _ _ U os (cP 4<|bw U FS<|bw U Fd<|dp.nil _) (aR [5,6,7,8,9,10,11,12,13,14,15,16,17]))
  refine WS fun _ A4=>bI 1 U<|RK A4<|bQ<|ag<|fG U<|ag<|ag<|aI<|KK C<|WS fun _ A5=>rP 2 [] mn ?_
  refine RK A5<|ar<|Q1 hQ U U U ?_
  exact cI (jH A (sb hp (fun q=>by have q0:=wQ q B; have AA:=q.id; have O:=q.jT; have V:=q.eo; have W:=q.fault; simp only [mD] at O; omega))).symm
 refine aq fun _ w=>dH cg [11,12] [] [] [0,1,2,3,4,5,6,7,8,9,10,11,12,13,14,15,16,17] [] U U U U U<|eS U (FA 0 U eU U)<|eS U (FA 10 U eU U)<|eS U (L1 (vS heA j.Race.av.length heC) 6 U bU U U)<|eS U (FA 2 U eU U)<|eS U (L1 (vI p.jm) 4 U bU U U) ?_
 have LT:=(eg A).2
 obtain ⟨ht,K⟩:=aC j.Race.av ((p.jm).toNat) I
 obtain ⟨E,J⟩:=aC ha ((p.jm).toNat) I
 have GE:(List.zipWith bW j.Race.av ha)[(p.jm).toNat]? =some (bW ht E):=cv K J
 refine eS U (IA ((p.jm).toNat) U (ay 14 U) j7 dc I I)<|eS U (gD ((p.jm).toNat) 0 (vS E.1.1 ht.length E.1.2) U bU (ay 14 U) GE U dc U)<|eS U (FA 1 U eU U) ?_
 have Fn:=GT.eo _ _ _ K J
 have M2:=Fn.lz
 have NE:=(LT.eo ht (aM K)).1
 refine eS U (L1 (vI p.iQ) 4 U bU U U) ?_
 obtain ⟨d,hd⟩:=aC ht ((p.iQ).toNat) I
 obtain ⟨da,Kq⟩:=aC E.2 ((p.iQ).toNat) I
 have K0:(List.zipWith ak.cells ht E.2)[(p.iQ).toNat]? =some (ak.cells d da):=cv hd Kq
 refine eS U (IA ((p.iQ).toNat) U (show fY _ (rd E.1.1 ht.length 7 (List.zipWith ak.cells ht E.2)).holds from (bY 15 U (a_ K J bX))) mJ dc I I) ?_
 have M:=o3 (j:=j) (p:=p) K hd
 have Qa:=Fn.sig d (aM hd)
 refine eS U (jE ((p.iQ).toNat) 0 (aG.cells (aG.mk d.Out d.cJ d.Time (cL.mk d.aX.Start d.aX.gj (bE.mk da.1 d.aX.aa.length da.2)))) U bU (show fY _ (rd E.1.1 ht.length 7 (List.zipWith ak.cells ht E.2)).holds from (bY 15 U (a_ K J bX))) K0 U dc U U)<|ek U<|cq U fun T43 Do=>AL U Bx fun PS=>aK (Do _ _ (aR [1,2,3,4,5,6,7,8,9,10,11,12,13,14,15,16,17,18]) ?_)
 refine cq U fun T45 EQ=>eN U DN U<|aK (EQ _ _ (aR [1,2,3,4,5,6,7,8,9,10,11,12,13,14,15,16,17,18]) ?_)
 refine fJ U<|KK w<|aw<|eV 1 [] (mc 0 U mn) U<|rS (CL (tU d.Out d.cJ d.Time (cL.mk d.aX.Start d.aX.gj (bE.mk da.1 d.aX.aa.length da.2))) (aL) U)<|rP 1 [] mn ?_
 refine cG (t:=109) U (aU fun H=>?_) (aT fun H=>?_)
 ·refine bI 9 U<|RK L<|aq fun _ L0=>WS fun _ Ab=>bI 2 U<|RK Ab<|aN U<|WS fun _ A0=>bI 1 U<|RK A0<|bQ<|ag<|fG U<|ag<|ag<|aI<|KK C<|WS fun _ A1=>rP 2 [] mn ?_
  refine RK A1<|ar<|Q1 hQ U U U ?_
  exact cI (jH A (sb hp (fun q=>by obtain ⟨d2,X,r1,r2⟩:=q.lZ; rw [M] at X; cases X; first|exact H r1|omega))).symm
 refine rP 5 [0,1] (mc 0 U (mc 5 U mn)) ?_
 refine eu (xs:=[.tmp 114]) (cs:=[(vI p.At)]) U dy j8 U U U U (by simp [Value.cells]) U U fun In=>?_
 refine rS (CL (dA.eq (ik d.aX.Start 86400000 ([p.At]) (some ⟨In,0,none⟩) 1 (by (simp; done))) cy) (aD (bx 0 U U (by simp [bP]) U)<|aL) U) ?_
 refine bI 2 U<|RK L<|aq fun _ x=>WS fun _ y=>rP 2 [] mn ?_
 refine RK y<|bR U (aY fun F=>?_) (aW fun F=>?_)
 ·refine WK x<|aw<|eV 3 [] (mc 6 U mn) U<|aK<|aP<|KK R<|aw<|rP 2 [] mn ?_
  refine aK ?_
  have Eq:(vI (pM j (k+1)))=(vI p.Id):=by exact cI (oh hp)
  have FO:(vI (((k+1):Nat):Int))=(vI ((k:Int)+1)):=by exact cI I
  refine bu (P ⟨(k+1),(by exact ⟨I,tw D hp (Mj hp Y K5.1 Z a T M H F)⟩)⟩ _ _ _ U os (cP 4<|bw U Eq<|bw U FO<|dp.nil _) (aR [7,8,9,10,11,12,13,14,15,16,17,18,19]))
 refine WS fun _ AC=>bI 1 U<|RK AC<|bQ<|ag<|fG U<|ag<|ag<|aI<|KK C<|WS fun _ AO=>rP 2 [] mn ?_
 refine RK AO<|ar<|Q1 hQ U U U ?_
 exact cI (jH A (sb hp (fun q=>by obtain ⟨d2,X,r1,r2⟩:=q.lZ; rw [M] at X; cases X; first|exact H r1|omega))).symm
theorem r8 (j:cS) (kA:OA) (kC:Nat) (az:List RA) (cA:OA) (cC:Nat) (bA:OA) (bC:Nat) (slA:OA) (slC:Nat) (drA:OA) (drC:Nat) (ha:List cD) (heA:OA) (heC:Nat) (faA:OA) (faC:Nat) (prA:OA) (prC:Nat) (hin:gZ j az ha):
 dA Tryz.prog 40 [(vA (gh.cells (nq j kA kC cA cC bA bC slA slC drA drC heA heC faA faC prA prC)))] [(rd gd 3 2 fj),(rd kA j.Race.ao.aO.length 9 (j.Race.ao.aO.map au.cells)),(rd cA j.Race.ao.aj.length 2 (List.zipWith ax.cells j.Race.ao.aj az)),(dE (bg ax.e_ j.Race.ao.aj az)),(rd bA j.Race.ao.ab.length 4 (j.Race.ao.ab.map bK.cells)),(rd slA j.Race.aV.length 1 (j.Race.aV.map iC)),(rd drA j.Race.bV.length 1 (j.Race.bV.map iC)),(rd heA j.Race.av.length 1 (List.zipWith bW j.Race.av ha)),(dE (bg er j.Race.av ha)),(rd faA j.aS.length 4 (j.aS.map aZ.cells)),(rd prA j.aJ.length 5 (j.aJ.map br.cells))] (vT [(vA (df.cells (df.mk (nq j kA kC cA cC bA bC slA slC drA drC heA heC faA faC prA prC)))),(vI (dG j))]):=by
 refine bJ kr Tryz.func40 U U fun E Q hQ hN=>?_
 try dsimp only
 refine WS fun _ A=>eG U fun C=>AL U Dn fun D=>bI 1 U<|RK A<|aq fun _ B=>cU cg 4 kr<|kv 1 [] (mc 1 U mn) U<|dS (SX (bq (xs:=[(0,.tmp 4)]) (cs:=(df.cells (df.mk (nq j kA kC cA cC bA bC slA slC drA drC heA heC faA faC prA prC)))) U U (bp Ve U)) U U)<|kv 1 [] (mc 1 U mn) U<|dS (CL (Jj j kA kC az cA cC bA bC slA slC drA drC ha heA heC faA faC prA prC hin) (bk [2,3,4,5,6,7,8,9,10,11,12]) U)<|cx<|eN U EA U<|rP 1 [] mn ?_
 refine RK B<|ar<|l4 hQ [0] (mc 0 U mn) U ?_
 rfl
end
section
open Go.RowKit
theorem KT (l:List aZ) (lA:OA) (lC:Nat) (f:Value) (p:aZ→Bool) (X:aA) (hf: ∀ x0,x0∈l→Ev Tryz.prog f [.agg (aZ.cells x0).toArray] [X] (.bool (p x0))) (hlen:l.length≤1000000):
 dA Tryz.prog 123 [(vS lA l.length lC),f] [(rd lA l.length 4 (l.map aZ.cells)),X] (vI (sV p l)):=by
 refine bJ kr Tryz.func123 U U fun R Q hQ hN=>?_
 try dsimp only
 refine WS fun _ G=>bI 1 U<|RK G<|aq fun _ H=>WS fun _ AA=>rP 3 [] mn ?_
 refine RK AA<|aH ?_
 have B:(0≤l.length)∧((l.take 0).any p=false):=by simp
 refine bS (ι:={z:Nat // (z≤l.length)∧((l.take z).any p=false)}) [0,1,7] [0,1] U U (fun z=>[(8,(vI (z.1:Int)))]) (fun z=>[]) (fun _=>rfl) (fun _=>rfl) (fun z=>l.length-z.1) ⟨0,B⟩ (bD U) (aR [0,1]) ?_
 clear B
 rintro ⟨i,⟨N,A⟩⟩ J4 F
 try dsimp only
 refine WS fun _ J=>rP 1 [] mn ?_
 refine RK J<|aq fun _ K=>bR U (aU fun P=>?_) (aT fun P=>?_)
 ·refine bQ<|ag<|ag<|aI<|KK H<|WS fun _ E=>rP 1 [] mn ?_
  refine RK E<|ar<|Q1 hQ U U U ?_
  exact cI (pX I A).symm
 refine WK K<|aq fun _ L=>aH<|WS fun _ M=>bI 2 U<|RK M<|WS fun _ C=>rP 3 [] mn ?_
 obtain ⟨x,hx⟩:=aC l i I
 have O:=bO aZ.cells hx
 refine rS (IA i U (ay 0 U) Br dc I I)<|rS (jE i 0 (aZ.cells x) U bU (ay 0 U) O U dc U U)<|rS (SX (qj U U U (hf x (aM hx)) (bk [1])) U U)<|RK C<|ck U (fun hp=>?_) (fun hp=>?_)
 ·refine WS fun _ D=>rP 2 [] mn ?_
  refine RK D<|ar<|Q1 hQ U U U ?_
  exact cI (uH hx hp A).symm
 refine cj<|aP<|KK L<|aw<|rP 2 [] mn ?_
 refine aK ?_
 refine bu (F ⟨(i+1),⟨I,uK hx A hp⟩⟩ _ _ _ U os (bD U) (aR [0,1]))
theorem Cn (l:List aZ) (lA:OA) (lC:Nat) (f:Value) (p:aZ→Bool) (X:aA) (hf: ∀ x0,x0∈l→Ev Tryz.prog f [.agg (aZ.cells x0).toArray] [X] (.bool (p x0))) (hlen:l.length≤1000000):
 dA Tryz.prog 98 [(vS lA l.length lC),f] [(rd lA l.length 4 (l.map aZ.cells)),X] (vB (l.any p)):=by
 refine bJ kr Tryz.func98 U U fun C Q hQ hN=>?_
 try dsimp only
 refine WS fun _ A=>bI 1 U<|RK A<|WS fun _ B=>bI 2 U<|rS (CL (KT l lA lC f p X (by exact hf) hlen) (bk [0,1]) U)<|rP 2 [] mn ?_
 refine RK B<|ar<|Q1 hQ U U U ?_
 exact cB su
theorem Qk (f:aZ) (fm:List (Int×Bool)) (gm:Nat) (j:cS) (kA:OA) (kC:Nat) (az:List RA) (cA:OA) (cC:Nat) (bA:OA) (bC:Nat) (slA:OA) (slC:Nat) (drA:OA) (drC:Nat) (ha:List cD) (heA:OA) (heC:Nat) (faA:OA) (faC:Nat) (prA:OA) (prC:Nat) (d:ak) (sgA:OA) (sgC g1:Nat) (g2 g3:Nat) (hin:gZ j az ha) (hok:dG j=0) (hfm:f∈j.aS) (hsl:d.aX.aa.length≤1000000):
 dA Tryz.prog 99 [(vA (aZ.cells f)),(vP g1),(vP g2),(vP g3)] [(ku iV gm (cV vB fm)),(rd kA j.Race.ao.aO.length 9 (j.Race.ao.aO.map au.cells)),(rd cA j.Race.ao.aj.length 2 (List.zipWith ax.cells j.Race.ao.aj az)),(dE (bg ax.e_ j.Race.ao.aj az)),(rd bA j.Race.ao.ab.length 4 (j.Race.ao.ab.map bK.cells)),(rd slA j.Race.aV.length 1 (j.Race.aV.map iC)),(rd drA j.Race.bV.length 1 (j.Race.bV.map iC)),(rd heA j.Race.av.length 1 (List.zipWith bW j.Race.av ha)),(dE (bg er j.Race.av ha)),(rd faA j.aS.length 4 (j.aS.map aZ.cells)),(rd prA j.aJ.length 5 (j.aJ.map br.cells)),(rd sgA d.aX.aa.length 2 (d.aX.aa.map aF.cells)),(cz g1 144 [(Value.map (some gm))]),(cz g2 97 (df.cells (df.mk (nq j kA kC cA cC bA bC slA slC drA drC heA heC faA faC prA prC)))),(cz g3 43 (aG.cells (aG.mk d.Out d.cJ d.Time (iM d.aX sgA sgC))))] (vB (((List.lookup (oS j.aS f) fm).getD false)&& !decide (g_ j.Race.ao f d=0))):=by
 have L:=hin.race
 have AB:=hin.race.line
 have P:=hin.race.g6
 have R:=hin.race.has
 have M:=hin.race.g7
 have J:=hin.nf
 have K:=hin.np
 have D:=(eA hok).1
 have G:=(eA hok).2
 have H:=(eg D).1
 have S:=(eg D).2
 have F:=(d_ H).2.head
 unfold e7 at F
 have C:=G.fault f hfm
 have O:0≤f.ig∧f.ig≤1000000:=by have N:=C.2.2; split at N<;>omega
 refine bJ kr Tryz.func99 U U fun AA Q hQ hN=>?_
 try dsimp only
 refine WS fun _ E=>eG U fun T=>bI 1 U<|RK E<|aq fun _ B=>cU cg 15 kr<|kv 5 [0,1,2] (mr 13 U (mr 14 U (mc 0 U mn))) U<|dS (CL (BO j.aS faA faC f asm) (bk [10]) U)<|dS (SX (v7 (kV:=iV) (x:=(oS j.aS f)) (l:=fm) (f:=Value.bool) (z:=false) U U U Bi (iH qu) VH (by exact NK 1 U)) U U)<|dP 1 [] mn ?_
 refine hP (t:=13) U (fun A=>?_) (fun A=>?_)
 ·refine dP 7 [] mn ?_
  refine cx<|RK B<|ar<|Q1 hQ U U U ?_
  (rw [A,Bool.false_and]; done)
 refine kv 3 [0,1,2] (mr 14 U (mc 0 U (mr 15 U mn))) U<|dS (CL (Av j kA kC az cA cC bA bC slA slC drA drC ha heA heC faA faC prA prC f d sgA sgC hin (by exact C.1) asm hsl) (bk [2,3,4,5,6,7,8,9,10,11,12]) U)<|dS (BI U rE)<|dP 2 [] mn ?_
 refine cx<|RK B<|ar<|Q1 hQ U U U ?_
 (rw [A,Bool.true_and]; done)
end
section
open Go.RowKit
theorem NH (fm:List (Int×Bool)) (gm:Nat) (j:cS) (kA:OA) (kC:Nat) (az:List RA) (cA:OA) (cC:Nat) (bA:OA) (bC:Nat) (slA:OA) (slC:Nat) (drA:OA) (drC:Nat) (ha:List cD) (heA:OA) (heC:Nat) (faA:OA) (faC:Nat) (prA:OA) (prC g1 g2:Nat) (hin:gZ j az ha) (hok:dG j=0):
 Pv Tryz.prog 97 [] [(vP g1),(vP g2)] [(ku iV gm (cV vB fm)),(rd kA j.Race.ao.aO.length 9 (j.Race.ao.aO.map au.cells)),(rd cA j.Race.ao.aj.length 2 (List.zipWith ax.cells j.Race.ao.aj az)),(dE (bg ax.e_ j.Race.ao.aj az)),(rd bA j.Race.ao.ab.length 4 (j.Race.ao.ab.map bK.cells)),(rd slA j.Race.aV.length 1 (j.Race.aV.map iC)),(rd drA j.Race.bV.length 1 (j.Race.bV.map iC)),(rd heA j.Race.av.length 1 (List.zipWith bW j.Race.av ha)),(dE (bg er j.Race.av ha)),(rd faA j.aS.length 4 (j.aS.map aZ.cells)),(rd prA j.aJ.length 5 (j.aJ.map br.cells)),(cz g1 97 (df.cells (df.mk (nq j kA kC cA cC bA bC slA slC drA drC heA heC faA faC prA prC)))),(cz g2 144 [(Value.map (some gm))])] ((0:Nat)) (J0 (hZ j (lL j.aS fm))) (fun k=>k=j.Race.av.length):=by
 have Cx:=hin.race
 have Ia:=hin.race.line
 have J6:=hin.race.g6
 have J7:=hin.race.has
 have Jm:=hin.race.g7
 have If:=hin.nf
 have JU:=hin.np
 have Cp:=(eA hok).1
 have J8:=(eA hok).2
 have IR:=(eg Cp).1
 have Id:=(eg Cp).2
 have H1:=(d_ IR).2.head
 unfold e7 at H1
 refine Mm kr Tryz.func97 U U fun l J Z A0 w0 Q hY Eq EQ hQ hN=>?_
 try dsimp only
 refine WS fun _ FS=>rP 6 [] (mr 12 U mn) ?_
 refine RK FS<|aH ?_
 have B:(0≤j.Race.av.length)∧(J 0 A0)∧(Fo A0 w0 A0):=by exact ⟨Nat.zero_le _,Eq,EQ⟩
 refine bS (ι:={z:Nat×aA // (z.1≤j.Race.av.length)∧(J z.1 z.2)∧(Fo A0 w0 z.2)}) [0,1,2,15,16] [1,2,3,4,5,6,7,8,9,10,11,12,13] U U (fun z=>[(17,(vI (z.1.1:Int)))]) (fun z=>[z.1.2]) (fun _=>rfl) (fun _=>rfl) (fun z=>j.Race.av.length-z.1.1) ⟨(0,A0),B⟩ (bD U) (aR [1,2,3,4,5,6,7,8,9,10,11,12,13,0]) ?_
 clear B
 rintro ⟨⟨h,A⟩,⟨X,F,G⟩⟩ J2 FO
 try dsimp only at X F G
 try dsimp only
 refine WS fun _ Fd=>rP 1 [] mn ?_
 refine RK Fd<|aq fun _ Fn=>bR U (aU fun h5=>?_) (aT fun h5=>?_)
 ·refine bQ<|ag<|ag<|aI ?_
  refine hN _ _ _ (j0 (vs:=[]) trivial fun w hs=>Pa 13 U (by show h=j.Race.av.length; omega) F G hs)
 refine WK Fn<|aq fun _ GE=>aH<|WS fun _ GT=>?_
 obtain ⟨ht,E⟩:=aC j.Race.av h I
 obtain ⟨C,D⟩:=aC ha h I
 have Ck:(List.zipWith bW j.Race.av ha)[h]? =some (bW ht C):=cv E D
 refine rS (IA h U (ay 7 U) j7 dc I I) ?_
 have Ci:=Cx.eo _ _ _ E D
 have In:=Ci.lz
 have I1:=(Id.eo ht (aM E)).1
 refine rS (gD h 0 (vS C.1.1 ht.length C.1.2) U bU (ay 7 U) Ck U dc U)<|rP 1 [] mn ?_
 refine RK GT<|WS fun _ Go=>mU (kV:=iV) U U fun b9=>?_
 try dsimp only
 refine bI 1 U<|RK Go<|aq fun _ b=>WS fun _ e=>rP 3 [] mn ?_
 refine RK e<|aH ?_
 skip
 have B:(0≤ht.length):=by exact Nat.zero_le _
 refine bS (ι:={z:Nat // (z≤ht.length)}) [0,1,2,5,6,15,16,17,23] [1,2,3,4,5,6,7,8,9,10,11,12,13,14] U U (fun z=>[(24,(vI (z.1:Int)))]) (fun z=>[(ku iV b9 (cV vB (iv (lG j.Race.ao j.aS fm ht) z.1 0)))]) (fun _=>rfl) (fun _=>rfl) (fun z=>ht.length-z.1) ⟨0,B⟩ (bD U) (aR [1,2,3,4,5,6,7,8,9,10,11,12,13,14,0]) ?_
 clear B
 rintro ⟨q,IO⟩ J12 Y
 try dsimp only
 refine WS fun _ g=>rP 1 [] mn ?_
 refine RK g<|aq fun _ i=>ck U (aT fun Df=>?_) (aU fun Df=>?_)
 ·refine WK i<|aq fun _ m=>aH<|WS fun _ o=>bI 2 U<|RK o<|aw<|rP 2 [] mn ?_
  have A4:(eB (iv (lG j.Race.ao j.aS fm ht) q 0) (q:Int) true)=(iv (lG j.Race.ao j.aS fm ht) (q+1) 0):=by exact KF
  refine iX (kV:=iV) (x:=(q:Int)) (C':=[_,_,_,_,_,_,_,_,_,_,_,_,_,_,(ku iV b9 (cV vB (iv (lG j.Race.ao j.aS fm ht) (q+1) 0)))]) 14 U U U U Bi (iH qu) U ((gP _ _ _ _).symm.trans (congrArg _ A4)) U<|aK<|aP<|KK m<|aw<|rP 2 [] mn ?_
  refine aK ?_
  have A5:(vI (((q+1):Nat):Int))=(vI ((q:Int)+1)):=by exact cI I
  refine bu (Y ⟨(q+1),(by first|omega|(simp only []; omega))⟩ _ _ _ U os (cP 9<|bw U A5<|dp.nil _) (aR [0,1,2,3,4,5,6,7,8,9,10,11,12,13,14]))
 refine bQ<|ag<|ag<|aI<|KK b<|aq fun _ p=>WS fun _ r=>rP 3 [] mn ?_
 refine RK r<|aH ?_
 rw [show (iv (lG j.Race.ao j.aS fm ht) q 0)=(iv (lG j.Race.ao j.aS fm ht) ht.length 0) from by rw [show q=ht.length by omega]]
 have B:(0≤ht.length):=by exact Nat.zero_le _
 refine bS (ι:={z:Nat // (z≤ht.length)}) [0,1,2,5,6,15,16,17,30,31] [0,1,2,3,4,5,6,7,8,9,10,11,12,13] U U (fun z=>[(32,(vI (z.1:Int)))]) (fun z=>[(ku iV b9 (cV vB (iv (lG j.Race.ao j.aS fm ht) ht.length z.1)))]) (fun _=>rfl) (fun _=>rfl) (fun z=>ht.length-z.1) ⟨0,B⟩ (bD U) (aR [0,1,2,3,4,5,6,7,8,9,10,11,12,13,14]) ?_
 clear B
 rintro ⟨q,C1⟩ J22 R
 try dsimp only
 refine WS fun _ s=>rP 1 [] mn ?_
 refine RK s<|aq fun _ t=>bR U (aU fun Di=>?_) (aT fun Di=>?_)
 ·refine bQ<|ag<|ag<|aI<|KK p<|WS fun _ y=>bI 1 U<|RK y<|aq fun _ AC=>WS fun _ AO=>rP 3 [] mn ?_
  refine RK AO<|aH ?_
  rw [show (iv (lG j.Race.ao j.aS fm ht) ht.length q)=(iv (lG j.Race.ao j.aS fm ht) ht.length ht.length) from by rw [show q=ht.length by omega]]
  refine eX 3 1 ?_
  have B:(0≤ht.length):=by exact Nat.zero_le _
  refine bS (ι:={z:Nat×(OA)×Nat // (z.1≤ht.length)}) [0,1,2,5,6,15,16,17,47] [1,2,3,4,5,6,7,8,9,10,11,12,13,14,15] U U (fun z=>[(10,(vS z.1.2.1 ((l_ (lG j.Race.ao j.aS fm ht) z.1.1).length) z.1.2.2)),(48,(vI (z.1.1:Int)))]) (fun z=>[(own z.1.2.1 z.1.2.2 3 1 ((l_ (lG j.Race.ao j.aS fm ht) z.1.1).map iC))]) (fun _=>rfl) (fun _=>rfl) (fun z=>ht.length-z.1.1) ⟨(0,none,0),B⟩ (bD U) (aR [1,2,3,4,5,6,7,8,9,10,11,12,13,14,15,0]) ?_
  clear B
  rintro ⟨⟨q,a,c⟩,M⟩ J37 S
  try dsimp only at M
  try dsimp only
  refine WS fun _ Ab=>rP 1 [] mn ?_
  refine RK Ab<|aq fun _ A1=>bR U (aU fun Do=>?_) (aT fun Do=>?_)
  ·refine bQ<|ag<|ag<|aI<|KK AC<|aq fun _ V=>?_
   rw [show (l_ (lG j.Race.ao j.aS fm ht) q)=(l_ (lG j.Race.ao j.aS fm ht) ht.length) from by rw [show q=ht.length by omega]]
   refine aw<|rP 2 [] mn ?_
   refine Kc (k:=h) (k':=(h+1)) 13 15 U hY F G U U U ⟨_,_,_,IU E,U,U,U⟩ U U U U (fun B50 K AB=>?_) (fun B50 K AB=>?_)
   rotate_left 1
   ·refine rP 1 [] mn ?_
    refine RK V<|aN U<|ar ?_
    refine hQ _ _ _ (j0 (vs:=[]) trivial fun w hs=>EM 0 U K AB hs)
   refine bI 1 U<|RK V<|cp U<|cj<|aP<|KK GE<|aw<|rP 2 [] mn ?_
   refine aK ?_
   have B3:(vI (((h+1):Nat):Int))=(vI ((h:Int)+1)):=by exact cI I
   refine bu (FO ⟨((h+1),B50),⟨I,K,AB⟩⟩ _ _ _ U os (cP 5<|bw U B3<|dp.nil _) (aR [1,2,3,4,5,6,7,8,9,10,11,12,13,0]))
  refine WK A1<|aq fun _ AA=>aH<|WS fun _ A2=>bI 2 U<|RK A2<|WS fun _ A3=>rP 2 [] mn ?_
  refine rS (SX (v7 (kV:=iV) (x:=(q:Int)) (l:=(iv (lG j.Race.ao j.aS fm ht) ht.length ht.length)) (f:=Value.bool) (z:=false) U U U Bi (iH qu) VH (by exact ay 14 U)) U U)<|RK A3<|bR U (fun W=>?_) (fun W=>?_)
  ·refine cj<|aP<|KK AA<|aw<|rP 2 [] mn ?_
   refine aK ?_
   rw [show (l_ (lG j.Race.ao j.aS fm ht) q)=(l_ (lG j.Race.ao j.aS fm ht) (q+1)) from (s8 (by rw [← za (P:=(lG j.Race.ao j.aS fm ht)) (show q<ht.length by omega)]; simpa using W)).symm]
   have Bh:(vI (((q+1):Nat):Int))=(vI ((q:Int)+1)):=by exact cI I
   refine bu (S ⟨((q+1),a,c),(by first|omega|(simp only []; omega))⟩ _ _ _ U os (cP 10<|bw U Bh<|dp.nil _) (aR [0,1,2,3,4,5,6,7,8,9,10,11,12,13,14,15]))
  refine aw<|rP 2 [] mn ?_
  refine eu (xs:=[.tmp 55]) (cs:=[(vI (q:Int))]) U dy j8 U U U U (by simp [Value.cells]) U U fun J4=>?_
  refine eh (es2:=(List.map iC (l_ (lG j.Race.ao j.aS fm ht) (q+1)))) (m':=(l_ (lG j.Race.ao j.aS fm ht) (q+1)).length) 16 U U U tj U U sm (bx (es:=List.map iC [(q:Int)]) 0 U U (by simp [bP]) U) (lU _) (by have:=qs (P:=(lG j.Race.ao j.aS fm ht)) (n:=q); omega) (by have:=qs (P:=(lG j.Race.ao j.aS fm ht)) (n:=q); simp only [maxLen]; omega) (by rw [yq (by rw [← za (P:=(lG j.Race.ao j.aS fm ht)) (show q<ht.length by omega)]; exact W)]; simp) sm U fun C2 C3=>?_
  try dsimp only
  refine bI 1 U<|aK<|aP<|KK AA<|aw<|rP 2 [] mn ?_
  refine aK ?_
  have A9:(vI (((q+1):Nat):Int))=(vI ((q:Int)+1)):=by exact cI I
  refine bu (S ⟨((q+1),C2,C3),(by first|omega|(simp only []; omega))⟩ _ _ _ U os (cP 10<|bw U A9<|dp.nil _) (aR [1,2,3,4,5,6,7,8,9,10,11,12,13,14,15,16]))
 refine WK t<|aq fun _ T=>aH<|WS fun _ u=>rP 1 [] mn ?_
 obtain ⟨d,hd⟩:=aC ht q I
 obtain ⟨da,B9⟩:=aC C.2 q I
 have Hi:(List.zipWith ak.cells ht C.2)[q]? =some (ak.cells d da):=cv hd B9
 refine rS (IA q U (show fY _ (rd C.1.1 ht.length 7 (List.zipWith ak.cells ht C.2)).holds from (bY 8 U (a_ E D bX))) mJ dc I I) ?_
 have J9:=Ci.sig d (aM hd)
 refine rS (jE q 0 (aG.cells (aG.mk d.Out d.cJ d.Time (cL.mk d.aX.Start d.aX.gj (bE.mk da.1 d.aX.aa.length da.2)))) U bU (show fY _ (rd C.1.1 ht.length 7 (List.zipWith ak.cells ht C.2)).holds from (bY 8 U (a_ E D bX))) Hi U dc U U)<|AL U Bx fun L=>bI 1 U<|eN U DN U<|RK u<|WS fun _ v=>rP 3 [] (mr 12 U mn) ?_
 refine rS (FU U) ?_
 refine rS (CL (Cn j.aS faA faC (Value.func (.func 99) [].toArray [(vP g2),(vP g1),(vP L)].toArray) (fun O=>(((List.lookup (oS j.aS O) fm).getD false)&& !decide (g_ j.Race.ao O d=0))) (dE [(ku iV gm (cV vB fm)),(rd kA j.Race.ao.aO.length 9 (j.Race.ao.aO.map au.cells)),(rd cA j.Race.ao.aj.length 2 (List.zipWith ax.cells j.Race.ao.aj az)),(dE (bg ax.e_ j.Race.ao.aj az)),(rd bA j.Race.ao.ab.length 4 (j.Race.ao.ab.map bK.cells)),(rd slA j.Race.aV.length 1 (j.Race.aV.map iC)),(rd drA j.Race.bV.length 1 (j.Race.bV.map iC)),(rd heA j.Race.av.length 1 (List.zipWith bW j.Race.av ha)),(dE (bg er j.Race.av ha)),(rd faA j.aS.length 4 (j.aS.map aZ.cells)),(rd prA j.aJ.length 5 (j.aJ.map br.cells)),(rd da.1 d.aX.aa.length 2 (d.aX.aa.map aF.cells)),(cz g2 144 [(Value.map (some gm))]),(cz g1 97 (df.cells (df.mk (nq j kA kC cA cC bA bC slA slC drA drC heA heC faA faC prA prC)))),(cz L 43 (aG.cells (aG.mk d.Out d.cJ d.Time (cL.mk d.aX.Start d.aX.gj (bE.mk da.1 d.aX.aa.length da.2)))))]) (by intro O N; exact k9 (fi:=[]) (ca:=[(vP g2),(vP g1),(vP L)]) (j3 (Qk O fm gm j kA kC az cA cC bA bC slA slC drA drC ha heA heC faA faC prA prC d da.1 da.2 g2 g1 L (by first|assumption|exact N|omega) (by first|assumption|exact N|omega) (by first|assumption|exact N|omega) (by first|assumption|exact N|omega)) (bk [0,1,2,3,4,5,6,7,8,9,10,11,12,13,14]))) asm) (dM 10 U U<|aD (j2 (ld [1,2,3,4,5,6,7,8,9,10,11]<|aD (show fY _ (rd da.1 d.aX.aa.length 2 (d.aX.aa.map aF.cells)).holds from (bY 9 U (a_ E D (dh _ (a_ hd B9 (by simp [ak.e_]))))))<|dM 13 U U<|dM 12 U U<|dM 0 U U<|aL))<|aL) U) ?_
 refine rP 1 [] mn ?_
 refine RK v<|bR U (fun H=>?_) (fun H=>?_)
 ·rw [Bool.not_eq_false'] at H
  refine cj<|aP<|KK T<|aw<|rP 2 [] mn ?_
  refine aK ?_
  rw [show (iv (lG j.Race.ao j.aS fm ht) ht.length q)=(iv (lG j.Race.ao j.aS fm ht) ht.length (q+1)) from Hg (by rw [Fy hd]; simpa using H)]
  have A8:(vI (((q+1):Nat):Int))=(vI ((q:Int)+1)):=by exact cI I
  refine bu (R ⟨(q+1),(by first|omega|(simp only []; omega))⟩ _ _ _ U os (cP 10<|bw U A8<|dp.nil _) (aR [1,2,3,4,5,6,7,8,9,10,11,12,13,14,15]))
 rw [Bool.not_eq_true'] at H
 refine aw<|rP 2 [] mn ?_
 have A6:(fz (iv (lG j.Race.ao j.aS fm ht) ht.length q) (q:Int))=(iv (lG j.Race.ao j.aS fm ht) ht.length (q+1)):=by exact KL (by rw [Fy hd]; exact H)
 refine ti (kV:=iV) (x:=(q:Int)) (C':=[_,_,_,_,_,_,_,_,_,_,_,_,_,_,_,(ku iV b9 (cV vB (iv (lG j.Race.ao j.aS fm ht) ht.length (q+1))))]) 15 U U U U Bi (iH qu) U ((od _ _ _).symm.trans (congrArg _ A6)) U<|aK<|aP<|KK T<|aw<|rP 2 [] mn ?_
 refine aK ?_
 have A7:(vI (((q+1):Nat):Int))=(vI ((q:Int)+1)):=by exact cI I
 refine bu (R ⟨(q+1),(by first|omega|(simp only []; omega))⟩ _ _ _ U os (cP 10<|bw U A7<|dp.nil _) (aR [1,2,3,4,5,6,7,8,9,10,11,12,13,14,15]))
end
section
open Go.RowKit
theorem QU (gm:Nat) (j:cS) (kA:OA) (kC:Nat) (cA:OA) (cC:Nat) (bA:OA) (bC:Nat) (slA:OA) (slC:Nat) (drA:OA) (drC:Nat) (heA:OA) (heC:Nat) (faA:OA) (faC:Nat) (prA:OA) (prC:Nat):
 nz Tryz.prog 64 [(vA (df.cells (df.mk (nq j kA kC cA cC bA bC slA slC drA drC heA heC faA faC prA prC)))),(Value.map (some gm))] [] (fun (x:Nat×Nat)=>(Value.func (.func 97) [].toArray [(Value.pointer (some ⟨x.1,0,none⟩)),(Value.pointer (some ⟨x.2,0,none⟩))].toArray)) (fun (x:Nat×Nat)=>True) (fun (x:Nat×Nat)=>[(cz x.1 97 (df.cells (df.mk (nq j kA kC cA cC bA bC slA slC drA drC heA heC faA faC prA prC)))),(cz x.2 144 [(Value.map (some gm))])]):=by
 refine eO kr Tryz.func64 U U fun E Q hQ hN=>?_
 try dsimp only
 refine WS fun _ A=>eG U fun C=>wO U U fun D=>bI 1 U<|RK A<|WS fun _ B=>rS (FU U)<|rP 1 [] mn ?_
 refine RK B<|ar<|LX hQ (C,D) [1,0] [] mn U U U U ?_
 trivial
theorem Nk (fm:List (Int×Bool)) (gm:Nat) (j:cS) (kA:OA) (kC:Nat) (az:List RA) (cA:OA) (cC:Nat) (bA:OA) (bC:Nat) (slA:OA) (slC:Nat) (drA:OA) (drC:Nat) (ha:List cD) (heA:OA) (heC:Nat) (faA:OA) (faC:Nat) (prA:OA) (prC g1 g2:Nat) (hin:gZ j az ha) (hok:dG j=0):
 nz Tryz.prog 96 [(vS none 0 0),(Value.func (.func 97) [].toArray [(vP g1),(vP g2)].toArray)] [(ku iV gm (cV vB fm)),(rd kA j.Race.ao.aO.length 9 (j.Race.ao.aO.map au.cells)),(rd cA j.Race.ao.aj.length 2 (List.zipWith ax.cells j.Race.ao.aj az)),(dE (bg ax.e_ j.Race.ao.aj az)),(rd bA j.Race.ao.ab.length 4 (j.Race.ao.ab.map bK.cells)),(rd slA j.Race.aV.length 1 (j.Race.aV.map iC)),(rd drA j.Race.bV.length 1 (j.Race.bV.map iC)),(rd heA j.Race.av.length 1 (List.zipWith bW j.Race.av ha)),(dE (bg er j.Race.av ha)),(rd faA j.aS.length 4 (j.aS.map aZ.cells)),(rd prA j.aJ.length 5 (j.aJ.map br.cells)),(cz g1 97 (df.cells (df.mk (nq j kA kC cA cC bA bC slA slC drA drC heA heC faA faC prA prC)))),(cz g2 144 [(Value.map (some gm))])] (fun (x:(List RA)×(OA)×Nat)=>(vS x.2.1 ((hZ j (lL j.aS fm)).length) x.2.2)) (fun (x:(List RA)×(OA)×Nat)=>x.1.length=(hZ j (lL j.aS fm)).length) (fun (x:(List RA)×(OA)×Nat)=>[(own x.2.1 x.2.2 29 1 (List.zipWith tM (hZ j (lL j.aS fm)) x.1)),(bM (bg Fp (hZ j (lL j.aS fm)) x.1))]):=by
 have W:=hin.race
 have P:=hin.race.line
 have g:=hin.race.g6
 have m:=hin.race.has
 have X:=hin.race.g7
 have AA:=hin.nf
 have V:=hin.np
 have f:(hZ j (lL j.aS fm)).length=j.Race.av.length:=by unfold hZ; rw [List.length_map]
 refine eO kr Tryz.func96 U U fun s Q hQ hN=>?_
 try dsimp only
 refine WS fun _ K=>wO U U fun T=>bI 1 U<|RK K<|aq fun _ L=>WS fun _ M=>rP 1 [] mn ?_
 refine RK M<|aH<|jl 1 U (by exact fun _ h=>h)<|jl 3 U (by exact fun _ h=>h)<|jl 5 U (by exact fun _ h=>h)<|jl 7 U (by exact fun _ h=>h)<|jl 9 U (by exact fun _ h=>h)<|jl 11 U (by exact fun _ h=>h)<|jl 13 U (by exact fun _ h=>h)<|jl 15 U (by exact fun _ h=>h)<|jl 17 U (by exact fun _ h=>h)<|jl 19 U (by exact fun _ h=>h)<|jl 21 U (by exact fun _ h=>h)<|jl 23 U (by exact fun _ h=>h)<|jl 25 U (by exact fun _ h=>h)<|eX 29 1<|n9 ?_
 refine K6 (L0:=[(2,(vP T))]) (F:=[(ku iV gm (cV vB fm)).ro,(rd kA j.Race.ao.aO.length 9 (j.Race.ao.aO.map au.cells)).ro,(rd cA j.Race.ao.aj.length 2 (List.zipWith ax.cells j.Race.ao.aj az)).ro,(dE (bg ax.e_ j.Race.ao.aj az)).ro,(rd bA j.Race.ao.ab.length 4 (j.Race.ao.ab.map bK.cells)).ro,(rd slA j.Race.aV.length 1 (j.Race.aV.map iC)).ro,(rd drA j.Race.bV.length 1 (j.Race.bV.map iC)).ro,(rd heA j.Race.av.length 1 (List.zipWith bW j.Race.av ha)).ro,(dE (bg er j.Race.av ha)).ro,(rd faA j.aS.length 4 (j.aS.map aZ.cells)).ro,(rd prA j.aJ.length 5 (j.aJ.map br.cells)).ro,(cz g1 97 (df.cells (df.mk (nq j kA kC cA cC bA bC slA slC drA drC heA heC faA faC prA prC)))).ro,(cz g2 144 [(Value.map (some gm))]).ro]) (fun k (y:(List RA)×(OA)×Nat)=>(y.1.length=k)) (fun k y=>[(bM (bg Fp (List.take k (hZ j (lL j.aS fm))) y.1)),(own y.2.1 y.2.2 29 1 (List.zipWith tM (List.take k (hZ j (lL j.aS fm))) y.1)),(cz T 51 [(vS y.2.1 ((List.take k (hZ j (lL j.aS fm))).length) y.2.2)]),(ku iV gm (cV vB fm)).ro,(rd kA j.Race.ao.aO.length 9 (j.Race.ao.aO.map au.cells)).ro,(rd cA j.Race.ao.aj.length 2 (List.zipWith ax.cells j.Race.ao.aj az)).ro,(dE (bg ax.e_ j.Race.ao.aj az)).ro,(rd bA j.Race.ao.ab.length 4 (j.Race.ao.ab.map bK.cells)).ro,(rd slA j.Race.aV.length 1 (j.Race.aV.map iC)).ro,(rd drA j.Race.bV.length 1 (j.Race.bV.map iC)).ro,(rd heA j.Race.av.length 1 (List.zipWith bW j.Race.av ha)).ro,(dE (bg er j.Race.av ha)).ro,(rd faA j.aS.length 4 (j.aS.map aZ.cells)).ro,(rd prA j.aJ.length 5 (j.aJ.map br.cells)).ro]) (fun _ (_:Unit)=>False) (fun _ _=>[]) [0,1,15,16,17,18,19,20,21,22,23,24,25,26] [14,13,12,11,10,9,8,7,6,5,4,3,2] (([]:List RA),none,0) rfl rfl (NH fm gm j kA kC az cA cC bA bC slA slC drA drC ha heA heC faA faC prA prC g1 g2 (by first|assumption|omega|(simp; done)) (by first|assumption|omega|(simp; done))) rfl rfl rfl (by exact rfl) (by simp only [List.forall_mem_cons,List.not_mem_nil,false_imp_iff,implies_true,and_true]; exact ⟨⟨_,aM (i:=0) rfl,(dJ (cb _))⟩,⟨_,aM (i:=1) rfl,(dJ (cb _))⟩,⟨_,aM (i:=2) rfl,(dJ (cb _))⟩,⟨_,aM (i:=3) rfl,(dJ (cb _))⟩,⟨_,aM (i:=4) rfl,(dJ (cb _))⟩,⟨_,aM (i:=5) rfl,(dJ (cb _))⟩,⟨_,aM (i:=6) rfl,(dJ (cb _))⟩,⟨_,aM (i:=7) rfl,(dJ (cb _))⟩,⟨_,aM (i:=8) rfl,(dJ (cb _))⟩,⟨_,aM (i:=9) rfl,(dJ (cb _))⟩,⟨_,aM (i:=10) rfl,(dJ (cb _))⟩,⟨_,aM (i:=11) rfl,(dJ (cb _))⟩,⟨_,aM (i:=12) rfl,(dJ (cb _))⟩⟩) (by rintro k x R0 p ⟨_,_,_,_,rfl,_,_⟩; rfl) rfl (bD rfl) ?_ ?_ (fun _ _ _ h=>h.elim) (fun _ _ h=>h.elim)
 rotate_left 1
 ·rintro q k ⟨gz,a,c⟩ B C
  have D:=C
  try dsimp only at D
  try dsimp only
  rw [show (List.take k (hZ j (lL j.aS fm)))=(hZ j (lL j.aS fm)) from List.take_of_length_le (by have d:k=j.Race.av.length:=B; omega)]
  have O:gz.length=(hZ j (lL j.aS fm)).length:=by have d:k=j.Race.av.length:=B; omega
  refine aP<|KK L<|WS fun _ G=>rP 2 [] (mc 16 U mn) ?_
  refine RK G<|ar ?_
  refine hQ _ _ _ (rO 0 U U<|j0 (vs:=[(vS a ((hZ j (lL j.aS fm)).length) c)]) ⟨U,trivial⟩ fun w hs=>PJ (gz,a,c) [15,14] ?_ ?_ U U (by show List.all _ _=true; simp only [il,List.all_nil,xK,Bool.and_true]; rfl) hs)
  ·rfl
  ·exact O
 rintro k x R0 p ⟨gz,a,c⟩ l ra rb S t K5 Qr6 o hx AB N H Y Z
 obtain ⟨xa,xc,row,A,rfl,rfl,rfl⟩:=hx
 have D:=AB
 try dsimp only at D
 try dsimp only
 have n:=(bf.1 A).1
 have E:gz.length=(List.take k (hZ j (lL j.aS fm))).length:=by rw [List.length_take]; omega
 have R:(List.take (k+1) (hZ j (lL j.aS fm))).length=k+1:=by rw [List.length_take]; omega
 refine aw<|rP 1 [] mn ?_
 refine aK<|bu (N _ _ ?_)
 refine aH<|aw<|rP 2 [] (mc 3 U mn) ?_
 refine eu (xs:=[.tmp 9]) (cs:=[(vS xa row.length xc)]) U CC SU U U U U (by simp [Value.cells]) U U fun r=>?_
 refine eh (es2:=(List.zipWith tM (List.take (k+1) (hZ j (lL j.aS fm))) (gz++[(xa,xc)]))) (m':=(List.take (k+1) (hZ j (lL j.aS fm))).length) 3 rfl rfl rfl U6 rfl rfl (lJ E).symm (bx (es:=List.zipWith tM [row] [(xa,xc)]) 0 rfl rfl (by intro e he; simp [tM] at he; subst he; rfl) rfl) (L_ _ _) I (by simp only [maxLen]; omega) (by rw [xx A]; exact Hv E.symm) (by exact lJ (by rw [R]; simp; omega)) rfl fun b J=>?_
 try dsimp only
 refine QE (Y':=bg Fp (List.take (k+1) (hZ j (lL j.aS fm))) (gz++[(xa,xc)])) 2 16 U U (by rw [xx A]; exact Eg E.symm U) ?_
 refine V0 U Ul U U<|aK<|aP ?_
 exact H ((gz++[(xa,xc)]),b,J) _ _ (by (rw [List.length_append]; simp; omega)) (aR [2,0,3,4,5,6,7,8,9,10,11,12,13,14,15])
theorem M_ (fm:List (Int×Bool)) (gm:Nat) (j:cS) (kA:OA) (kC:Nat) (az:List RA) (cA:OA) (cC:Nat) (bA:OA) (bC:Nat) (slA:OA) (slC:Nat) (drA:OA) (drC:Nat) (ha:List cD) (heA:OA) (heC:Nat) (faA:OA) (faC:Nat) (prA:OA) (prC g1 g2:Nat) (hin:gZ j az ha) (hok:dG j=0):
 nz Tryz.prog 63 [(Value.func (.func 97) [].toArray [(vP g1),(vP g2)].toArray)] [(ku iV gm (cV vB fm)),(rd kA j.Race.ao.aO.length 9 (j.Race.ao.aO.map au.cells)),(rd cA j.Race.ao.aj.length 2 (List.zipWith ax.cells j.Race.ao.aj az)),(dE (bg ax.e_ j.Race.ao.aj az)),(rd bA j.Race.ao.ab.length 4 (j.Race.ao.ab.map bK.cells)),(rd slA j.Race.aV.length 1 (j.Race.aV.map iC)),(rd drA j.Race.bV.length 1 (j.Race.bV.map iC)),(rd heA j.Race.av.length 1 (List.zipWith bW j.Race.av ha)),(dE (bg er j.Race.av ha)),(rd faA j.aS.length 4 (j.aS.map aZ.cells)),(rd prA j.aJ.length 5 (j.aJ.map br.cells)),(cz g1 97 (df.cells (df.mk (nq j kA kC cA cC bA bC slA slC drA drC heA heC faA faC prA prC)))),(cz g2 144 [(Value.map (some gm))])] (fun (x:(List RA)×(OA)×Nat)=>(vS x.2.1 ((hZ j (lL j.aS fm)).length) x.2.2)) (fun (x:(List RA)×(OA)×Nat)=>x.1.length=(hZ j (lL j.aS fm)).length) (fun (x:(List RA)×(OA)×Nat)=>[(own x.2.1 x.2.2 29 1 (List.zipWith tM (hZ j (lL j.aS fm)) x.1)),(bM (bg Fp (hZ j (lL j.aS fm)) x.1))]):=by
 refine eO kr Tryz.func63 U U fun AA Q hQ hN=>?_
 try dsimp only
 refine WS fun _ B=>bI 1 U<|RK B<|WS fun _ C=>rP 1 [] mn ?_
 refine cX (Nk fm gm j kA kC az cA cC bA bC slA slC drA drC ha heA heC faA faC prA prC g1 g2 hin hok) (bk [0,1,2,3,4,5,6,7,8,9,10,11,12]) U fun H E=>?_
 obtain ⟨A,F,G⟩:=H
 try dsimp only
 have D:=E
 refine rP 1 [] mn ?_
 refine RK C<|ar ?_
 refine LX hQ (A,F,G) [0,1] [] mn U (by show List.all _ _=true; simp only [il,List.all_nil,xK,Bool.and_true]; rfl) U U ?_
 exact D
end
end Go.Proofs.YtkaenmjhfajbkaaGreatDoor
