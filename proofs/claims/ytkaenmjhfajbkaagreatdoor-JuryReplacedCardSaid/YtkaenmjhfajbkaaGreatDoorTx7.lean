/-
 The statement juryReplaced_said, part 7 of 9: WayM, B7, B8, B9, R1, Y1, Y2, Y3, Y5, Rr1, Rx5, Jw1, Jw2, S1, Wh1, Jw3, IdxK, Jw4, Jw5, Jw6, Jw8, Jw9, Jwa.
 Conditions: none.
-/
import Derived.Test.YtkaenmjhfajbkaaGreatDoorTx1
import Derived.Test.YtkaenmjhfajbkaaGreatDoorTx2
import Derived.Test.YtkaenmjhfajbkaaGreatDoorTx3
import Derived.Test.YtkaenmjhfajbkaaGreatDoorTx4
import Derived.Test.YtkaenmjhfajbkaaGreatDoorTx5
import Derived.Test.YtkaenmjhfajbkaaGreatDoorTx6
namespace Go.Proofs.YtkaenmjhfajbkaaGreatDoor
set_option maxRecDepth 100000
set_option maxHeartbeats 4000000
set_option linter.unusedVariables false
section
open Go.RowKit
theorem BB (l:List dA) (az:List kU): ∀ v∈(List.zipWith dA.cells l az).flatten,v.oneCell'=true:=by
 induction l generalizing az with
 |nil=>intro v hv; simp at hv
 |cons x l ih=>
  cases az with
  |nil=>intro v hv; simp at hv
  |cons a az=>
   intro v hv
   simp only [List.zipWith_cons_cons,List.flatten_cons,gH] at hv
   rcases hv with hv|hv
   ·simp only [dA.cells,xZ.cells,b_,List.not_mem_nil,or_false] at hv
    rcases hv with rfl|rfl|rfl<;>rfl
   ·exact ih az v hv
theorem MT: ∀ (m:dA) (a:kU) (w:World),(∀ X∈dA.owns m a,X.holds w)→ ∀ X∈dA.e_ m a,X.holds w:=fun m a w h X hX=>by
 simp only [dA.e_,b_,List.not_mem_nil,or_false] at hX
 have A:=ob (h (own a.1.1 a.1.2 mz 1 (m.gQ.map iC)) (by simp [dA.owns]))
 have B:=ob (h (own a.2.1.1 a.2.1.2 mz 1 (m.ja.map iC)) (by simp [dA.owns]))
 have C:=ob (h (own a.2.2.1 a.2.2.2 mz 1 (m.mA.map iC)) (by simp [dA.owns]))
 rcases hX with rfl|rfl|rfl
 ·simpa using A
 ·simpa using B
 ·simpa using C
theorem qp: ∀ (l:List dA) (az:List kU),(bg dA.owns l az).all (·.wr)=true
 |[],_=>rfl
 |_::_,[]=>rfl
 |x::l,a::az=>by
  simp only [bg,List.all_append,di]
  exact ⟨U,qp l az⟩
theorem K7 (l:List dA) (az:List kU):(bM (bg dA.owns l az)).wr=true:=qp l az
theorem H_ {l m:List dA} {az bz:List kU} (h:az.length=l.length):List.zipWith dA.cells (l++m) (az++bz)=List.zipWith dA.cells l az++List.zipWith dA.cells m bz:=List.zipWith_append h.symm
theorem uD {l:List dA} {az:List kU} (h:az.length=l.length):(List.zipWith dA.cells l az).length=l.length:=by rw [List.length_zipWith]; omega
/-- what is read of a thing that is tied, and frozen -/
theorem pY {C L:List aA} {a:OA} {c e sz n:Nat} {es:List (List Value)} (i:Nat) (hC:C[i]? =some (bM L).ro) (hm:own a c e sz es∈L) (hn:es.length=n):fY C (rd a n sz es).holds:=fun w hw=>by
 subst hn
 exact ob ((show (bM L).holds w from (hw _ (aM hC):(bM L).ro.holds w)).1 _ hm)
section
variable {E:fh} {ops:Array Oper} {Q:dj} {rest:List Oper} {D:List Deferred} {L:List (Nat×Value)} {C C1:List aA}
theorem St.Pn {S:BS} {w0 w:World} {X C:List aA} {A:aA} (h:St S w0 (bM (X++[A])::C) w):St S w0 (A::bM X::C) w:=by
 have B:=h.iz
 have D:St S w0 (X++(A::C)) w:=by simpa using B
 exact D.tied.perm (List.Perm.swap _ _ _)
theorem St.merge {S:BS} {w0 w:World} {X Y C:List aA} (h:St S w0 (bM X::bM Y::C) w):St S w0 (bM (X++Y)::C) w:=by
 have A:St S w0 (bM Y::(X++C)) w:=(h.iz).perm (List.perm_middle (a:=bM Y) (l₁:=X) (l₂:=C))
 have B:St S w0 (Y++(X++C)) w:=A.iz
 have D:St S w0 ((X++Y)++C) w:=B.perm (by rw [← List.append_assoc]; exact List.perm_append_comm.append_right _)
 exact D.tied
end
section
variable {E:fh} {ops:Array Oper} {Q:dj} {rest:List Oper} {D:List Deferred} {L:List (Nat×Value)} {C:List aA}
theorem AM {A:aA} {X X':List aA} (e:X++[A]=X') (h:RJ E ops Q rest D L (bM X'::C)):RJ E ops Q rest D L (A::bM X::C):=fun a w hf hs=>h a w hf (hs.tie e)
theorem zy {X:List aA} {A:aA} (h:RJ E ops Q rest D L (A::bM X::C)):RJ E ops Q rest D L (bM (X++[A])::C):=fun a w hf hs=>h a w hf hs.Pn
theorem K3 {K:Act→World→Prop} {ms ns:List dA} {az bz:List kU} (hl:az.length=ms.length) (h:KJ E K D L (bM (bg dA.owns (ms++ns) (az++bz))::C)):KJ E K D L (bM (bg dA.owns ms az)::bM (bg dA.owns ns bz)::C):=fun a w hf hs=>h a w hf (by rw [ko hl.symm]; exact hs.merge)
end
/-- the head of the ways: the way that ends here, if it may -/
def xL (l:bH) (r:c_) (rs fs:List Int) (ra fa:RA) (hz:List kU) (LA:List aA):Prop:=
 ((r.aa.length:Int)-(dJ rs).right≤l.fJ∧ ∃ la:RA,hz=[(ra,fa,la)]∧LA=[own la.1 la.2 mz 1 ((jC l r rs).map iC)])∨(¬ (r.aa.length:Int)-(dJ rs).right≤l.fJ∧hz=[]∧LA=[])
theorem xL.len {l:bH} {r:c_} {rs fs:List Int} {ra fa:RA} {hz:List kU} {LA:List aA} (h:xL l r rs fs ra fa hz LA):hz.length=(ia l r rs fs).length:=by
 unfold ia
 rcases h with ⟨q,la,rfl,rfl⟩|⟨q,rfl,rfl⟩
 ·rw [if_pos q]; rfl
 ·rw [if_neg q]; rfl
theorem xL.wr {l:bH} {r:c_} {rs fs:List Int} {ra fa:RA} {hz:List kU} {LA:List aA} (h:xL l r rs fs ra fa hz LA):LA.all (·.wr)=true:=by
 rcases h with ⟨q,la,rfl,rfl⟩|⟨q,rfl,rfl⟩<;>rfl
theorem IF {S:BS} {w0 w:World} {l:bH} {r:c_} {rs fs:List Int} {ra fa:RA} {hz az:List kU} {LA:List aA} {R:List dA} {A:aA} (hh:xL l r rs fs ra fa hz LA)
 (h:St S w0 [bM [own ra.1 ra.2 mz 1 (rs.map iC),own fa.1 fa.2 mz 1 (fs.map iC)],A,bM LA,bM (bg dA.owns R az)] w):St S w0 [bM (bg dA.owns (ia l r rs fs++R) (hz++az)++[A])] w:=by
 rw [ko hh.len.symm]
 have D:St S w0 [own ra.1 ra.2 mz 1 (rs.map iC),own fa.1 fa.2 mz 1 (fs.map iC),A,bM LA,bM (bg dA.owns R az)] w:=h.iz
 rcases hh with ⟨q,la,rfl,rfl⟩|⟨q,rfl,rfl⟩
 ·unfold ia
  rw [if_pos q]
  have B:=(St.j5 [3,0,1,2,4] rfl rfl D).iz
  have E:=(St.j5 [4,1,2,0,3] rfl rfl B).iz
  have C:St S w0 (((bg dA.owns [(⟨rs,fs,jC l r rs⟩:dA)] [(ra,fa,la)]++bg dA.owns R az)++[A])++[]) w:=by
   rw [List.append_nil]
   refine E.perm ?_
   show (bg dA.owns R az++(bg dA.owns [(⟨rs,fs,jC l r rs⟩:dA)] [(ra,fa,la)]++[A])).Perm _
   rw [← List.append_assoc]
   exact List.perm_append_comm.append_right _
  exact C.tied
 ·unfold ia
  rw [if_neg q]
  have B:=(St.j5 [4,2] rfl rfl D).iz
  have C:St S w0 (((bg dA.owns [] []++bg dA.owns R az)++[A])++[]) w:=by
   rw [List.append_nil]; exact B
  exact C.tied
theorem K1 {E:fh} {K:Act→World→Prop} {D:g_} {L:dq} {l:bH} {r:c_} {rs fs:List Int} {ra fa:RA} {hz az z:List kU} {LA:List aA} {R W:List dA} {A A':aA} (hh:xL l r rs fs ra fa hz LA) (hW:ia l r rs fs++R=W) (hz':hz++az=z) (hA:A=A')
 (h:KJ E K D L [bM (bg dA.owns W z++[A'])]):KJ E K D L [bM [own ra.1 ra.2 mz 1 (rs.map iC),own fa.1 fa.2 mz 1 (fs.map iC)],A,bM LA,bM (bg dA.owns R az)]:=fun a w hf hs=>h a w hf (by subst hW hz' hA; exact IF hh hs)
theorem Pz {E:fh} {K:Act→World→Prop} {D:g_} {L:dq} {X A:aA} {W:List dA} (h:KJ E K D L [bM (bg dA.owns W []++[A])]):KJ E K D L [X,A]:=fun a w hf hs=>h a w hf (by
 have B:St E.S E.w0 [A] w:=St.j5 [1] rfl rfl hs
 have C:St E.S E.w0 (([]++[A])++[]) w:=B
 have e:bg dA.owns W []=[]:=by cases W<;>rfl
 rw [e]
 exact C.tied)
theorem Gl {E:fh} {K:Act→World→Prop} {D:g_} {L:dq} {C:List aA} (e sz:Nat) (k:KJ E K D L (own none 0 e sz []::C)):KJ E K D L C:=fun a w hf hs=>k a w hf (hs.tW e sz)
end
section
open Go.RowKit
theorem je (n lo hi:Int):
 dB Tryz.prog 153 [(vI n),(vI lo),(vI hi)] [] (vB (decide (lo≤n∧n≤hi))):=by
 refine bJ kr Tryz.func153 U U fun D Q hQ hN=>?_
 try dsimp only
 refine WS fun _ B=>bI 1 U<|RK B<|WS fun _ A=>rP 4 [] mn ?_
 refine bT (t:=10) U (aT fun C=>?_) (aU fun C=>?_)
 ·refine rP 5 [] mn ?_
  refine RK A<|ar<|Q1 hQ U U U ?_
  exact cB (gU.2 I)
 refine rP 5 [] mn ?_
 refine RK A<|ar<|Q1 hQ U U U ?_
 exact cB (bj I).symm
theorem CO (ts:List au) (tsA:OA) (tsC:Nat) (hst: ∀ x∈ts,bZ x) (hlen:ts.length≤12):
 nG Tryz.prog 214 [(vA (bL.cells (bL.mk (bE.mk tsA ts.length tsC))))] [(rd tsA ts.length 9 (ts.map au.cells))] (fun (x:(OA)×Nat)=>(vS x.1 ((iA ts (ts.length+1)).length) x.2)) (fun (x:(OA)×Nat)=>True) (fun (x:(OA)×Nat)=>[(own x.1 x.2 38 2 ((iA ts (ts.length+1)).map ai.cells))]):=by
 refine eO kr Tryz.func214 U U fun V Q hQ hN=>?_
 try dsimp only
 refine WS fun _ J=>eJ U fun AA=>bI 1 U<|RK J<|WS fun _ K=>bI 1 U<|RK K<|aq fun _ L=>WS fun _ M=>rP 1 [] mn ?_
 refine RK M<|aH<|eX 38 2 ?_
 have A:(0≤ts.length+1):=by exact Nat.zero_le _
 refine bS (ι:={z:Nat×(OA)×Nat // (z.1≤ts.length+1)}) [1] [1,2] U U (fun z=>[(3,(vS z.1.2.1 ((iA ts z.1.1).length) z.1.2.2)),(4,(vI (z.1.1:Int)))]) (fun z=>[(own z.1.2.1 z.1.2.2 38 2 ((iA ts z.1.1).map ai.cells))]) (fun _=>rfl) (fun _=>rfl) (fun z=>ts.length+1-z.1.1) ⟨(0,none,0),A⟩ (bD U) (aR [1,2,0]) ?_
 clear A
 rintro ⟨⟨i,a,c⟩,B⟩ J6 AB
 try dsimp only at B
 try dsimp only
 refine aq fun _ N=>WS fun _ O=>rP 5 [] (mc 0 U mn) ?_
 refine RK O<|bR U (aU fun T=>?_) (aT fun T=>?_)
 ·refine bQ<|ag<|ag<|aI<|KK L<|WS fun _ E=>?_
  obtain rfl:i=ts.length+1:=by omega
  refine rP 2 [] mn ?_
  refine RK E<|ar<|LX hQ (a,c) [2] [] mn U U U U ?_
  trivial
 refine WK N<|aq fun _ C=>aH<|WS fun _ D=>eV 2 [] (mc 0 U mn) U<|rS (CL (z9 ts tsA tsC 0 (i:Int) hst hlen I) (bo [1]) U)<|bI 3 U<|AL U dU fun P=>AL U dU fun R=>qN U cT U<|eN U cT U<|RK D<|aw<|rP 2 [] (mc 1 U mn) ?_
 refine ew (xs:=[.tmp 21]) (cs:=(ai.cells (eP ts (0:Int).toNat ((i:Int)-0).toNat))) U kX dU U U U U (by simp [Value.cells,ai.bk]) U U fun S=>?_
 refine ed (es2:=(List.map ai.cells (iA ts (i+1)))) (m':=(iA ts (i+1)).length) 5 U U U EP U U sm (bx (es:=List.map ai.cells [(eP ts (0:Int).toNat ((i:Int)-0).toNat)]) 0 U U (by simp [ai.bk]) U) (kY _) (by simp only [oS]; omega) (by simp only [maxLen,oS]; omega) (by rw [BY]; simp) sm U fun G H=>?_
 try dsimp only
 refine bI 1 U<|aK<|aP<|KK C<|aw<|rP 3 [] mn ?_
 refine aK ?_
 have F:(vI (((i+1):Nat):Int))=(vI ((i:Int)+1)):=by exact cI I
 refine bu (AB ⟨((i+1),G,H),(by first|omega|(simp only []; omega))⟩ _ _ _ U os (dp.cons U<|dp.cons U<|bw U F<|dp.nil _) (aR [3,4,5]))
theorem SA (ts:List au) (tsA:OA) (tsC:Nat) (s:cH) (hlen:ts.length≤1000000) (hside: ∀ x∈ts,0≤x.iU∧x.iU≤255):
 dB Tryz.prog 194 [(vA (bL.cells (bL.mk (bE.mk tsA ts.length tsC)))),(vA (cH.cells s))] [(rd tsA ts.length 9 (ts.map au.cells))] (vT [(vA (ai.cells (PH ts s))),(vI (FE ts s))]):=by
 refine bJ kr Tryz.func194 U U fun r Q hQ hN=>?_
 try dsimp only
 refine WS fun _ R=>eJ U fun i=>eJ U fun k=>AL U dU fun l=>bI 1 U<|RK R<|aq fun _ S=>WS fun _ T=>eV 1 [] (mc 2 U mn) U<|rS (CL (wL ts tsA tsC hlen) (bo [3]) U)<|rP 1 [] mn ?_
 refine RK T<|ck U (fun AB=>?_) (fun AB=>?_)
 ·rw [Bool.not_eq_true'] at AB
  refine WS fun _ AA=>rS (SX (bp (xs:=[]) (cs:=(ai.cells (ai.mk 0 0))) U U (bq gM U)) U U)<|eN U cT U<|rP 1 [] mn ?_
  refine RK AA<|ar<|l5 hQ [0] (mc 0 U mn) U ?_
  (have e:=IT (s:=s) (by simpa using AB); rw [e.1,e.2]<;>rfl)
 rw [Bool.not_eq_false'] at AB
 refine WK S<|aq fun _ V=>WS fun _ W=>?_
 have M:=ki AB
 have Z:=lh AB
 refine eV 2 [0,1] (mc 2 U (mc 1 U mn)) U<|rS (CL (r8 ts tsA tsC s asm asm) (bo [3]) U)<|rP 1 [] mn ?_
 refine RK W<|ck U (aX fun D=>?_) (aW fun D=>?_)
 ·refine WS fun _ O=>rS (SX (bp (xs:=[]) (cs:=(ai.cells (ai.mk 0 0))) U U (bq gM U)) U U)<|eN U cT U<|rP 1 [] mn ?_
  refine RK O<|ar<|l5 hQ [0] (mc 0 U mn) U ?_
  (have e:=H8 AB D; rw [e.1,e.2]<;>rfl)
 refine WK V<|aq fun _ H=>k6 cg [0,2,3] [1,4,5,6,7] [false,false,false] [] [(cz l 38 (ai.cells (ai.mk 0 0))),(cz k 135 (cH.cells s)),(cz i 24 (bL.cells (bL.mk (bE.mk tsA ts.length tsC)))),(rd tsA ts.length 9 (ts.map au.cells)).ro] [] kr (aR [0,1,2,3]) (aR []) ?_
 have q:=D.1
 have N:=rh M D
 have p:(iA ts (ts.length+1)).length=ts.length+1:=oS
 refine eS U (LW 2 U bU U U)<|eS U (FA 0 U eU U)<|eS U (L1 (vI s.bG) 1 U bU U U)<|eo U<|fp [1,6] kr (cK ?_<|cK ?_<|gV)
 rotate_left 1
 ·refine NO U U [1,4,5,7] fun T12 J=>AL U dU fun f=>RD J 1 U<|N1 1<|NO U U [4,5,7] fun T14 P=>cX (CO ts tsA tsC asm asm) (bo [4]) U fun Y b=>?_
  obtain ⟨d,o⟩:=Y
  try dsimp only
  refine RD P 2 U<|N1 4<|NO U U [5,7] fun T19 E=>?_
  obtain ⟨z,hz⟩:=aC (iA ts (ts.length+1)) ((s.bG).toNat) I
  have A:=bO ai.cells hz
  refine rS (IA ((s.bG).toNat) U (aB (n:=(iA ts (ts.length+1)).length) 0 U sm) kX dc I I)<|RD E 2 U<|N1 5<|NO U U [7] fun T20 F=>rS (jD ((s.bG).toNat) 0 (ai.cells z) U bU (aB (n:=(iA ts (ts.length+1)).length) 0 U sm) A U dc U U)<|RD F 2 U<|N1 7<|NO U U [] fun T21 C=>qN U cT U<|RD C 2 U<|kG<|KK H<|WS fun _ B=>rP 1 [] mn ?_
  have A:=qu hz
  have G:=mE M 0 s.bG.toNat
  unfold lZ at N
  rw [← A] at G
  refine eV 11 [0,1,0,1] (mc 1 U (mc 3 U mn)) U<|rS (SX (bp (xs:=[(0,.tmp 27),(1,.tmp 33)]) (cs:=(ai.cells (ai.mk (z.Lo+s.lX.Lo) (z.Hi+s.lX.Hi)))) U U (bq gM U)) U U)<|GM U cT U<|rP 1 [] mn ?_
  refine RK B<|ar<|l5 hQ [0] (mc 2 U mn) U ?_
  (have e:=xw AB D; subst A; rw [e.1,e.2]<;>rfl)
 refine NO U U [4,5,6,7] fun T12 J=>cX (CO ts tsA tsC asm asm) (bo [3]) U fun X a=>?_
 obtain ⟨c,m⟩:=X
 try dsimp only
 refine RD J 1 U<|fp [4,6] kr (cK ?_<|cK ?_<|gV)
 rotate_left 1
 ·refine NO U U [4,5,7] fun T17 K=>AL U dU fun g=>RD K 2 U<|N1 4<|NO U U [5,7] fun T19 E=>?_
  obtain ⟨z,hz⟩:=aC (iA ts (ts.length+1)) ((s.bG).toNat) I
  have A:=bO ai.cells hz
  refine rS (IA ((s.bG).toNat) U (aB (n:=(iA ts (ts.length+1)).length) 1 U sm) kX dc I I)<|RD E 2 U<|N1 5<|NO U U [7] fun T20 F=>rS (jD ((s.bG).toNat) 0 (ai.cells z) U bU (aB (n:=(iA ts (ts.length+1)).length) 1 U sm) A U dc U U)<|RD F 2 U<|N1 7<|NO U U [] fun T21 C=>eN U cT U<|RD C 2 U<|kG<|KK H<|WS fun _ B=>rP 1 [] mn ?_
  have A:=qu hz
  have G:=mE M 0 s.bG.toNat
  unfold lZ at N
  rw [← A] at G
  refine eV 11 [0,1,0,1] (mc 0 U (mc 3 U mn)) U<|rS (SX (bp (xs:=[(0,.tmp 27),(1,.tmp 33)]) (cs:=(ai.cells (ai.mk (z.Lo+s.lX.Lo) (z.Hi+s.lX.Hi)))) U U (bq gM U)) U U)<|GM U cT U<|rP 1 [] mn ?_
  refine RK B<|ar<|l5 hQ [0] (mc 2 U mn) U ?_
  (have e:=xw AB D; subst A; rw [e.1,e.2]<;>rfl)
 refine NO U U [5,6,7] fun T17 K=>?_
 obtain ⟨z,hz⟩:=aC (iA ts (ts.length+1)) ((s.bG).toNat) I
 have A:=bO ai.cells hz
 refine rS (IA ((s.bG).toNat) U (aB (n:=(iA ts (ts.length+1)).length) 0 U sm) kX dc I I)<|RD K 1 U<|fp [5,6] kr (cK ?_<|cK ?_<|gV)
 rotate_left 1
 ·refine NO U U [5,7] fun T18 L=>AL U dU fun h=>RD L 2 U<|N1 5<|NO U U [7] fun T20 F=>rS (jD ((s.bG).toNat) 0 (ai.cells z) U bU (aB (n:=(iA ts (ts.length+1)).length) 1 U sm) A U dc U U)<|RD F 2 U<|N1 7<|NO U U [] fun T21 C=>eN U cT U<|RD C 2 U<|kG<|KK H<|WS fun _ B=>rP 1 [] mn ?_
  have A:=qu hz
  have G:=mE M 0 s.bG.toNat
  unfold lZ at N
  rw [← A] at G
  refine eV 11 [0,1,0,1] (mc 0 U (mc 3 U mn)) U<|rS (SX (bp (xs:=[(0,.tmp 27),(1,.tmp 33)]) (cs:=(ai.cells (ai.mk (z.Lo+s.lX.Lo) (z.Hi+s.lX.Hi)))) U U (bq gM U)) U U)<|GM U cT U<|rP 1 [] mn ?_
  refine RK B<|ar<|l5 hQ [0] (mc 2 U mn) U ?_
  (have e:=xw AB D; subst A; rw [e.1,e.2]<;>rfl)
 refine NO U U [6,7] fun T18 L=>rS (jD ((s.bG).toNat) 0 (ai.cells z) U bU (aB (n:=(iA ts (ts.length+1)).length) 0 U sm) A U dc U U)<|RD L 1 U<|N1 6<|NO U U [7] fun T19 E=>AL U dU fun j=>RD E 2 U<|N1 7<|NO U U [] fun T21 C=>eN U cT U<|RD C 2 U<|kG<|KK H<|WS fun _ B=>rP 1 [] mn ?_
 have A:=qu hz
 have G:=mE M 0 s.bG.toNat
 unfold lZ at N
 rw [← A] at G
 refine eV 11 [0,1,0,1] (mc 0 U (mc 3 U mn)) U<|rS (SX (bp (xs:=[(0,.tmp 27),(1,.tmp 33)]) (cs:=(ai.cells (ai.mk (z.Lo+s.lX.Lo) (z.Hi+s.lX.Hi)))) U U (bq gM U)) U U)<|GM U cT U<|rP 1 [] mn ?_
 refine RK B<|ar<|l5 hQ [0] (mc 2 U mn) U ?_
 (have e:=xw AB D; subst A; rw [e.1,e.2]<;>rfl)
theorem Gb (ts:List au) (tsA:OA) (tsC:Nat) (p:cH) (q:cH) (hlen:ts.length≤1000000) (hside: ∀ x∈ts,0≤x.iU∧x.iU≤255) (hord: ¬ q.bG<p.bG):
 dB Tryz.prog 195 [(vA (bL.cells (bL.mk (bE.mk tsA ts.length tsC)))),(vA (cH.cells p)),(vA (cH.cells q))] [(rd tsA ts.length 9 (ts.map au.cells))] (vT [(vA (ai.cells (lg ts p q))),(vI (mu ts p q))]):=by
 refine bJ kr Tryz.func195 U U fun k Q hQ hN=>?_
 try dsimp only
 refine WS fun _ N=>eJ U fun f=>eJ U fun g=>eJ U fun i=>AL U dU fun j=>bI 1 U<|RK N<|aq fun _ O=>WS fun _ P=>eV 1 [] (mc 3 U mn) U<|rS (CL (wL ts tsA tsC hlen) (bo [4]) U)<|rP 1 [] mn ?_
 refine RK P<|ck U (fun A=>?_) (fun A=>?_)
 ·rw [Bool.not_eq_true'] at A
  refine WS fun _ R=>rS (SX (bp (xs:=[]) (cs:=(ai.cells (ai.mk 0 0))) U U (bq gM U)) U U)<|eN U cT U<|rP 1 [] mn ?_
  refine RK R<|ar<|l5 hQ [0] (mc 0 U mn) U ?_
  (have e:=vM (a:=p) (b:=q) (by simpa using A); rw [e.1,e.2]<;>rfl)
 rw [Bool.not_eq_false'] at A
 refine WK O<|aq fun _ S=>WS fun _ E=>?_
 have D:=ki A
 have M:=lh A
 refine eV 2 [0,1] (mc 3 U (mc 2 U mn)) U<|rS (CL (r8 ts tsA tsC p asm asm) (bo [4]) U)<|rP 2 [] mn ?_
 refine bT (t:=20) U (aX fun B=>?_) (aW fun B=>?_)
 ·refine bI 5 U<|RK E<|aN U<|WS fun _ G=>rS (SX (bp (xs:=[]) (cs:=(ai.cells (ai.mk 0 0))) U U (bq gM U)) U U)<|eN U cT U<|rP 1 [] mn ?_
  refine RK G<|ar<|l5 hQ [0] (mc 0 U mn) U ?_
  (have e:=o3 (a:=p) (b:=q) A (fun h=>by first|exact B h.1|exact C h.2); rw [e.1,e.2]<;>rfl)
 refine eV 2 [0,1] (mc 3 U (mc 1 U mn)) U<|rS (CL (r8 ts tsA tsC q asm asm) (bo [4]) U)<|rP 2 [] mn ?_
 refine RK E<|ck U (aX fun C=>?_) (aW fun C=>?_)
 ·refine WS fun _ H=>rS (SX (bp (xs:=[]) (cs:=(ai.cells (ai.mk 0 0))) U U (bq gM U)) U U)<|eN U cT U<|rP 1 [] mn ?_
  refine RK H<|ar<|l5 hQ [0] (mc 0 U mn) U ?_
  (have e:=o3 (a:=p) (b:=q) A (fun h=>by first|exact B h.1|exact C h.2); rw [e.1,e.2]<;>rfl)
 refine WK S<|aq fun _ AB=>WS fun _ J=>?_
 have AA:fP ts p∧fP ts q:=⟨B,C⟩
 have T:=rh D B
 have V:=rh D C
 have c:=B.1
 have d:=C.1
 have Y:=xn D M C B
 unfold lZ at T V
 refine rP 5 [0,1] (mc 1 U (mc 2 U mn)) ?_
 refine RK J<|ck U (aT fun F=>?_) (aU fun F=>?_)
 ·exfalso; omega
 refine WK AB<|WS fun _ K=>rP 2 [] (mc 3 U mn) ?_
 have Z:=mE D p.bG.toNat (q.bG-p.bG).toNat
 refine eV 3 [0,1] (mc 2 U (mc 1 U mn)) U<|rS (CL (z9 ts tsA tsC p.bG q.bG asm asm I) (bo [4]) U)<|bI 3 U<|AL U dU fun W=>AL U dU fun X=>qN U cT U<|eN U cT U<|RK K<|WS fun _ L=>eV 20 [0,1,2,0,1,2] (mc 1 U (mc 3 U (mc 4 U mn))) U<|rS (SX (bp (xs:=[(0,.tmp 64),(1,.tmp 74)]) (cs:=(ai.cells (ai.mk ((((eP ts p.bG.toNat (q.bG-p.bG).toNat).Lo)+q.lX.Lo)-p.lX.Hi) ((((eP ts p.bG.toNat (q.bG-p.bG).toNat).Hi)+q.lX.Hi)-p.lX.Lo)))) U U (bq gM U)) U U)<|GM U cT U<|rP 1 [] mn ?_
 refine RK L<|ar<|l5 hQ [0] (mc 2 U mn) U ?_
 (have e:=lV A AA; rw [e.1,e.2,rJ F]<;>rfl)
theorem Ju (ts:List au) (tsA:OA) (tsC:Nat) (p:cH) (q:cH) (hlen:ts.length≤1000000) (hside: ∀ x∈ts,0≤x.iU∧x.iU≤255):
 dB Tryz.prog 195 [(vA (bL.cells (bL.mk (bE.mk tsA ts.length tsC)))),(vA (cH.cells p)),(vA (cH.cells q))] [(rd tsA ts.length 9 (ts.map au.cells))] (vT [(vA (ai.cells (lg ts p q))),(vI (mu ts p q))]):=by
 refine bJ kr Tryz.func195 U U fun u Q hQ hN=>?_
 try dsimp only
 refine WS fun _ S=>eJ U fun n=>eJ U fun o=>eJ U fun r=>AL U dU fun s=>bI 1 U<|RK S<|aq fun _ T=>WS fun _ AA=>eV 1 [] (mc 3 U mn) U<|rS (CL (wL ts tsA tsC hlen) (bo [4]) U)<|rP 1 [] mn ?_
 refine RK AA<|ck U (fun A=>?_) (fun A=>?_)
 ·rw [Bool.not_eq_true'] at A
  refine WS fun _ V=>rS (SX (bp (xs:=[]) (cs:=(ai.cells (ai.mk 0 0))) U U (bq gM U)) U U)<|eN U cT U<|rP 1 [] mn ?_
  refine RK V<|ar<|l5 hQ [0] (mc 0 U mn) U ?_
  (have e:=vM (a:=p) (b:=q) (by simpa using A); rw [e.1,e.2]<;>rfl)
 rw [Bool.not_eq_false'] at A
 refine WK T<|aq fun _ W=>WS fun _ E=>?_
 have D:=ki A
 have P:=lh A
 refine eV 2 [0,1] (mc 3 U (mc 2 U mn)) U<|rS (CL (r8 ts tsA tsC p asm asm) (bo [4]) U)<|rP 2 [] mn ?_
 refine bT (t:=20) U (aX fun B=>?_) (aW fun B=>?_)
 ·refine bI 5 U<|RK E<|aN U<|WS fun _ G=>rS (SX (bp (xs:=[]) (cs:=(ai.cells (ai.mk 0 0))) U U (bq gM U)) U U)<|eN U cT U<|rP 1 [] mn ?_
  refine RK G<|ar<|l5 hQ [0] (mc 0 U mn) U ?_
  (have e:=o3 (a:=p) (b:=q) A (fun h=>by first|exact B h.1|exact C h.2); rw [e.1,e.2]<;>rfl)
 refine eV 2 [0,1] (mc 3 U (mc 1 U mn)) U<|rS (CL (r8 ts tsA tsC q asm asm) (bo [4]) U)<|rP 2 [] mn ?_
 refine RK E<|ck U (aX fun C=>?_) (aW fun C=>?_)
 ·refine WS fun _ H=>rS (SX (bp (xs:=[]) (cs:=(ai.cells (ai.mk 0 0))) U U (bq gM U)) U U)<|eN U cT U<|rP 1 [] mn ?_
  refine RK H<|ar<|l5 hQ [0] (mc 0 U mn) U ?_
  (have e:=o3 (a:=p) (b:=q) A (fun h=>by first|exact B h.1|exact C h.2); rw [e.1,e.2]<;>rfl)
 refine WK W<|aq fun _ AB=>WS fun _ J=>?_
 have R:fP ts p∧fP ts q:=⟨B,C⟩
 have X:=rh D B
 have Y:=rh D C
 have l:=B.1
 have m:=C.1
 have j:=xn D P C B
 unfold lZ at X Y
 refine rP 5 [0,1] (mc 1 U (mc 2 U mn)) ?_
 refine RK J<|ck U (aT fun F=>?_) (aU fun F=>?_)
 ·refine WS fun _ K=>eV 3 [0,1,2] (mc 3 U (mc 1 U (mc 2 U mn))) U<|rS (CL (Gb ts tsA tsC q p hlen hside I) (bo [4]) U)<|bI 3 U<|AL U dU fun d=>eN U cT U<|bI 1 U<|RK K<|WS fun _ L=>rP 2 [] (mc 0 U mn) ?_
  have O:lg ts q p=kf ts q p:=(lV A ⟨C,B⟩).2
  have Z: -400000≤(lg ts q p).Lo∧(lg ts q p).Hi≤400000:=by rw [O]; omega
  have c:(lg ts q p).Lo≤(lg ts q p).Hi:=by rw [O]; omega
  refine rS (NG U ⟨I,I⟩)<|eV 2 [] (mc 0 U mn) U<|rS (NG U ⟨I,I⟩)<|rS (SX (bp (xs:=[(0,.tmp 41),(1,.tmp 44)]) (cs:=(ai.cells (ai.mk (-((lg ts q p).Hi)) (-((lg ts q p).Lo))))) U U (bq gM U)) U U)<|qN U cT U<|rP 1 [] mn ?_
  refine RK L<|ar<|l5 hQ [0] (mc 1 U mn) U ?_
  (have e:=lV A R; have i:=lV A ⟨C,B⟩; rw [e.1,e.2,i.2,Ed F]<;>rfl)
 refine WK AB<|WS fun _ M=>rP 2 [] (mc 3 U mn) ?_
 have k:=mE D p.bG.toNat (q.bG-p.bG).toNat
 refine eV 3 [0,1] (mc 2 U (mc 1 U mn)) U<|rS (CL (z9 ts tsA tsC p.bG q.bG asm asm I) (bo [4]) U)<|bI 3 U<|AL U dU fun f=>AL U dU fun g=>qN U cT U<|eN U cT U<|RK M<|WS fun _ N=>eV 20 [0,1,2,0,1,2] (mc 1 U (mc 3 U (mc 4 U mn))) U<|rS (SX (bp (xs:=[(0,.tmp 64),(1,.tmp 74)]) (cs:=(ai.cells (ai.mk ((((eP ts p.bG.toNat (q.bG-p.bG).toNat).Lo)+q.lX.Lo)-p.lX.Hi) ((((eP ts p.bG.toNat (q.bG-p.bG).toNat).Hi)+q.lX.Hi)-p.lX.Lo)))) U U (bq gM U)) U U)<|GM U cT U<|rP 1 [] mn ?_
 refine RK N<|ar<|l5 hQ [0] (mc 2 U mn) U ?_
 (have e:=lV A R; rw [e.1,e.2,rJ F]<;>rfl)
end
section
open Go.RowKit
theorem KO (l:bH) (kA:OA) (kC:Nat) (az:List RA) (cA:OA) (cC:Nat) (bA:OA) (bC:Nat) (hraw:uz l az):
 dB Tryz.prog 70 [(vA (cm.cells (jR l kA kC cA cC bA bC)))] [(rd kA l.aO.length 9 (l.aO.map au.cells)),(rd cA l.aj.length 2 (List.zipWith ax.cells l.aj az)),(dE (bg ax.e_ l.aj az)),(rd bA l.ab.length 4 (l.ab.map bK.cells))] (vB (decide (mm l))):=by
 have e:=hraw.rW
 have d:=hraw.sG
 have a:=hraw.ly
 have b:=hraw.se
 refine bJ kr Tryz.func70 U U fun g Q hQ hN=>?_
 try dsimp only
 refine WS fun _ O=>eJ U fun f=>bI 1 U<|RK O<|aq fun _ P=>WS fun _ D=>bI 1 U<|rS (LP (bL.cells (bL.mk (bE.mk kA l.aO.length kC))) 0 U bU U U U)<|rS (CL (Nv l.aO kA kC) (bo [1]) U)<|rP 1 [] mn ?_
 refine bT (t:=7) U (aT fun Z=>?_) (aU fun Z=>?_)
 ·refine bI 11 U<|RK D<|aN U<|WS fun _ R=>rP 1 [] mn ?_
  refine RK R<|ar<|Q1 hQ U U U ?_
  exact cB (cO (.inl I)).symm
 refine rP 6 [] (mc 0 U mn) ?_
 refine bT (t:=13) U (aT fun C=>?_) (aU fun C=>?_)
 ·refine bI 5 U<|RK D<|aN U<|WS fun _ S=>rP 1 [] mn ?_
  refine RK S<|ar<|Q1 hQ U U U ?_
  exact cB (cO (.inl I)).symm
 refine rP 5 [] (mc 0 U mn) ?_
 refine RK D<|ck U (aT fun N=>?_) (aU fun N=>?_)
 ·refine WS fun _ T=>rP 1 [] mn ?_
  refine RK T<|ar<|Q1 hQ U U U ?_
  exact cB (cO (.inl I)).symm
 refine WK P<|aq fun _ AA=>WS fun _ V=>rP 1 [] mn ?_
 refine RK V<|aH ?_
 have A:(0≤l.aj.length)∧(AV l 0):=by exact ⟨Nat.zero_le _,fun j c hj=>absurd hj (Nat.not_lt_zero _)⟩
 refine bS (ι:={z:Nat // (z≤l.aj.length)∧(AV l z)}) [1] [0,1,2,3,4] U U (fun z=>[(3,(vI (z.1:Int)))]) (fun z=>[]) (fun _=>rfl) (fun _=>rfl) (fun z=>l.aj.length-z.1) ⟨0,A⟩ (bD U) (aR [0,1,2,3,4]) ?_
 clear A
 rintro ⟨i,⟨W,B⟩⟩ J10 F
 try dsimp only
 refine aq fun _ G=>WS fun _ H=>rP 5 [] (mc 0 U mn) ?_
 refine RK H<|bR U (aU fun C=>?_) (aT fun C=>?_)
 ·refine bQ<|ag<|ag<|aI<|KK AA<|WS fun _ L=>rP 1 [] mn ?_
  refine RK L<|ar<|Q1 hQ U U U ?_
  exact cB (bj (Kt I I B)).symm
 refine WK G<|aq fun _ AB=>aH<|WS fun _ J=>rP 3 [] (mc 0 U mn) ?_
 obtain ⟨x,hx⟩:=aC l.aj i I
 obtain ⟨xa,X⟩:=aC az i I
 have Y:(List.zipWith ax.cells l.aj az)[i]? =some (ax.cells x xa):=cv hx X
 refine rS (IA i U (ay 2 U) yf dc I I)<|rS (pO ((i*2)+1) U (ay 2 U) (Nat.mul_pos I dc) eU U)<|rS (gD i 1 (vS xa.1 x.bB.length xa.2) U bU (ay 2 U) Y U dc U)<|rP 2 [] mn ?_
 refine RK J<|ck U (aT fun E=>?_) (aU fun E=>?_)
 ·refine WS fun _ K=>rP 1 [] mn ?_
  refine RK K<|ar<|Q1 hQ U U U ?_
  exact cB (cO (It hx E)).symm
 refine cj<|aP<|KK AB<|aw<|rP 3 [] mn ?_
 refine aK ?_
 have M:(vI (((i+1):Nat):Int))=(vI ((i:Int)+1)):=by exact cI I
 refine bu (F ⟨(i+1),⟨I,mo B hx I⟩⟩ _ _ _ U os (dp.cons U<|bw U M<|dp.nil _) (aR [0,1,2,3,4]))
theorem yh (d m:Int) (hd:0≤d∧d≤1000) (hm:0≤m∧m≤90000000):
 dB Tryz.prog 193 [(vI d),(vI m)] [] (vI (o1 (d*m) 1000000)):=by
 have J:=PC (a:=d) (b:=m) (A:=1000) (B:=90000000) hd.1 hd.2 hm.1 hm.2
 refine bJ kr Tryz.func193 U U fun K Q hQ hN=>?_
 try dsimp only
 refine WS fun _ C=>bI 1 U<|RK C<|WS fun _ D=>bI 2 U<|rS (BI U (uT ⟨I,I⟩))<|bI 1 U<|RK D<|aq fun _ E=>WS fun _ F=>bI 1 U<|rS (BI U (Im I I))<|rP 1 [] mn ?_
 refine RK F<|ck U (aT fun AA=>?_) (aU fun AA=>?_)
 ·refine WS fun _ G=>bI 1 U<|rS (BI U (uj I I I))<|rP 2 [] mn ?_
  refine RK G<|ar<|Q1 hQ U U U ?_
  exact cI (by unfold o1; omega)
 refine WK E<|WS fun _ H=>bI 1 U<|rS (BI U (uj I I I))<|rP 1 [] mn ?_
 refine RK H<|ar<|Q1 hQ U U U ?_
 exact cI (by unfold o1; omega)
theorem JA (c:ax) (sA:OA) (sC:Nat) (hlen:c.bB.length≤1000000):
 dB Tryz.prog 157 [(vA (dk.cells (dk.mk c.dw (bE.mk sA c.bB.length sC))))] [(rd sA c.bB.length 3 (c.bB.map ct.cells))] (vB (decide (fy c))):=by
 refine bJ kr Tryz.func157 U U fun w0 Q hQ hN=>?_
 try dsimp only
 refine WS fun _ EQ=>eJ U fun b2=>bI 1 U<|RK EQ<|aq fun _ Eq=>WS fun _ A7=>eV 2 [] (mc 0 U mn) U<|rS (CL (je c.dw 0 1000) (aL) U)<|rP 2 [] mn ?_
 refine bT (t:=14) U (aX fun Cx=>?_) (aW fun Cx=>?_)
 ·refine bI 6 U<|RK A7<|aN U<|WS fun _ FQ=>rP 1 [] mn ?_
  refine RK FQ<|ar<|Q1 hQ U U U ?_
  exact cB (bj fun h=>by have q1:=h.s7; have q2:=h.len; omega).symm
 refine eV 3 [] (mc 0 U mn) U<|rS (CL (je (c.bB.length:Int) 1 5) (aL) U)<|rP 2 [] mn ?_
 refine RK A7<|ck U (aX fun C0=>?_) (aW fun C0=>?_)
 ·refine WS fun _ FS=>rP 1 [] mn ?_
  refine RK FS<|ar<|Q1 hQ U U U ?_
  exact cB (bj fun h=>by have q1:=h.s7; have q2:=h.len; omega).symm
 refine WK Eq<|aq fun _ Fd=>WS fun _ Fn=>rP 1 [] mn ?_
 refine RK Fn<|aH ?_
 have A:(0≤c.bB.length)∧(∀ (j:Nat) y,j<0→c.bB[j]? =some y→fT c j y):=by exact ⟨Nat.zero_le _,fun j y hj=>absurd hj (Nat.not_lt_zero _)⟩
 refine bS (ι:={z:Nat // (z≤c.bB.length)∧(∀ (j:Nat) y,j<z→c.bB[j]? =some y→fT c j y)}) [1] [0,1] U U (fun z=>[(3,(vI (z.1:Int)))]) (fun z=>[]) (fun _=>rfl) (fun _=>rfl) (fun z=>c.bB.length-z.1) ⟨0,A⟩ (bD U) (aR [0,1]) ?_
 clear A
 rintro ⟨i,⟨a,C⟩⟩ J9 f
 try dsimp only
 have IO:=KR a C
 refine aq fun _ g=>WS fun _ l=>rP 5 [] (mc 0 U mn) ?_
 refine RK l<|ck U (aT fun C1=>?_) (aU fun C1=>?_)
 ·refine WK g<|aq fun _ AA=>aH<|WS fun _ n=>rP 3 [] (mc 0 U mn) ?_
  obtain ⟨x,hx⟩:=aC c.bB i I
  have b:=bO ct.cells hx
  refine rS (IA i U (ay 1 U) nR dc I I)<|rS (jD i 0 (ct.cells x) U bU (ay 1 U) b U dc U U)<|AL U sV fun Hi=>eN U uq U<|RK n<|aq fun _ B=>cW cg 41 kr<|kv 2 [] (mc 0 U mn) U<|dS (CL (je x.At 0 86400000) (aL) U)<|dP 2 [] mn ?_
  refine gP (t:=37) U (aX fun C2=>?_) (aW fun C2=>?_)
  ·refine kR 36 U<|cx<|RK B<|aN U<|WS fun _ p=>rP 1 [] mn ?_
   refine RK p<|ar<|Q1 hQ U U U ?_
   exact cB (bj fun h=>by have q:=h.sync i x hx; unfold fT at q; (rw [gW I] at q; omega)).symm
  refine dP 3 [] mn ?_
  refine hP (t:=40) U (aU fun C3=>?_) (aT fun C3=>?_)
  ·refine dP 19 [] (mc 0 U mn) ?_
   refine gP (t:=59) U (aT fun X=>?_) (aU fun X=>?_)
   ·refine kR 14 U<|cx<|RK B<|aN U<|WS fun _ w=>rP 1 [] mn ?_
    refine RK w<|ar<|Q1 hQ U U U ?_
    exact cB (bj fun h=>by have q:=h.sync i x hx; unfold fT at q; (rw [gW I] at q; omega)).symm
   refine dP 9 [] (mc 0 U mn) ?_
   refine gP (t:=68) U (aT fun Y=>?_) (aU fun Y=>?_)
   ·refine kR 5 U<|cx<|RK B<|aN U<|WS fun _ AC=>rP 1 [] mn ?_
    refine RK AC<|ar<|Q1 hQ U U U ?_
    exact cB (bj fun h=>by have q:=h.sync i x hx; unfold fT at q; (rw [gW I] at q; omega)).symm
   refine dP 5 [] (mc 0 U mn) ?_
   refine cx<|RK B<|bR U (aU fun Z=>?_) (aT fun Z=>?_)
   ·refine cj<|aP<|KK AA<|aw<|rP 3 [] mn ?_
    refine aK ?_
    have B3:(vI (((i+1):Nat):Int))=(vI ((i:Int)+1)):=by exact cI I
    refine bu (f ⟨(i+1),⟨I,mo C hx (by unfold fT; (rw [gW I]; omega))⟩⟩ _ _ _ U os (dp.cons U<|bw U B3<|dp.nil _) (aR [1,2]))
   refine WS fun _ AK=>rP 1 [] mn ?_
   refine RK AK<|ar<|Q1 hQ U U U ?_
   exact cB (bj fun h=>by have q:=h.sync i x hx; unfold fT at q; (rw [gW I] at q; omega)).symm
  refine dP 6 [0,1] (mc 0 U (mc 1 U mn)) ?_
  obtain ⟨y,hy⟩:=aC c.bB (i-1) I
  have d:=bO ct.cells hy
  refine dS (IA (i-1) U (ay 2 U) nR dc I I)<|dS (pO ((i-1)*3) U (ay 2 U) (Nat.mul_pos I dc) eU U)<|dS (gD (i-1) 0 (vI y.At) U bU (ay 2 U) d U dc U)<|dP 4 [] mn ?_
  refine gP (t:=53) U (aT fun Di=>?_) (aU fun Di=>?_)
  ·refine kR 20 U<|cx<|RK B<|aN U<|WS fun _ r=>rP 1 [] mn ?_
   refine RK r<|ar<|Q1 hQ U U U ?_
   exact cB (bj fun h=>by have q:=h.sync i x hx; unfold fT at q; (rw [xh I hy] at q; omega)).symm
  refine dP 6 [] (mc 0 U mn) ?_
  refine gP (t:=59) U (aT fun X=>?_) (aU fun X=>?_)
  ·refine kR 14 U<|cx<|RK B<|aN U<|WS fun _ s=>rP 1 [] mn ?_
   refine RK s<|ar<|Q1 hQ U U U ?_
   exact cB (bj fun h=>by have q:=h.sync i x hx; unfold fT at q; (rw [gW I] at q; omega)).symm
  refine dP 9 [] (mc 0 U mn) ?_
  refine gP (t:=68) U (aT fun Y=>?_) (aU fun Y=>?_)
  ·refine kR 5 U<|cx<|RK B<|aN U<|WS fun _ u=>rP 1 [] mn ?_
   refine RK u<|ar<|Q1 hQ U U U ?_
   exact cB (bj fun h=>by have q:=h.sync i x hx; unfold fT at q; (rw [gW I] at q; omega)).symm
  refine dP 5 [] (mc 0 U mn) ?_
  refine cx<|RK B<|bR U (aU fun Z=>?_) (aT fun Z=>?_)
  ·refine cj<|aP<|KK AA<|aw<|rP 3 [] mn ?_
   refine aK ?_
   have A9:(vI (((i+1):Nat):Int))=(vI ((i:Int)+1)):=by exact cI I
   refine bu (f ⟨(i+1),⟨I,mo C hx (by unfold fT; (rw [xh I hy]; omega))⟩⟩ _ _ _ U os (dp.cons U<|bw U A9<|dp.nil _) (aR [1,2]))
  refine WS fun _ v=>rP 1 [] mn ?_
  refine RK v<|ar<|Q1 hQ U U U ?_
  exact cB (bj fun h=>by have q:=h.sync i x hx; unfold fT at q; (rw [gW I] at q; omega)).symm
 refine bQ<|ag<|ag<|aI<|KK Fd<|aq fun _ AO=>WS fun _ A0=>rP 1 [] mn ?_
 refine RK A0<|aH ?_
 have A:(0≤c.bB.length)∧(t_ c 0):=by exact ⟨Nat.zero_le _,fun j y hj=>absurd hj (Nat.not_lt_zero _)⟩
 refine bS (ι:={z:Nat // (z≤c.bB.length)∧(t_ c z)}) [1] [0,1] U U (fun z=>[(5,(vI (z.1:Int)))]) (fun z=>[]) (fun _=>rfl) (fun _=>rfl) (fun z=>c.bB.length-z.1) ⟨0,A⟩ (bD U) (aR [0,1]) ?_
 clear A
 rintro ⟨m,⟨CC,G⟩⟩ J28 e
 try dsimp only
 have F:=ym (P:=fT c) I C
 refine aq fun _ A1=>WS fun _ A2=>rP 5 [] (mc 0 U mn) ?_
 refine RK A2<|bR U (aU fun Dj=>?_) (aT fun Dj=>?_)
 ·refine bQ<|ag<|ag<|aI<|KK AO<|WS fun _ A8=>rP 1 [] mn ?_
  refine RK A8<|ar<|Q1 hQ U U U ?_
  exact cB (cO (JK I I (ym I C) I G)).symm
 refine WK A1<|aq fun _ A3=>aH<|WS fun _ A4=>rP 1 [] mn ?_
 refine RK A4<|aH ?_
 have A:(0≤m)∧(∀ y,c.bB[m]? =some y→EO c y 0):=by exact ⟨Nat.zero_le _,fun y _ j o hj=>absurd hj (Nat.not_lt_zero _)⟩
 refine bS (ι:={z:Nat // (z≤m)∧(∀ y,c.bB[m]? =some y→EO c y z)}) [1,5] [0,1] U U (fun z=>[(6,(vI (z.1:Int)))]) (fun z=>[]) (fun _=>rfl) (fun _=>rfl) (fun z=>m-z.1) ⟨0,A⟩ (bD U) (aR [0,1]) ?_
 clear A
 rintro ⟨k,⟨Ci,D⟩⟩ J33 T
 try dsimp only
 refine aq fun _ A5=>WS fun _ A6=>rP 3 [] mn ?_
 refine RK A6<|bR U (aU fun Do=>?_) (aT fun Do=>?_)
 ·refine bQ<|ag<|ag<|aI<|aP<|KK A3<|aw<|rP 3 [] mn ?_
  refine aK ?_
  have B9:(vI (((m+1):Nat):Int))=(vI ((m:Int)+1)):=by exact cI I
  refine bu (e ⟨(m+1),⟨I,DM G D I⟩⟩ _ _ _ U os (dp.cons U<|bw U B9<|dp.nil _) (aR [0,1]))
 refine WK A5<|aq fun _ V=>aH<|aq fun _ W=>k6 cg [0,1,2,3,4,5,6,7,8,9] [10,11,12,13] [false,false,false,false,false,false,false,false,false,false] [] [(cz b2 133 (dk.cells (dk.mk c.dw (bE.mk sA c.bB.length sC)))),(rd sA c.bB.length 3 (c.bB.map ct.cells)).ro] [] kr (aR [0,1]) (aR [])<|eS U (FA 1 U eU U)<|eS U (L1 (vS sA c.bB.length sC) 0 U bU U U)<|eS U (MV U) ?_
 obtain ⟨x,hx⟩:=aC c.bB k I
 have b:=bO ct.cells hx
 refine eS U (IA k U (ay 1 U) nR dc I I)<|eS U (jD k 0 (ct.cells x) U bU (ay 1 U) b U dc U U)<|eS U (FA 1 U eU U)<|eS U (L1 (vS sA c.bB.length sC) 0 U bU U U)<|eS U (MV U) ?_
 obtain ⟨y,hy⟩:=aC c.bB m I
 have d:=bO ct.cells hy
 refine eS U (IA m U (ay 1 U) nR dc I I)<|eS U (jD m 0 (ct.cells y) U bU (ay 1 U) d U dc U U)<|eo U<|fp [10,11] kr (cK ?_<|cK ?_<|gV)
 rotate_left 1
 ·refine NO U U [10,12,13] fun T38 M=>AL U sV fun Ck=>RD M 1 U<|N1 10<|NO U U [12,13] fun T40 N=>AL U sV fun Cp=>RD N 2 U<|N1 12<|NO U U [13] fun T42 O=>eN U uq U<|RD O 2 U<|N1 13<|NO U U [] fun T43 R=>qN U uq U<|RD R 2 U<|kG<|KK W<|WS fun _ J=>rP 6 [0,1,2] (mc 2 U (mc 1 U (mc 0 U mn))) ?_
  obtain ⟨GE,GT,Go⟩:=vw (fun j z _ hz=>F j z hz) hy (F _ _ hy) (show k<m by omega) hx
  refine bI 1 U<|rS (CL (yh c.dw (y.At-x.At) I I) (aL) U)<|bI 1 U<|RK J<|WS fun _ E=>rP 10 [0,1] (mc 0 U (mc 1 U mn)) ?_
  refine bT (t:=113) U (aT fun H=>?_) (aU fun H=>?_)
  ·refine bI 10 U<|RK E<|aN U<|WS fun _ K=>rP 1 [] mn ?_
   refine RK K<|ar<|Q1 hQ U U U ?_
   exact cB (bj fun h=>by have q:=h.pair m k y x hy I hx; unfold nK at q; omega).symm
  refine rP 10 [0,1] (mc 1 U (mc 0 U mn)) ?_
  refine RK E<|bR U (aU fun AB=>?_) (aT fun AB=>?_)
  ·refine cj<|aP<|KK V<|aw<|rP 3 [] mn ?_
   refine aK ?_
   have S:(vI (((k+1):Nat):Int))=(vI ((k:Int)+1)):=by exact cI I
   refine bu (T ⟨(k+1),⟨I,fun z hz=>by rw [hy] at hz; cases hz; exact mo (D _ hy) hx (by unfold nK; omega)⟩⟩ _ _ _ rfl os (dp.cons rfl<|dp.cons rfl<|bw rfl S<|dp.nil _) (aR [2,3]))
  refine WS fun _ L=>rP 1 [] mn ?_
  refine RK L<|ar<|Q1 hQ U U U ?_
  exact cB (bj fun h=>by have q:=h.pair m k y x hy I hx; unfold nK at q; omega).symm
 refine NO U U [11,12,13] fun T38 M=>AL U sV fun Ck=>RD M 1 U<|N1 11<|NO U U [12,13] fun T40 N=>AL U sV fun Cp=>RD N 2 U<|N1 12<|NO U U [13] fun T42 O=>qN U uq U<|RD O 2 U<|N1 13<|NO U U [] fun T43 R=>eN U uq U<|RD R 2 U<|kG<|KK W<|WS fun _ J=>rP 6 [0,1,2] (mc 2 U (mc 0 U (mc 1 U mn))) ?_
 obtain ⟨GE,GT,Go⟩:=vw (fun j z _ hz=>F j z hz) hy (F _ _ hy) (show k<m by omega) hx
 refine bI 1 U<|rS (CL (yh c.dw (y.At-x.At) I I) (aL) U)<|bI 1 U<|RK J<|WS fun _ E=>rP 10 [0,1] (mc 1 U (mc 0 U mn)) ?_
 refine bT (t:=113) U (aT fun H=>?_) (aU fun H=>?_)
 ·refine bI 10 U<|RK E<|aN U<|WS fun _ K=>rP 1 [] mn ?_
  refine RK K<|ar<|Q1 hQ U U U ?_
  exact cB (bj fun h=>by have q:=h.pair m k y x hy I hx; unfold nK at q; omega).symm
 refine rP 10 [0,1] (mc 0 U (mc 1 U mn)) ?_
 refine RK E<|bR U (aU fun AB=>?_) (aT fun AB=>?_)
 ·refine cj<|aP<|KK V<|aw<|rP 3 [] mn ?_
  refine aK ?_
  have S:(vI (((k+1):Nat):Int))=(vI ((k:Int)+1)):=by exact cI I
  refine bu (T ⟨(k+1),⟨I,fun z hz=>by rw [hy] at hz; cases hz; exact mo (D _ hy) hx (by unfold nK; omega)⟩⟩ _ _ _ rfl os (dp.cons rfl<|dp.cons rfl<|bw rfl S<|dp.nil _) (aR [2,3]))
 refine WS fun _ L=>rP 1 [] mn ?_
 refine RK L<|ar<|Q1 hQ U U U ?_
 exact cB (bj fun h=>by have q:=h.pair m k y x hy I hx; unfold nK at q; omega).symm
theorem BQ (c:ax) (sA:OA) (sC:Nat) (at_:Int) (hc:fy c) (ha:0≤at_∧at_≤90000000):
 dB Tryz.prog 218 [(vA (dk.cells (dk.mk c.dw (bE.mk sA c.bB.length sC)))),(vI at_)] [(rd sA c.bB.length 3 (c.bB.map ct.cells))] (vA (ai.cells (iI c at_))):=by
 have e:=hc.len
 have W:=hc.s7
 refine bJ kr Tryz.func218 U U fun j Q hQ hN=>?_
 try dsimp only
 refine WS fun _ R=>eJ U fun g=>AL U dU fun h=>RK R<|WS fun _ S=>AL U dU fun d=>RK S<|aq fun _ T=>WS fun _ AA=>rP 1 [] mn ?_
 refine RK AA<|aH ?_
 have A:(0≤c.bB.length):=by exact Nat.zero_le _
 refine bS (ι:={z:Nat // (z≤c.bB.length)}) [1,2,4,5] [1,2,3] U U (fun z=>[(6,(vI (z.1:Int)))]) (fun z=>[(cz d 38 (ai.cells (k8 c at_ z.1)))]) (fun _=>rfl) (fun _=>rfl) (fun z=>c.bB.length-z.1) ⟨0,A⟩ (bD U) (aR [1,2,3,0]) ?_
 clear A
 rintro ⟨i,X⟩ J8 D
 try dsimp only
 refine aq fun _ V=>WS fun _ E=>rP 5 [] (mc 1 U mn) ?_
 refine RK E<|bR U (aU fun O=>?_) (aT fun O=>?_)
 ·refine bQ<|ag<|ag<|aI<|KK T<|WS fun _ J=>rP 1 [] (mc 3 U mn) ?_
  refine eN U cT U<|RK J<|ar<|Dg hQ [0] (mc 0 U mn) U ?_
  rw [DK hc (show c.bB.length≤i by omega)]
 refine WK V<|aq fun _ B=>aH<|WS fun _ F=>rP 3 [] (mc 1 U mn) ?_
 obtain ⟨x,hx⟩:=aC c.bB i I
 have Z:=bO ct.cells hx
 refine rS (IA i U (ay 2 U) nR dc I I)<|rS (jD i 0 (ct.cells x) U bU (ay 2 U) Z U dc U U)<|AL U sV fun a=>eN U uq U<|RK F<|WS fun _ G=>rP 2 [] (mc 2 U mn) ?_
 have Y:=hc.vx hx
 have f:0≤o1 (c.dw*max (at_-x.At) (x.At-at_)) 1000000∧o1 (c.dw*max (at_-x.At) (x.At-at_)) 1000000≤90001:=vd W ha Y.1
 refine eV 8 [] (mc 0 U mn) U<|rS (MX U)<|rS (CL (yh c.dw (max (at_-x.At) (x.At-at_)) I I) (aL) U)<|bI 1 U<|RK G<|WS fun _ H=>eV 10 [] (mc 0 U mn) U<|rS (SX (bp (xs:=[(0,.tmp 38),(1,.tmp 43)]) (cs:=(ai.cells (ai.mk (x.eg.Lo-(o1 (c.dw*(max (at_-x.At) (x.At-at_))) 1000000)) (x.eg.Hi+(o1 (c.dw*(max (at_-x.At) (x.At-at_))) 1000000))))) U U (bq gM U)) U U)<|AL U dU fun b=>eN U cT U<|RK H<|aq fun _ C=>WS fun _ AB=>rP 2 [] mn ?_
 refine RK AB<|bR U (aU fun P=>?_) (aT fun P=>?_)
 ·refine WK C<|aw<|eV 4 [0,1] (mc 5 U (mc 0 U mn)) U<|rS (MX U)<|rP 4 [0,1] (mc 5 U (mc 0 U mn)) ?_
  refine rS (MN U)<|rS (SX (bp (xs:=[(0,.tmp 52),(1,.tmp 57)]) (cs:=(ai.cells (ai.mk (max ((k8 c at_ i).Lo) (x.eg.Lo-(o1 (c.dw*(max (at_-x.At) (x.At-at_))) 1000000))) (min ((k8 c at_ i).Hi) (x.eg.Hi+(o1 (c.dw*(max (at_-x.At) (x.At-at_))) 1000000)))))) U U (bq gM U)) U U)<|G1 U cT U<|aK<|aP<|KK B ?_
  have M:(ai.cells (ai.mk (max ((k8 c at_ i).Lo) (x.eg.Lo-(o1 (c.dw*(max (at_-x.At) (x.At-at_))) 1000000))) (min ((k8 c at_ i).Hi) (x.eg.Hi+(o1 (c.dw*(max (at_-x.At) (x.At-at_))) 1000000)))))=(ai.cells (k8 c at_ (i+1))):=by exact congrArg ai.cells (CA hx I).symm
  rw [M]
  refine aw<|rP 3 [] mn ?_
  refine aK ?_
  have N:(vI (((i+1):Nat):Int))=(vI ((i:Int)+1)):=by exact cI I
  refine bu (D ⟨(i+1),(by first|omega|(simp only []; omega))⟩ _ _ _ U os (cP 4<|bw U N<|dp.nil _) (aR [2,3,4,5]))
 refine aw<|eV 1 [] (mc 0 U mn) U<|G1 U cT U<|RK C<|aw<|eV 4 [0,1] (mc 5 U (mc 0 U mn)) U<|rS (MX U)<|rP 4 [0,1] (mc 5 U (mc 0 U mn)) ?_
 refine rS (MN U)<|rS (SX (bp (xs:=[(0,.tmp 52),(1,.tmp 57)]) (cs:=(ai.cells (ai.mk (max (x.eg.Lo-(o1 (c.dw*(max (at_-x.At) (x.At-at_))) 1000000)) (x.eg.Lo-(o1 (c.dw*(max (at_-x.At) (x.At-at_))) 1000000))) (min (x.eg.Hi+(o1 (c.dw*(max (at_-x.At) (x.At-at_))) 1000000)) (x.eg.Hi+(o1 (c.dw*(max (at_-x.At) (x.At-at_))) 1000000)))))) U U (bq gM U)) U U)<|G1 U cT U<|aK<|aP<|KK B ?_
 have K:(ai.cells (ai.mk (max (x.eg.Lo-(o1 (c.dw*(max (at_-x.At) (x.At-at_))) 1000000)) (x.eg.Lo-(o1 (c.dw*(max (at_-x.At) (x.At-at_))) 1000000))) (min (x.eg.Hi+(o1 (c.dw*(max (at_-x.At) (x.At-at_))) 1000000)) (x.eg.Hi+(o1 (c.dw*(max (at_-x.At) (x.At-at_))) 1000000)))))=(ai.cells (k8 c at_ (i+1))):=by exact congrArg ai.cells (AT hc ha hx I).symm
 rw [K]
 refine aw<|rP 3 [] mn ?_
 refine aK ?_
 have L:(vI (((i+1):Nat):Int))=(vI ((i:Int)+1)):=by exact cI I
 refine bu (D ⟨(i+1),(by first|omega|(simp only []; omega))⟩ _ _ _ U os (cP 4<|bw U L<|dp.nil _) (aR [2,3,4,5]))
theorem Io (l:bH) (kA:OA) (kC:Nat) (az:List RA) (cA:OA) (cC:Nat) (bA:OA) (bC:Nat) (n:Int) (hin:ej l az) (htr:du l.aO=true) (hbk: ∀ b∈l.ab,kp l b) (hn:0≤n∧n<(l.ab.length:Int)):
 dB Tryz.prog 159 [(vA (cm.cells (jR l kA kC cA cC bA bC))),(vI n)] [(rd kA l.aO.length 9 (l.aO.map au.cells)),(rd cA l.aj.length 2 (List.zipWith ax.cells l.aj az)),(dE (bg ax.e_ l.aj az)),(rd bA l.ab.length 4 (l.ab.map bK.cells))] (vI (lH l n.toNat)):=by
 have AA:=hin.rW
 have S:=hin.sG
 have P:=hin.ly
 have R:=hin.se
 have T:=hin.side
 refine bJ kr Tryz.func159 U U fun X Q hQ hN=>?_
 try dsimp only
 refine WS fun _ G=>eJ U fun V=>bI 1 U<|RK G<|aq fun _ H=>WS fun _ AB=>rP 2 [] mn ?_
 refine RK AB<|ck U (aT fun F=>?_) (aU fun F=>?_)
 ·refine aq fun _ J=>dH cg [11,12] [] [] [0,1,2,3,4] [] U U U U U<|eS U (FA 0 U eU U)<|eS U (LP (bL.cells (bL.mk (bE.mk kA l.aO.length kC))) 0 U bU U U U)<|eS U (FA 3 U eU U)<|eS U (L1 (vS bA l.ab.length bC) 0 U bU U U) ?_
  obtain ⟨y,hy⟩:=aC l.ab 0 I
  have A:=bO bK.cells hy
  refine eS U (IA 0 U (ay 4 U) uE dc U I)<|eS U (pO (0*4) U (ay 4 U) (Nat.mul_pos I dc) eU U)<|eS U (jD 0 0 (cH.cells y.lp) U bU (ay 4 U) A U dc U U)<|eS U (CL (SA l.aO kA kC y.lp asm asm) (bo [1]) U)<|eS U (MV U)<|eS U (EX U)<|eS U (EX U)<|eS U (AG U)<|eo U<|cp U fun T6 L=>AL U dU fun W=>aK (L _ _ (aR [1,2,3,4,5]) ?_)
  refine cp U fun T8 M=>eN U cT U<|aK (M _ _ (aR [1,2,3,4,5]) ?_)
  refine fK U<|KK J<|WS fun _ K=>rP 3 [] (mc 0 U mn) ?_
  refine RK K<|ar<|Q1 hQ U U U ?_
  (refine congrArg (Value.int .i64) ?_; rw [show n.toNat=0 by omega]; rw [zx hy,(xw htr (hbk _ (List.mem_of_getElem? hy)).1).2])
 refine WK H<|aq fun _ B=>dH cg [19,20] [] [] [0,1,2,3,4] [] U U U U U<|eS U (FA 0 U eU U)<|eS U (LP (bL.cells (bL.mk (bE.mk kA l.aO.length kC))) 0 U bU U U U)<|eS U (FA 3 U eU U)<|eS U (L1 (vS bA l.ab.length bC) 0 U bU U U)<|eS U (MV U)<|eS U (BI U (xj ⟨I,I⟩)) ?_
 obtain ⟨y,hy⟩:=aC l.ab (((n-1)).toNat) I
 have A:=bO bK.cells hy
 refine eS U (IA (((n-1)).toNat) U (ay 4 U) uE dc I I)<|eS U (pO ((((n-1)).toNat)*4) U (ay 4 U) (Nat.mul_pos I dc) eU U)<|eS U (jD (((n-1)).toNat) 0 (cH.cells y.lp) U bU (ay 4 U) A U dc U U)<|eS U (FA 3 U eU U)<|eS U (L1 (vS bA l.ab.length bC) 0 U bU U U)<|eS U (MV U) ?_
 obtain ⟨x,hx⟩:=aC l.ab ((n).toNat) I
 have N:=bO bK.cells hx
 refine eS U (IA ((n).toNat) U (ay 4 U) uE dc I I)<|eS U (pO (((n).toNat)*4) U (ay 4 U) (Nat.mul_pos I dc) eU U)<|eS U (jD ((n).toNat) 0 (cH.cells x.lp) U bU (ay 4 U) N U dc U U)<|eS U (CL (Ju l.aO kA kC y.lp x.lp asm asm) (bo [1]) U)<|eS U (MV U)<|eS U (EX U)<|eS U (EX U)<|eS U (AG U)<|eo U<|cp U fun T11 D=>AL U dU fun O=>aK (D _ _ (aR [1,2,3,4,5]) ?_)
 refine cp U fun T13 E=>eN U cT U<|aK (E _ _ (aR [1,2,3,4,5]) ?_)
 refine fK U<|KK B<|WS fun _ C=>rP 3 [] (mc 0 U mn) ?_
 refine RK C<|ar<|Q1 hQ U U U ?_
 (refine congrArg (Value.int .i64) ?_; rw [CE I hx (by rw [show n.toNat-1=(n-1).toNat by omega]; exact hy),(lV htr ⟨(hbk _ (List.mem_of_getElem? hy)).1,(hbk _ (List.mem_of_getElem? hx)).1⟩).2])
theorem Jp (l:bH) (kA:OA) (kC:Nat) (az:List RA) (cA:OA) (cC:Nat) (bA:OA) (bC:Nat) (n:Int) (hin:ej l az) (htr:du l.aO=true) (hok:lR l) (hn:0≤n∧n<(l.ab.length:Int)):
 dB Tryz.prog 212 [(vA (cm.cells (jR l kA kC cA cC bA bC))),(vI n)] [(rd kA l.aO.length 9 (l.aO.map au.cells)),(rd cA l.aj.length 2 (List.zipWith ax.cells l.aj az)),(dE (bg ax.e_ l.aj az)),(rd bA l.ab.length 4 (l.ab.map bK.cells))] (vI (eE l n.toNat)):=by
 have G:=hin.rW
 have F:=hin.sG
 have D:=hin.ly
 have E:=hin.se
 have C:=hok.head
 unfold eZ at C
 have H:=Cy htr hok.vl n.toNat
 have AA:=hok.Ps n.toNat I
 refine bJ kr Tryz.func212 U U fun K Q hQ hN=>?_
 try dsimp only
 refine WS fun _ A=>eJ U fun J=>bI 1 U<|RK A<|aq fun _ B=>cW cg 12 kr<|kv 2 [] (mc 0 U mn) U<|dS (CL (Io l kA kC az cA cC bA bC n hin htr (by exact hok.vl) hn) (bo [1,2,3,4]) U)<|dS (BI U (uT ⟨I,I⟩))<|kv 6 [] (mc 0 U mn) U<|dS (BI U (uj I I I))<|dP 1 [] mn ?_
 refine cx<|RK B<|ar<|Q1 hQ U U U ?_
 exact cI (by unfold eE o1; rw [Int.mul_comm])
theorem NX (l:bH) (kA:OA) (kC:Nat) (az:List RA) (cA:OA) (cC:Nat) (bA:OA) (bC:Nat) (hin:ej l az) (htr:du l.aO=true):
 dB Tryz.prog 127 [(vA (cm.cells (jR l kA kC cA cC bA bC)))] [(rd kA l.aO.length 9 (l.aO.map au.cells)),(rd cA l.aj.length 2 (List.zipWith ax.cells l.aj az)),(dE (bg ax.e_ l.aj az)),(rd bA l.ab.length 4 (l.ab.map bK.cells))] (vB (decide (lR l))):=by
 have FS:=hin.rW
 have Do:=hin.sG
 have C3:=hin.ly
 have Dj:=hin.se
 have EQ:=hin.side
 have Eq:=ki htr
 have C2:=lh htr
 refine bJ kr Tryz.func127 U U fun w0 Q hQ hN=>?_
 try dsimp only
 refine WS fun _ A9=>eJ U fun b2=>bI 1 U<|RK A9<|aq fun _ B3=>WS fun _ D=>eV 2 [] (mc 0 U mn) U<|rS (CL (je l.h_ 1 5000) (aL) U)<|rP 2 [] mn ?_
 refine bT (t:=10) U (aX fun AO=>?_) (aW fun AO=>?_)
 ·refine bI 35 U<|RK D<|aN U<|WS fun _ B9=>rP 1 [] mn ?_
  refine RK B9<|ar<|Q1 hQ U U U ?_
  exact cB (bj fun h=>by have q:=h.head; unfold eZ at q; omega).symm
 refine eV 3 [] (mc 0 U mn) U<|rS (CL (je (l.aj.length:Int) 1 4) (aL) U)<|rP 3 [] mn ?_
 refine bT (t:=17) U (aX fun A0=>?_) (aW fun A0=>?_)
 ·refine bI 28 U<|RK D<|aN U<|WS fun _ CC=>rP 1 [] mn ?_
  refine RK CC<|ar<|Q1 hQ U U U ?_
  exact cB (bj fun h=>by have q:=h.head; unfold eZ at q; omega).symm
 refine eV 3 [] (mc 0 U mn) U<|rS (CL (je (l.ab.length:Int) 1 6) (aL) U)<|rP 3 [] mn ?_
 refine bT (t:=24) U (aX fun A1=>?_) (aW fun A1=>?_)
 ·refine bI 21 U<|RK D<|aN U<|WS fun _ Ci=>rP 1 [] mn ?_
  refine RK Ci<|ar<|Q1 hQ U U U ?_
  exact cB (bj fun h=>by have q:=h.head; unfold eZ at q; omega).symm
 refine eV 6 [] (mc 0 U mn) U<|rS (CL (je l.cf 0 ((l.ab.length:Int)-1)) (aL) U)<|rP 3 [] mn ?_
 refine bT (t:=34) U (aX fun A2=>?_) (aW fun A2=>?_)
 ·refine bI 11 U<|RK D<|aN U<|WS fun _ Ck=>rP 1 [] mn ?_
  refine RK Ck<|ar<|Q1 hQ U U U ?_
  exact cB (bj fun h=>by have q:=h.head; unfold eZ at q; omega).symm
 refine eV 2 [] (mc 0 U mn) U<|rS (CL (je l.fJ 0 3) (aL) U)<|rP 3 [] mn ?_
 refine bT (t:=40) U (aX fun A3=>?_) (aW fun A3=>?_)
 ·refine bI 5 U<|RK D<|aN U<|WS fun _ Cp=>rP 1 [] mn ?_
  refine RK Cp<|ar<|Q1 hQ U U U ?_
  exact cB (bj fun h=>by have q:=h.head; unfold eZ at q; omega).symm
 refine eV 2 [] (mc 0 U mn) U<|rS (CL (je l.dC 0 3) (aL) U)<|rP 2 [] mn ?_
 refine RK D<|ck U (aX fun A4=>?_) (aW fun A4=>?_)
 ·refine WS fun _ N=>rP 1 [] mn ?_
  refine RK N<|ar<|Q1 hQ U U U ?_
  exact cB (bj fun h=>by have q:=h.head; unfold eZ at q; omega).symm
 refine WK B3<|aq fun _ O=>WS fun _ R=>rP 1 [] mn ?_
 refine RK R<|aH ?_
 have A:(0≤l.aj.length)∧(∀ (j:Nat) y,j<0→l.aj[j]? =some y→fy y):=by exact ⟨Nat.zero_le _,fun j y hj=>absurd hj (Nat.not_lt_zero _)⟩
 refine bS (ι:={z:Nat // (z≤l.aj.length)∧(∀ (j:Nat) y,j<z→l.aj[j]? =some y→fy y)}) [1] [0,1,2,3,4] U U (fun z=>[(3,(vI (z.1:Int)))]) (fun z=>[]) (fun _=>rfl) (fun _=>rfl) (fun z=>l.aj.length-z.1) ⟨0,A⟩ (bD U) (aR [0,1,2,3,4]) ?_
 clear A
 rintro ⟨i,⟨Cx,F⟩⟩ J13 K
 try dsimp only
 refine aq fun _ S=>WS fun _ T=>rP 5 [] (mc 0 U mn) ?_
 refine RK T<|ck U (aT fun A5=>?_) (aU fun A5=>?_)
 ·refine WK S<|aq fun _ AA=>aH<|WS fun _ V=>rP 3 [] (mc 0 U mn) ?_
  obtain ⟨x,hx⟩:=aC l.aj i I
  obtain ⟨xa,J⟩:=aC az i I
  have C1:(List.zipWith ax.cells l.aj az)[i]? =some (ax.cells x xa):=cv hx J
  refine rS (IA i U (ay 2 U) yf dc I I)<|rS (jD i 0 (dk.cells (dk.mk x.dw (bE.mk xa.1 x.bB.length xa.2))) U bU (ay 2 U) C1 U dc U U) ?_
  have FQ:=(hin.Q0 _ _ _ hx J).2
  refine rS (CL (JA x xa.1 xa.2 asm) (aD (show fY _ (rd xa.1 x.bB.length 3 (x.bB.map ct.cells)).holds from (bX 3 U (a_ hx J (by simp [ax.e_]))))<|aL) U)<|rP 1 [] mn ?_
  refine RK V<|bR U (aW fun AB=>?_) (aX fun AB=>?_)
  ·refine cj<|aP<|KK AA<|aw<|rP 3 [] mn ?_
   refine aK ?_
   have u:(vI (((i+1):Nat):Int))=(vI ((i:Int)+1)):=by exact cI I
   refine bu (K ⟨(i+1),⟨I,mo (P:=fun _ y=>fy y) F hx AB⟩⟩ _ _ _ U os (dp.cons U<|bw U u<|dp.nil _) (aR [0,1,2,3,4]))
  refine WS fun _ W=>rP 1 [] mn ?_
  refine RK W<|ar<|Q1 hQ U U U ?_
  exact cB (bj fun h=>AB (h.clock _ (aM hx))).symm
 refine bQ<|ag<|ag<|aI<|KK O<|aq fun _ X=>WS fun _ Y=>rP 1 [] mn ?_
 refine RK Y<|aH ?_
 have A:(0≤l.ab.length)∧(∀ (j:Nat) y,j<0→l.ab[j]? =some y→kp l y):=by exact ⟨Nat.zero_le _,fun j y hj=>absurd hj (Nat.not_lt_zero _)⟩
 refine bS (ι:={z:Nat // (z≤l.ab.length)∧(∀ (j:Nat) y,j<z→l.ab[j]? =some y→kp l y)}) [1] [0,1,2,3,4] U U (fun z=>[(4,(vI (z.1:Int)))]) (fun z=>[]) (fun _=>rfl) (fun _=>rfl) (fun z=>l.ab.length-z.1) ⟨0,A⟩ (bD U) (aR [0,1,2,3,4]) ?_
 clear A
 rintro ⟨m,⟨C0,B⟩⟩ J22 L
 try dsimp only
 refine aq fun _ Z=>WS fun _ a=>rP 5 [] (mc 0 U mn) ?_
 refine RK a<|bR U (aU fun A6=>?_) (aT fun A6=>?_)
 ·refine bQ<|ag<|ag<|aI<|KK X<|aq fun _ e=>WS fun _ f=>rP 1 [] mn ?_
  refine RK f<|aH ?_
  have A:(0≤l.ab.length)∧(∀ j,j<0→1≤lH l j):=by exact ⟨Nat.zero_le _,fun j hj=>absurd hj (Nat.not_lt_zero _)⟩
  refine bS (ι:={z:Nat // (z≤l.ab.length)∧(∀ j,j<z→1≤lH l j)}) [1] [0,1,2,3,4] U U (fun z=>[(5,(vI (z.1:Int)))]) (fun z=>[]) (fun _=>rfl) (fun _=>rfl) (fun z=>l.ab.length-z.1) ⟨0,A⟩ (bD U) (aR [0,1,2,3,4]) ?_
  clear A
  rintro ⟨n,⟨AK,C⟩⟩ J32 M
  try dsimp only
  have Di:=xY (P:=kp l) I B
  refine aq fun _ g=>WS fun _ k=>rP 5 [] (mc 0 U mn) ?_
  refine RK k<|bR U (aU fun A8=>?_) (aT fun A8=>?_)
  ·refine bQ<|ag<|ag<|aI<|KK e<|WS fun _ s=>rP 1 [] mn ?_
   refine RK s<|ar<|Q1 hQ U U U ?_
   exact cB (cO (yS (by unfold eZ; omega) (xY I F) (xY I B) (fun j hj=>C j I))).symm
  refine WK g<|aq fun _ o=>aH<|WS fun _ p=>eV 2 [] (mc 0 U mn) U<|rS (CL (Io l kA kC az cA cC bA bC (n:Int) hin htr asm I) (bo [1,2,3,4]) U)<|rP 1 [] mn ?_
  refine RK p<|bR U (aU fun E=>?_) (aT fun E=>?_)
  ·refine cj<|aP<|KK o<|aw<|rP 3 [] mn ?_
   refine aK ?_
   have w:(vI (((n+1):Nat):Int))=(vI ((n:Int)+1)):=by exact cI I
   refine bu (M ⟨(n+1),⟨I,fun j hj=>by rcases Nat.lt_or_ge j n with q|q; exact C j q; (obtain rfl:j=n:=by omega); simp only [Int.toNat_natCast] at E; omega⟩⟩ _ _ _ rfl os (dp.cons rfl<|bw rfl w<|dp.nil _) (aR [0,1,2,3,4]))
  refine WS fun _ r=>rP 1 [] mn ?_
  refine RK r<|ar<|Q1 hQ U U U ?_
  exact cB (bj fun h=>by have q:=h.Ps n I; simp only [Int.toNat_natCast] at E; omega).symm
 refine WK Z<|aq fun _ b=>aH<|aq fun _ H=>cW cg 24 kr<|kR 1 U<|dS (LP (bL.cells (bL.mk (bE.mk kA l.aO.length kC))) 0 U bU U U U)<|dP 3 [] (mc 0 U mn) ?_
 obtain ⟨y,hy⟩:=aC l.ab m I
 have AC:=bO bK.cells hy
 refine dS (IA m U (ay 4 U) uE dc I I)<|dS (pO (m*4) U (ay 4 U) (Nat.mul_pos I dc) eU U)<|dS (jD m 0 (cH.cells y.lp) U bU (ay 4 U) AC U dc U U)<|dS (CL (r8 l.aO kA kC y.lp asm asm) (bo [1]) U)<|dP 2 [] mn ?_
 refine gP (t:=77) U (aX fun G=>?_) (aW fun G=>?_)
 ·refine kR 13 U<|cx<|RK H<|aN U<|WS fun _ c=>rP 1 [] mn ?_
  refine RK c<|ar<|Q1 hQ U U U ?_
  exact cB (bj fun h=>by have q:=h.vl _ (aM hy); have q2:=q.2; first|exact G q.1|omega).symm
 refine kv 3 [] (mc 0 U mn) U<|dS (IA m U (ay 4 U) uE dc I I)<|dS (pO ((m*4)+3) U (ay 4 U) (Nat.mul_pos I dc) eU U)<|dS (gD m 3 (vI y.jG) U bU (ay 4 U) AC U dc U)<|kv 4 [] (mc 0 U mn) U<|dS (CL (je y.jG 0 ((l.aj.length:Int)-1)) (aL) U)<|dP 2 [] mn ?_
 refine cx<|RK H<|bR U (aW fun A7=>?_) (aX fun A7=>?_)
 ·refine cj<|aP<|KK b<|aw<|rP 3 [] mn ?_
  refine aK ?_
  have v:(vI (((m+1):Nat):Int))=(vI ((m:Int)+1)):=by exact cI I
  refine bu (L ⟨(m+1),⟨I,mo (P:=fun _ y=>kp l y) B hy ⟨G,I,I⟩⟩⟩ _ _ _ U os (dp.cons U<|bw U v<|dp.nil _) (aR [0,1,2,3,4]))
 refine WS fun _ d=>rP 1 [] mn ?_
 refine RK d<|ar<|Q1 hQ U U U ?_
 exact cB (bj fun h=>by have q:=h.vl _ (aM hy); have q2:=q.2; first|exact G q.1|omega).symm
end
section
open Go.RowKit
theorem C9 (l:bH) (kA:OA) (kC:Nat) (az:List RA) (cA:OA) (cC:Nat) (bA:OA) (bC:Nat) (hin:ej l az):
 dB Tryz.prog 105 [(vA (cm.cells (jR l kA kC cA cC bA bC)))] [(rd kA l.aO.length 9 (l.aO.map au.cells)),(rd cA l.aj.length 2 (List.zipWith ax.cells l.aj az)),(dE (bg ax.e_ l.aj az)),(rd bA l.ab.length 4 (l.ab.map bK.cells))] (vI (eT l)):=by
 have N:=hin.rW
 have M:=hin.sG
 have K:=hin.ly
 have L:=hin.se
 refine bJ kr Tryz.func105 U U fun P Q hQ hN=>?_
 try dsimp only
 refine WS fun _ C=>eJ U fun O=>bI 1 U<|RK C<|aq fun _ D=>WS fun _ E=>bI 1 U<|rS (LP (bL.cells (bL.mk (bE.mk kA l.aO.length kC))) 0 U bU U U U)<|rS (CL (wL l.aO kA kC asm) (bo [1]) U)<|rP 1 [] mn ?_
 refine RK E<|ck U (fun A=>?_) (fun A=>?_)
 ·rw [Bool.not_eq_true'] at A
  refine WS fun _ F=>rP 1 [] mn ?_
  refine RK F<|ar<|Q1 hQ U U U ?_
  exact cI (ze (by simpa using A)).symm
 rw [Bool.not_eq_false'] at A
 refine WK D<|aq fun _ G=>WS fun _ H=>eV 1 [] (mc 0 U mn) U<|rS (CL (NX l kA kC az cA cC bA bC hin asm) (bo [1,2,3,4]) U)<|rP 1 [] mn ?_
 refine RK H<|ck U (aX fun B=>?_) (aW fun B=>?_)
 ·refine WS fun _ AA=>rP 1 [] mn ?_
  refine RK AA<|ar<|Q1 hQ U U U ?_
  exact cI (rq A B).symm
 refine WK G<|WS fun _ J=>rP 1 [] mn ?_
 refine RK J<|ar<|Q1 hQ U U U ?_
 exact cI (xV A B).symm
theorem NH (l:bH) (kA:OA) (kC:Nat) (az:List RA) (cA:OA) (cC:Nat) (bA:OA) (bC:Nat) (s:aF) (hin:ej l az) (hok:lR l) (hs:(0≤s.fH∧s.fH≤(l.ab.length:Int)-1)∧0≤s.Read∧s.Read≤86400000):
 dB Tryz.prog 213 [(vA (cm.cells (jR l kA kC cA cC bA bC))),(vA (aF.cells s))] [(rd kA l.aO.length 9 (l.aO.map au.cells)),(rd cA l.aj.length 2 (List.zipWith ax.cells l.aj az)),(dE (bg ax.e_ l.aj az)),(rd bA l.ab.length 4 (l.ab.map bK.cells))] (vT [(vA (ai.cells (cV l s))),(vB (decide ((cV l s).Lo≤(cV l s).Hi)))]):=by
 have A1:=hin.rW
 have A0:=hin.sG
 have AK:=hin.ly
 have AO:=hin.se
 refine bJ kr Tryz.func213 U U fun w0 Q hQ hN=>?_
 try dsimp only
 refine WS fun _ i=>eJ U fun b2=>eJ U fun b3=>AL U dU fun b4=>rP 1 [] mn ?_
 refine RK i<|aq fun _ j=>dH cg [11,12] [] [] [0,1,2,3,4,5,6] [] U U U U U<|eS U (FA 2 U eU U)<|eS U (L1 (vS cA l.aj.length cC) 2 U bU U U)<|eS U (FA 3 U eU U)<|eS U (L1 (vS bA l.ab.length bC) 2 U bU U U)<|eS U (FA 0 U eU U)<|eS U (L1 (vI s.fH) 1 U bU U U) ?_
 obtain ⟨y,hy⟩:=aC l.ab ((s.fH).toNat) I
 have w:=bO bK.cells hy
 refine eS U (IA ((s.fH).toNat) U (ay 6 U) uE dc I I)<|eS U (pO ((((s.fH).toNat)*4)+3) U (ay 6 U) (Nat.mul_pos I dc) eU U)<|eS U (gD ((s.fH).toNat) 3 (vI y.jG) U bU (ay 6 U) w U dc U) ?_
 have A2:=(hok.vl _ (aM hy)).2
 obtain ⟨x,hx⟩:=aC l.aj ((y.jG).toNat) I
 obtain ⟨xa,J⟩:=aC az ((y.jG).toNat) I
 have u:(List.zipWith ax.cells l.aj az)[(y.jG).toNat]? =some (ax.cells x xa):=cv hx J
 refine eS U (IA ((y.jG).toNat) U (ay 4 U) yf dc I I)<|eS U (jD ((y.jG).toNat) 0 (dk.cells (dk.mk x.dw (bE.mk xa.1 x.bB.length xa.2))) U bU (ay 4 U) u U dc U U)<|eo U<|cp U fun T6 m=>AL U xA fun b7=>aK (m _ _ (aR [1,2,3,4,5,6,7]) ?_)
 refine cp U fun T8 o=>eN U zd U<|aK (o _ _ (aR [1,2,3,4,5,6,7]) ?_)
 refine fK U<|KK j<|WS fun _ k=>rP 2 [] mn ?_
 refine RK k<|aq fun _ K=>aH ?_
 have A:(0≤(0:Int)∧(0:Int)≤(fO (gI x s.Read) 86400001))∧((fO (gI x s.Read) 86400001)≤(86400001:Int)∧(86400001:Int)≤86400001):=by (have Z:=iK (p:=gI x s.Read) (n:=86400001); omega)
 refine bS (ι:={z:Int×Int // (0≤z.1∧z.1≤(fO (gI x s.Read) 86400001))∧((fO (gI x s.Read) 86400001)≤z.2∧z.2≤86400001)}) [2,3,4,6] [0,1,2,3,4,5,6,7] U U (fun z=>[(7,(vI z.1.1)),(8,(vI z.1.2))]) (fun z=>[]) (fun _=>rfl) (fun _=>rfl) (fun z=>(z.1.2-z.1.1).toNat) ⟨((0:Int),(86400001:Int)),A⟩ (bD U) (aR [0,1,2,3,4,5,6,7]) ?_
 clear A
 rintro ⟨⟨a,b⟩,⟨H,AB⟩⟩ J11 F
 try dsimp only at H AB
 try dsimp only
 have B:=hok.clock _ (aM hx)
 have Z:=iK (p:=gI x s.Read) (n:=86400001)
 have Y:=iK (p:=gJ x s.Read) (n:=86400001)
 refine aq fun _ L=>WS fun _ M=>rP 3 [] mn ?_
 refine RK M<|ck U (aT fun c=>?_) (aU fun c=>?_)
 ·refine WK L<|aH<|WS fun _ N=>bI 3 U<|rS (BI U (uj I I I))<|bI 1 U<|RK N<|aq fun _ O=>cW cg 9 kr<|dP 3 [] (mc 0 U mn) ?_
  refine dS (CL (BQ x xa.1 xa.2 ((a+b)/2) asm I) (aD (show fY _ (rd xa.1 x.bB.length 3 (x.bB.map ct.cells)).holds from (bX 6 U (a_ hx J (by simp [ax.e_]))))<|aL) U)<|dS (SX (sK (v:=(vI ((iI x ((a+b)/2)).Hi))) U U eU KY U) U U) ?_
  have t:=rl B (show 0≤(a+b)/2∧(a+b)/2≤90000000 by omega)
  refine dP 4 [] (mc 2 U mn) ?_
  refine cx<|RK O<|ck U (aT fun g=>?_) (aU fun g=>?_)
  ·refine aw<|rP 2 [] mn ?_
   refine aK<|aP ?_
   refine bu (F ⟨(a,((a+b)/2)),(by dsimp only; have hm:=lu (r:=s.Read) B (x:=(a+b)/2) I I; rcases Int.lt_or_le ((a+b)/2) (fO (gI x s.Read) 86400001) with q|q; (have C:=hm.1 q; simp only [gI,decide_eq_false_iff_not] at C; omega); (have C:=hm.2.1 q; simp only [gI,decide_eq_true_eq] at C; omega))⟩ _ _ _ rfl (by simp only []; omega) (bD rfl) (aR [0,1,2,3,4,5,6,7]))
  refine aw<|rP 3 [] mn ?_
  refine aK<|aP ?_
  refine bu (F ⟨((((a+b)/2)+1),b),(by dsimp only; have hm:=lu (r:=s.Read) B (x:=(a+b)/2) I I; rcases Int.lt_or_le ((a+b)/2) (fO (gI x s.Read) 86400001) with q|q; (have C:=hm.1 q; simp only [gI,decide_eq_false_iff_not] at C; omega); (have C:=hm.2.1 q; simp only [gI,decide_eq_true_eq] at C; omega))⟩ _ _ _ rfl (by simp only []; omega) (bD rfl) (aR [0,1,2,3,4,5,6,7]))
 refine bQ<|ag<|ag<|aI<|KK K<|WS fun _ P=>bI 2 U<|RK P<|WS fun _ R=>rP 2 [] mn ?_
 refine RK R<|aq fun _ S=>aH ?_
 have A:(-1≤((-1):Int)∧((-1):Int)≤(fO (gJ x s.Read) 86400001)-1)∧((fO (gJ x s.Read) 86400001)-1≤(86400000:Int)∧(86400000:Int)≤86400000):=by (have Y:=iK (p:=gJ x s.Read) (n:=86400001); omega)
 refine bS (ι:={z:Int×Int // (-1≤z.1∧z.1≤(fO (gJ x s.Read) 86400001)-1)∧((fO (gJ x s.Read) 86400001)-1≤z.2∧z.2≤86400000)}) [2,3,4,6,10] [0,1,2,3,4,5,6,7] U U (fun z=>[(7,(vI z.1.1)),(8,(vI z.1.2))]) (fun z=>[]) (fun _=>rfl) (fun _=>rfl) (fun z=>(z.1.2-z.1.1).toNat) ⟨(((-1):Int),(86400000:Int)),A⟩ (bD U) (aR [0,1,2,3,4,5,6,7]) ?_
 clear A
 rintro ⟨⟨d,e⟩,⟨D,E⟩⟩ J20 G
 try dsimp only at D E
 try dsimp only
 have B:=hok.clock _ (aM hx)
 have Z:=iK (p:=gI x s.Read) (n:=86400001)
 have Y:=iK (p:=gJ x s.Read) (n:=86400001)
 refine aq fun _ T=>WS fun _ AA=>rP 3 [] mn ?_
 refine RK AA<|bR U (aU fun f=>?_) (aT fun f=>?_)
 ·refine bQ<|ag<|ag<|aI<|KK S<|WS fun _ X=>bI 2 U<|rS (SX (bp (xs:=[(0,.tmp 63),(1,.tmp 64)]) (cs:=(ai.cells (ai.mk a d))) U U (bq gM U)) U U)<|bI 3 U<|qN U cT U<|rP 1 [] mn ?_
  refine RK X<|ar<|l5 hQ [0] (mc 1 U mn) U ?_
  have e0:cV l s=⟨a,d⟩:=by (unfold cV rF; rw [xb hy hx,show a=(fO (gI x s.Read) 86400001) by omega,show d=(fO (gJ x s.Read) 86400001)-1 by omega])
  rw [e0]
 refine WK T<|aH<|WS fun _ V=>bI 4 U<|rS (BI U (uj I I I))<|bI 1 U<|RK V<|aq fun _ W=>cW cg 9 kr<|dP 3 [] (mc 0 U mn) ?_
 refine dS (CL (BQ x xa.1 xa.2 (((d+e)+1)/2) asm I) (aD (show fY _ (rd xa.1 x.bB.length 3 (x.bB.map ct.cells)).holds from (bX 6 U (a_ hx J (by simp [ax.e_]))))<|aL) U)<|dS (SX (sK (v:=(vI ((iI x (((d+e)+1)/2)).Lo))) U U eU Jx U) U U) ?_
 have t:=rl B (show 0≤(d+e+1)/2∧(d+e+1)/2≤90000000 by omega)
 refine dP 4 [] (mc 2 U mn) ?_
 refine cx<|RK W<|ck U (aT fun h=>?_) (aU fun h=>?_)
 ·refine aw<|rP 2 [] mn ?_
  refine aK<|aP ?_
  refine bu (G ⟨((((d+e)+1)/2),e),(by dsimp only; have hm:=lu (r:=s.Read) B (x:=(d+e+1)/2) I I; rcases Int.lt_or_le ((d+e+1)/2) (fO (gJ x s.Read) 86400001) with q|q; (have C:=hm.2.2.1 q; simp only [gJ,decide_eq_false_iff_not] at C; omega); (have C:=hm.2.2.2 q; simp only [gJ,decide_eq_true_eq] at C; omega))⟩ _ _ _ rfl (by simp only []; omega) (bD rfl) (aR [0,1,2,3,4,5,6,7]))
 refine aw<|rP 3 [] mn ?_
 refine aK<|aP ?_
 refine bu (G ⟨(d,((((d+e)+1)/2)-1)),(by dsimp only; have hm:=lu (r:=s.Read) B (x:=(d+e+1)/2) I I; rcases Int.lt_or_le ((d+e+1)/2) (fO (gJ x s.Read) 86400001) with q|q; (have C:=hm.2.2.1 q; simp only [gJ,decide_eq_false_iff_not] at C; omega); (have C:=hm.2.2.2 q; simp only [gJ,decide_eq_true_eq] at C; omega))⟩ _ _ _ rfl (by simp only []; omega) (bD rfl) (aR [0,1,2,3,4,5,6,7]))
end
section
open Go.RowKit
theorem NK (l:bH) (kA:OA) (kC:Nat) (az:List RA) (cA:OA) (cC:Nat) (bA:OA) (bC:Nat) (r:c_) (sgA:OA) (sgC:Nat) (hin:ej l az) (hsl:r.aa.length≤1000000):
 dB Tryz.prog 152 [(vA (cm.cells (jR l kA kC cA cC bA bC))),(vA (cL.cells (iN r sgA sgC)))] [(rd kA l.aO.length 9 (l.aO.map au.cells)),(rd cA l.aj.length 2 (List.zipWith ax.cells l.aj az)),(dE (bg ax.e_ l.aj az)),(rd bA l.ab.length 4 (l.ab.map bK.cells)),(rd sgA r.aa.length 2 (r.aa.map aF.cells))] (vB (decide (fQ l r))):=by
 have AO:=hin.rW
 have AK:=hin.sG
 have w:=hin.ly
 have AC:=hin.se
 refine bJ kr Tryz.func152 U U fun w0 Q hQ hN=>?_
 try dsimp only
 refine WS fun _ h=>eJ U fun b2=>eJ U fun b3=>bI 1 U<|RK h<|aq fun _ j=>WS fun _ H=>eV 2 [] (mc 0 U mn) U<|rS (CL (je r.Start 0 86400000) (aL) U)<|rP 2 [] mn ?_
 refine bT (t:=11) U (aX fun X=>?_) (aW fun X=>?_)
 ·refine bI 13 U<|RK H<|aN U<|WS fun _ k=>rP 1 [] mn ?_
  refine RK k<|ar<|Q1 hQ U U U ?_
  exact cB (bj fun q=>by have C:=q.time; have u:=q.len; omega).symm
 refine eV 4 [] (mc 0 U mn) U<|rS (CL (je r.gj r.Start 86400000) (aL) U)<|rP 3 [] mn ?_
 refine bT (t:=19) U (aX fun Z=>?_) (aW fun Z=>?_)
 ·refine bI 5 U<|RK H<|aN U<|WS fun _ m=>rP 1 [] mn ?_
  refine RK m<|ar<|Q1 hQ U U U ?_
  exact cB (bj fun q=>by have C:=q.time; have u:=q.len; omega).symm
 refine rP 5 [] (mc 0 U mn) ?_
 refine RK H<|ck U (aT fun a=>?_) (aU fun a=>?_)
 ·refine WS fun _ n=>rP 1 [] mn ?_
  refine RK n<|ar<|Q1 hQ U U U ?_
  exact cB (bj fun q=>by have C:=q.time; have u:=q.len; omega).symm
 refine WK j<|aq fun _ o=>WS fun _ J=>rP 1 [] mn ?_
 refine RK J<|aH ?_
 have F:(0≤r.aa.length)∧(oT l r.aa 0):=by exact ⟨Nat.zero_le _,vp⟩
 refine bS (ι:={z:Nat // (z≤r.aa.length)∧(oT l r.aa z)}) [2,3] [0,1,2,3,4,5,6] U U (fun z=>[(5,(vI (z.1:Int)))]) (fun z=>[]) (fun _=>rfl) (fun _=>rfl) (fun z=>r.aa.length-z.1) ⟨0,F⟩ (bD U) (aR [0,1,2,3,4,5,6]) ?_
 clear F
 rintro ⟨i,⟨p,A⟩⟩ J11 D
 try dsimp only
 refine aq fun _ K=>WS fun _ L=>rP 5 [] (mc 0 U mn) ?_
 refine RK L<|bR U (aU fun Y=>?_) (aT fun Y=>?_)
 ·refine bQ<|ag<|ag<|aI<|KK o<|WS fun _ T=>rP 1 [] mn ?_
  refine RK T<|ar<|Q1 hQ U U U ?_
  exact cB (cO (xB I I A I)).symm
 refine WK K<|aq fun _ E=>aH<|WS fun _ M=>rP 3 [] (mc 0 U mn) ?_
 obtain ⟨x,hx⟩:=aC r.aa i I
 have s:=bO aF.cells hx
 refine rS (IA i U (ay 6 U) wD dc I I)<|rS (jD i 0 (aF.cells x) U bU (ay 6 U) s U dc U U)<|AL U zG fun v=>eN U pj U<|RK M<|aq fun _ N=>WS fun _ G=>eV 6 [0,1] (mc 0 U (mc 2 U mn)) U<|rS (CL (je x.fH 0 ((l.ab.length:Int)-1)) (aL) U)<|rP 2 [] mn ?_
 refine bT (t:=45) U (aX fun b=>?_) (aW fun b=>?_)
 ·refine bI 5 U<|RK G<|aN U<|WS fun _ O=>rP 1 [] mn ?_
  refine RK O<|ar<|Q1 hQ U U U ?_
  exact cB (bj fun q=>by have C:=q.sig i x hx; unfold iT jw at C; omega).symm
 refine eV 2 [] (mc 0 U mn) U<|rS (CL (je x.Read 0 86400000) (aL) U)<|rP 2 [] mn ?_
 refine RK G<|ck U (aX fun c=>?_) (aW fun c=>?_)
 ·refine WS fun _ P=>rP 1 [] mn ?_
  refine RK P<|ar<|Q1 hQ U U U ?_
  exact cB (bj fun q=>by have C:=q.sig i x hx; unfold iT jw at C; omega).symm
 refine WK N<|aq fun _ B=>cW cg 38 kr<|dP 3 [] mn ?_
 refine hP (t:=53) U (aU fun d=>?_) (aT fun d=>?_)
 ·refine kR 35 U<|cx<|RK B<|cq U<|cj<|aP<|KK E<|aw<|rP 3 [] mn ?_
  refine aK ?_
  have W:(vI (((i+1):Nat):Int))=(vI ((i:Int)+1)):=by exact cI I
  refine bu (D ⟨(i+1),⟨I,jv A hx (by unfold iT jw; (rw [Gk I]; simp only; omega))⟩⟩ _ _ _ U os (dp.cons U<|dp.cons U<|bw U W<|dp.nil _) (aR [1,2,3,4,5,6,7]))
 refine dP 6 [0,1] (mc 0 U (mc 1 U mn)) ?_
 obtain ⟨y,hy⟩:=aC r.aa (i-1) I
 have AB:=bO aF.cells hy
 refine dS (IA (i-1) U (ay 7 U) wD dc I I)<|dS (pO ((i-1)*2) U (ay 7 U) (Nat.mul_pos I dc) eU U)<|dS (gD (i-1) 0 (vI y.fH) U bU (ay 7 U) AB U dc U)<|dP 2 [] mn ?_
 refine gP (t:=64) U (aT fun e=>?_) (aU fun e=>?_)
 ·refine kR 24 U<|cx<|RK B<|aN U<|WS fun _ R=>rP 1 [] mn ?_
  refine RK R<|ar<|Q1 hQ U U U ?_
  exact cB (bj fun q=>by have C:=q.sig i x hx; unfold iT jw at C; (rw [su I hy] at C; omega)).symm
 refine kv 6 [0,1] (mc 0 U (mc 1 U mn)) U<|dS (IA (i-1) U (ay 7 U) wD dc I I)<|dS (pO ((i-1)*2) U (ay 7 U) (Nat.mul_pos I dc) eU U)<|dS (gD (i-1) 0 (vI y.fH) U bU (ay 7 U) AB U dc U)<|dP 2 [] mn ?_
 refine hP (t:=75) U (aU fun f=>?_) (aT fun f=>?_)
 ·refine kR 13 U<|cx<|RK B<|cq U<|cj<|aP<|KK E<|aw<|rP 3 [] mn ?_
  refine aK ?_
  have V:(vI (((i+1):Nat):Int))=(vI ((i:Int)+1)):=by exact cI I
  refine bu (D ⟨(i+1),⟨I,jv A hx (by unfold iT jw; (rw [su I hy]; omega))⟩⟩ _ _ _ U os (dp.cons U<|dp.cons U<|bw U V<|dp.nil _) (aR [1,2,3,4,5,6,7]))
 refine kv 6 [0,1] (mc 0 U (mc 1 U mn)) U<|dS (IA (i-1) U (ay 7 U) wD dc I I)<|dS (pO (((i-1)*2)+1) U (ay 7 U) (Nat.mul_pos I dc) eU U)<|dS (gD (i-1) 1 (vI y.Read) U bU (ay 7 U) AB U dc U)<|dP 4 [] mn ?_
 refine cx<|RK B<|ck U (aT fun g=>?_) (aU fun g=>?_)
 ·refine WS fun _ S=>rP 1 [] mn ?_
  refine RK S<|ar<|Q1 hQ U U U ?_
  exact cB (bj fun q=>by have C:=q.sig i x hx; unfold iT jw at C; (rw [su I hy] at C; omega)).symm
 refine cj<|aP<|KK E<|aw<|rP 3 [] mn ?_
 refine aK ?_
 have AA:(vI (((i+1):Nat):Int))=(vI ((i:Int)+1)):=by exact cI I
 refine bu (D ⟨(i+1),⟨I,jv A hx (by unfold iT jw; (rw [su I hy]; omega))⟩⟩ _ _ _ U os (dp.cons U<|dp.cons U<|bw U AA<|dp.nil _) (aR [1,2,3,4,5,6,7]))
end
section
open Go.RowKit
theorem N6 (l:bH) (kA:OA) (kC:Nat) (az:List RA) (cA:OA) (cC:Nat) (bA:OA) (bC:Nat) (r:c_) (sgA:OA) (sgC:Nat) (hin:ej l az) (hle:eT l=0) (hr:fQ l r):
 nG Tryz.prog 192 [(vA (cm.cells (jR l kA kC cA cC bA bC))),(vA (cL.cells (iN r sgA sgC)))] [(rd kA l.aO.length 9 (l.aO.map au.cells)),(rd cA l.aj.length 2 (List.zipWith ax.cells l.aj az)),(dE (bg ax.e_ l.aj az)),(rd bA l.ab.length 4 (l.ab.map bK.cells)),(rd sgA r.aa.length 2 (r.aa.map aF.cells))] (fun (x:(OA)×Nat×(OA)×Nat×(OA)×Nat)=>(vA (iS.cells (iS.mk (bE.mk x.1 ((cu l l.ab.length).length) x.2.1) (bE.mk x.2.2.1 ((e8 l r r.aa.length).length) x.2.2.2.1) (bE.mk x.2.2.2.2.1 ((fI l r r.aa.length).length) x.2.2.2.2.2))))) (fun (x:(OA)×Nat×(OA)×Nat×(OA)×Nat)=>True) (fun (x:(OA)×Nat×(OA)×Nat×(OA)×Nat)=>[(own x.1 x.2.1 3 1 ((cu l l.ab.length).map iC)),(own x.2.2.1 x.2.2.2.1 38 2 ((e8 l r r.aa.length).map ai.cells)),(own x.2.2.2.2.1 x.2.2.2.2.2 4 1 ((fI l r r.aa.length).map qC))]):=by
 have A6:=hin.rW
 have A2:=hin.sG
 have A0:=hin.ly
 have A1:=hin.se
 obtain ⟨w,g⟩:=eh hle
 have t:=g.head
 unfold eZ at t
 have A4:=hr.len
 have A5:=hr.time
 refine eO kr Tryz.func192 U U fun w0 Q hQ hN=>?_
 try dsimp only
 refine WS fun _ n=>eJ U fun b2=>eJ U fun b3=>AL U O4 fun b4=>RK n<|WS fun _ o=>AL U O4 fun h=>RK o<|aq fun _ p=>WS fun _ q=>rP 1 [] mn ?_
 refine RK q<|aH<|eX 3 1 ?_
 have A:(0≤l.ab.length):=by exact Nat.zero_le _
 refine bS (ι:={z:Nat×(OA)×Nat // (z.1≤l.ab.length)}) [2,3,4,5] [2,3,4,5,6,7,8,9] U U (fun z=>[(6,(vI (z.1.1:Int)))]) (fun z=>[(own z.1.2.1 z.1.2.2 3 1 ((cu l z.1.1).map iC)),(cz h 287 (iS.cells (iS.mk (bE.mk z.1.2.1 ((cu l z.1.1).length) z.1.2.2) (bE.mk none 0 0) (bE.mk none 0 0))))]) (fun _=>rfl) (fun _=>rfl) (fun z=>l.ab.length-z.1.1) ⟨(0,none,0),A⟩ (bD U) (aR [2,3,4,5,6,7,8,9,0,1]) ?_
 clear A
 rintro ⟨⟨b,a,c⟩,F⟩ J9 m
 try dsimp only at F
 try dsimp only
 refine aq fun _ K=>WS fun _ L=>rP 5 [] (mc 2 U mn) ?_
 refine RK L<|ck U (aT fun j=>?_) (aU fun j=>?_)
 ·refine WK K<|aq fun _ M=>aH<|dH cg [5,6,8] [1] [0] [0,1,2,3,4,5,6,7] [0,1,2,3,4,5,6,7,8,9] U U U U U<|eS U (FA 0 U eU U)<|fS U (L1 (vS a ((cu l b).length) c) 9 U bU U U)<|eS U (LW 2 U bU U U)<|eS U (MV U) ?_
  have A3:=nB w g (i:=b) I
  refine eS U (CL (Jp l kA kC az cA cC bA bC (b:Int) hin asm asm I) (bo [3,4,5,6]) U)<|eS U (FA 0 U eU U)<|eo U<|iP U fun T14 W=>ew (xs:=[.tmp 21]) (cs:=[(vI (eE l (b:Int).toNat))]) U dy j7 U U U U (by simp [Value.cells]) U U fun y=>aK (W _ _ (aR [1,2,3,4,5,6,7,8]) (aR [1,2,3,4,5,6,7,8,9,10]) ?_)
  refine cp U fun T16 X=>?_
  refine ed (es2:=(List.map iC (cu l (b+1)))) (m':=(cu l (b+1)).length) 9 U U U te U U sm (bx (es:=List.map iC [(eE l (b:Int).toNat)]) 0 U U (by simp [bP]) U) (lU _) (by simp only [dv]; omega) (by simp only [maxLen,dv]; omega) (by rw [rD]; simp) sm U fun H AB=>?_
  try dsimp only
  refine aK (X _ _ (aR [1,2,3,4,5,6,7,8]) ?_)
  refine cp U fun T19 Y=>Vs (iS.cells (iS.mk (bE.mk H ((cu l (b+1)).length) AB) (bE.mk none 0 0) (bE.mk none 0 0))) U G7 U U<|aK (Y _ _ (aR [1,2,3,4,5,6,7,8]) ?_)
  refine fK U<|aP<|KK M<|aw<|rP 3 [] mn ?_
  refine aK ?_
  have e:(vI (((b+1):Nat):Int))=(vI ((b:Int)+1)):=by exact cI I
  refine bu (m ⟨((b+1),H,AB),(by first|omega|(simp only []; omega))⟩ _ _ _ U os (cP 4<|bw U e<|dp.nil _) (aR [1,2,3,4,5,6,7,8,9,10]))
 refine bQ<|ag<|ag<|aI<|KK p<|aq fun _ N=>WS fun _ O=>?_
 rw [show cu l b=(cu l l.ab.length) from by rw [show b=l.ab.length by omega]]
 refine rP 1 [] mn ?_
 refine RK O<|aH<|eX 38 2<|eX 4 1 ?_
 have A:(0≤r.aa.length):=by exact Nat.zero_le _
 refine bS (ι:={z:Nat×(OA)×Nat×(OA)×Nat // (z.1≤r.aa.length)}) [2,3,4,5] [2,3,4,5,6,7,8,9,10] U U (fun z=>[(7,(vI (z.1.1:Int)))]) (fun z=>[(own z.1.2.2.2.1 z.1.2.2.2.2 4 1 ((fI l r z.1.1).map qC)),(own z.1.2.1 z.1.2.2.1 38 2 ((e8 l r z.1.1).map ai.cells)),(cz h 287 (iS.cells (iS.mk (bE.mk a ((cu l l.ab.length).length) c) (bE.mk z.1.2.1 ((e8 l r z.1.1).length) z.1.2.2.1) (bE.mk z.1.2.2.2.1 ((fI l r z.1.1).length) z.1.2.2.2.2))))]) (fun _=>rfl) (fun _=>rfl) (fun z=>r.aa.length-z.1.1) ⟨(0,none,0,none,0),A⟩ (bD U) (aR [2,3,4,5,6,7,8,9,10,0,1,11]) ?_
 clear A
 rintro ⟨⟨i,ta,tc,sa,sc⟩,G⟩ J23 J
 try dsimp only at G
 try dsimp only
 refine aq fun _ P=>WS fun _ R=>rP 5 [] (mc 1 U mn) ?_
 refine RK R<|bR U (aU fun k=>?_) (aT fun k=>?_)
 ·refine bQ<|ag<|ag<|aI<|KK N<|WS fun _ V=>?_
  rw [show e8 l r i=(e8 l r r.aa.length) from by rw [show i=r.aa.length by omega]]
  rw [show fI l r i=(fI l r r.aa.length) from by rw [show i=r.aa.length by omega]]
  refine rP 1 [] (mc 11 U mn) ?_
  refine eN U Re U<|RK V<|ar<|LX hQ (a,c,ta,tc,sa,sc) [8,10,9] [0] (mc 0 U mn) U U U U ?_
  trivial
 refine WK P<|aq fun _ S=>aH<|aq fun _ T=>dH cg [10,11] [] [] [0,1,2,3,4,5,6,7,8,9,10,11] [] U U U U U<|eS U (LW 2 U bU U U)<|eS U (FA 2 U eU U)<|eS U (L1 (vS sgA r.aa.length sgC) 1 U bU U U)<|eS U (MV U) ?_
 obtain ⟨s,hs⟩:=aC r.aa i I
 have v:=bO aF.cells hs
 refine eS U (IA i U (ay 7 U) wD dc I I)<|eS U (jD i 0 (aF.cells s) U bU (ay 7 U) v U dc U U) ?_
 have u:=(hr.sig i s hs).1
 refine eS U (CL (NH l kA kC az cA cC bA bC s hin asm (by exact u)) (bo [3,4,5,6]) U)<|eS U (MV U)<|eS U (EX U)<|eS U (EX U)<|eS U (AG U)<|eo U<|cp U fun T29 Z=>AL U dU fun AC=>aK (Z _ _ (aR [1,2,3,4,5,6,7,8,9,10,11,12]) ?_)
 refine cp U fun T31 d=>eN U cT U<|aK (d _ _ (aR [1,2,3,4,5,6,7,8,9,10,11,12]) ?_)
 refine fK U<|KK T<|WS fun _ AA=>rP 3 [0,1] (mc 12 U (mc 0 U mn)) ?_
 refine ew (xs:=[.tmp 44]) (cs:=(ai.cells (cV l s))) U kX dU U U U U (by simp [Value.cells,ai.bk]) U U fun AK=>?_
 refine ed (es2:=(List.map ai.cells (e8 l r (i+1)))) (m':=(e8 l r (i+1)).length) 12 U U U EP U U sm (bx (es:=List.map ai.cells [(cV l s)]) 0 U U (by simp [ai.bk]) U) (kY _) (by rw [r9 I]; omega) (by rw [r9 I]; simp only [maxLen]; omega) (by rw [DR hs]; simp) sm U fun B C=>?_
 try dsimp only
 refine bI 1 U<|g5 (vs:=[(vS B ((e8 l r (i+1)).length) C)]) (cs':=(iS.cells (iS.mk (bE.mk a ((cu l l.ab.length).length) c) (bE.mk B ((e8 l r (i+1)).length) C) (bE.mk sa ((fI l r i).length) sc)))) (C':=[_,_,_,_,_,_,_,_,_,_,_,_,_,(cz h 287 (iS.cells (iS.mk (bE.mk a ((cu l l.ab.length).length) c) (bE.mk B ((e8 l r (i+1)).length) C) (bE.mk sa ((fI l r i).length) sc))))]) 13 U U U Rp U U U U U U U<|RK AA<|aw<|rP 3 [] (mc 13 U mn) ?_
 refine ew (xs:=[.tmp 50]) (cs:=[(vB (decide ((cV l s).Lo≤(cV l s).Hi)))]) U OV VQ U U U U (by simp [Value.cells]) U U fun AO=>?_
 refine ed (es2:=(List.map qC (fI l r (i+1)))) (m':=(fI l r (i+1)).length) 12 U U U SQ U U sm (bx (es:=List.map qC [(decide ((cV l s).Lo≤(cV l s).Hi))]) 0 U U (by simp [AD]) U) (Hq _) (by rw [vW I]; omega) (by rw [vW I]; simp only [maxLen]; omega) (by rw [Ea hs]; simp) sm U fun D E=>?_
 try dsimp only
 refine bI 1 U<|g5 (vs:=[(vS D ((fI l r (i+1)).length) E)]) (cs':=(iS.cells (iS.mk (bE.mk a ((cu l l.ab.length).length) c) (bE.mk B ((e8 l r (i+1)).length) C) (bE.mk D ((fI l r (i+1)).length) E)))) (C':=[_,_,_,_,_,_,_,_,_,_,_,_,_,_,(cz h 287 (iS.cells (iS.mk (bE.mk a ((cu l l.ab.length).length) c) (bE.mk B ((e8 l r (i+1)).length) C) (bE.mk D ((fI l r (i+1)).length) E))))]) 14 U U U RF U U U U U U U<|aK<|aP<|KK S<|aw<|bI 2 U<|rP 1 [] mn ?_
 refine aK ?_
 have f:(vI (((i+1):Nat):Int))=(vI ((i:Int)+1)):=by exact cI I
 refine bu (J ⟨((i+1),B,C,D,E),(by first|omega|(simp only []; omega))⟩ _ _ _ U os (cP 4<|bw U f<|dp.nil _) (aR [3,4,5,6,7,8,9,10,11,12,13,14]))
theorem KP (r:c_) (sgA:OA) (sgC:Nat) (l:bH) (wA:OA) (wC:Nat) (tA:OA) (tC:Nat) (bA:OA) (bC:Nat) (rs:List Int) (rsA:OA) (rsC:Nat) (hle:eT l=0) (hr:fQ l r) (hn:rs.length≤l.ab.length) (hrs: ∀ x∈rs,0≤x→x<(r.aa.length:Int)):
 nG Tryz.prog 211 [(vA (cL.cells (iN r sgA sgC))),(vA (iS.cells (iS.mk (bE.mk wA ((cu l l.ab.length).length) wC) (bE.mk tA ((e8 l r r.aa.length).length) tC) (bE.mk bA ((fI l r r.aa.length).length) bC)))),(vS rsA rs.length rsC)] [(rd sgA r.aa.length 2 (r.aa.map aF.cells)),(rd wA ((cu l l.ab.length).length) 1 ((cu l l.ab.length).map iC)),(rd tA ((e8 l r r.aa.length).length) 2 ((e8 l r r.aa.length).map ai.cells)),(rd bA ((fI l r r.aa.length).length) 1 ((fI l r r.aa.length).map qC)),(rd rsA rs.length 1 (rs.map iC))] (fun (x:(OA)×Nat)=>(vS x.1 ((jC l r rs).length) x.2)) (fun (x:(OA)×Nat)=>True) (fun (x:(OA)×Nat)=>[(own x.1 x.2 3 1 ((jC l r rs).map iC))]):=by
 obtain ⟨J,D⟩:=eh hle
 have v:=D.head
 unfold eZ at v
 have A3:=hr.len
 have A4:=hr.time
 have w:=FR (l:=l) (rs:=rs) ⟨I,I⟩ (fun b hb=>by have:=nB J D (i:=b) I; omega) hrs
 have A1:=dv (l:=l) (n:=l.ab.length)
 have A5:=r9 (l:=l) (Nat.le_refl r.aa.length)
 refine eO kr Tryz.func211 U U fun w0 Q hQ hN=>?_
 try dsimp only
 refine WS fun _ h=>eJ U fun b2=>eJ U fun b3=>bI 1 U<|RK h<|WS fun _ m=>rP 2 [] mn ?_
 refine wa (n:=rs.length) (es:=(List.map iC (List.replicate rs.length 0))) U U U te I I (by simp only [maxLen]; omega) (by rw [List.map_replicate]; rfl) U fun E=>?_
 try dsimp only
 refine bI 1 U<|RK m<|WS fun _ p=>eV 3 [] (mc 2 U mn) U<|RK p<|aq fun _ q=>WS fun _ t=>rP 4 [] mn ?_
 refine RK t<|aH ?_
 rw [show (own (some ⟨E,0,none⟩) rs.length 3 1 (List.map iC (List.replicate rs.length 0)))=(own (some ⟨E,0,none⟩) rs.length 3 1 ((j2 l r rs rs.length).map iC)) from by rw [Hg]]
 have B:(rs.length≤rs.length):=by exact Nat.le_refl _
 have u:(vI ((j3 l r rs rs.length).2))=(vI r.gj):=by rw [vh]
 refine bS (ι:={z:Nat // (z≤rs.length)}) [2,3,4,7] [1,2,3,4,5,6,7] U U (fun z=>[(8,(vI ((j3 l r rs z.1).2))),(9,(vI ((z.1:Int)-1)))]) (fun z=>[(own (some ⟨E,0,none⟩) rs.length 3 1 ((j2 l r rs z.1).map iC))]) (fun _=>rfl) (fun _=>rfl) (fun z=>z.1) ⟨rs.length,B⟩ (bw U u<|bD U) (aR [1,2,3,4,5,6,7,0]) ?_
 clear B
 rintro ⟨j,AC⟩ J10 F
 try dsimp only
 have A2:=Ha (l:=l) (r:=r) (rs:=rs) (j:=j) I
 refine aq fun _ L=>WS fun _ M=>rP 2 [] mn ?_
 refine RK M<|bR U (aU fun g=>?_) (aT fun g=>?_)
 ·refine bQ<|ag<|ag<|aI<|KK q<|WS fun _ R=>rP 1 [] mn ?_
  rw [show (Value.slice (some ⟨E,0,none⟩) rs.length rs.length)=(Value.slice (some ⟨E,0,none⟩) ((jC l r rs).length) rs.length) from by rw [show (jC l r rs).length=rs.length from sM _ _]]
  rw [show j2 l r rs j=jC l r rs from by rw [show j=0 by omega]; exact DO]
  refine rP 1 [] mn ?_
  refine RK R<|ar<|LX hQ ((some ⟨E,0,none⟩),rs.length) [7] [] mn U U U U ?_
  trivial
 refine WK L<|aq fun _ G=>aH<|aq fun _ H=>WS fun _ N=>rP 2 [] mn ?_
 have A0:=w (rs.length-j) j I
 obtain ⟨x,hx⟩:=aC rs (j-1) I
 have d:=bO iC hx
 refine rS (IA (j-1) U (ay 6 U) dy dc I I)<|rS (gD (j-1) 0 (vI x) U bU (ay 6 U) d U dc U)<|rP 1 [] mn ?_
 refine RK N<|bR U (aU fun A=>?_) (aT fun A=>?_)
 ·refine WK H<|WS fun _ P=>rP 3 [] mn ?_
  obtain ⟨A8,c⟩:=aC (j2 l r rs j) (j-1) I
  have hx25m:=bO iC c
  refine rS (IA (j-1) U (aB (n:=rs.length) 7 U sq) dy dc I I) ?_
  have V:((j2 l r rs j).set (j-1) ((j3 l r rs j).2))=(j2 l r rs (j-1)):=by (rw [← zb I hx]; congr 1; unfold uR; (rw [if_neg A]; done))
  refine gu (k:=(j-1)) (o:=0) (vs:=[(vI ((j3 l r rs j).2))]) (es':=(List.map iC (j2 l r rs (j-1)))) (C':=[_,_,_,_,_,_,_,(own (some ⟨E,0,none⟩) rs.length 3 1 (List.map iC (j2 l r rs (j-1))))]) 7 U U U FT U U U U hx25m U dc (by exact (List.map_set (f:=iC) (l:=(j2 l r rs j)) (i:=(j-1)) (a:=(j3 l r rs j).2)).symm.trans (congrArg _ V)) U<|RK P<|aw<|rP 4 [] (mc 0 U mn) ?_
  obtain ⟨y,hy⟩:=aC (cu l l.ab.length) (j-1) I
  have K:=bO iC hy
  refine rS (IA (j-1) U (ay 3 U) dy dc I I)<|rS (gD (j-1) 0 (vI y) U bU (ay 3 U) K U dc U) ?_
  have C:=vH hy
  have AB:=nB J D (i:=j-1) I
  rw [← C] at AB
  refine bI 2 U<|aK<|aP<|KK G<|aw<|rP 3 [] mn ?_
  refine aK ?_
  have W:(vI ((j3 l r rs (j-1)).2))=(vI (((j3 l r rs j).2)-y)):=by exact cI (by rw [qk I hx]; simp only; unfold uR; rw [C]; (rw [if_neg A]; done))
  have X:(vI ((((j-1):Nat):Int)-1))=(vI (((j:Int)-1)-1)):=by exact cI I
  refine bu (F ⟨(j-1),(by first|omega|(simp only []; omega))⟩ _ _ _ U os (cP 4<|bw U W<|bw U X<|dp.nil _) (aR [0,1,2,3,4,5,6,7]))
 refine cW cg 12 kr<|dP 5 [] (mc 0 U mn) ?_
 refine dS (IA (j-1) U (ay 6 U) dy dc I I)<|dS (gD (j-1) 0 (vI x) U bU (ay 6 U) d U dc U) ?_
 have A6:=hrs x (aM hx) A
 obtain ⟨z,hz⟩:=aC (e8 l r r.aa.length) ((x).toNat) I
 have AO:=bO ai.cells hz
 refine dS (IA ((x).toNat) U (ay 4 U) kX dc I I)<|dS (pO ((((x).toNat)*2)+1) U (ay 4 U) (Nat.mul_pos I dc) eU U) ?_
 obtain ⟨s,hs,e⟩:=Kj hz
 have AK:=xK l s
 rw [← e] at AK
 have Y:L5 l r x=z.Hi:=by rw [Eu hs,e]
 refine dS (gD ((x).toNat) 1 (vI z.Hi) U bU (ay 4 U) AO U dc U)<|dS (MN U)<|kR 1 U<|cx<|RK H<|WS fun _ O=>rP 3 [] mn ?_
 obtain ⟨A7,Z⟩:=aC (j2 l r rs j) (j-1) I
 have hx19m:=bO iC Z
 refine rS (IA (j-1) U (aB (n:=rs.length) 7 U sq) dy dc I I) ?_
 have S:((j2 l r rs j).set (j-1) (min ((j3 l r rs j).2) z.Hi))=(j2 l r rs (j-1)):=by (rw [← zb I hx]; congr 1; unfold uR; (rw [if_pos A,Y]; done))
 refine gu (k:=(j-1)) (o:=0) (vs:=[(vI (min ((j3 l r rs j).2) z.Hi))]) (es':=(List.map iC (j2 l r rs (j-1)))) (C':=[_,_,_,_,_,_,_,(own (some ⟨E,0,none⟩) rs.length 3 1 (List.map iC (j2 l r rs (j-1))))]) 7 U U U FT U U U U hx19m U dc (by exact (List.map_set (f:=iC) (l:=(j2 l r rs j)) (i:=(j-1)) (a:=(min ((j3 l r rs j).2) z.Hi))).symm.trans (congrArg _ S)) U<|RK O<|aw<|rP 4 [] (mc 0 U mn) ?_
 obtain ⟨y,hy⟩:=aC (cu l l.ab.length) (j-1) I
 have K:=bO iC hy
 refine rS (IA (j-1) U (ay 3 U) dy dc I I)<|rS (gD (j-1) 0 (vI y) U bU (ay 3 U) K U dc U) ?_
 have C:=vH hy
 have AB:=nB J D (i:=j-1) I
 rw [← C] at AB
 refine bI 2 U<|aK<|aP<|KK G<|aw<|rP 3 [] mn ?_
 refine aK ?_
 have T:(vI ((j3 l r rs (j-1)).2))=(vI ((min ((j3 l r rs j).2) z.Hi)-y)):=by exact cI (by rw [qk I hx]; simp only; unfold uR; rw [C]; (rw [if_pos A,Y]; done))
 have AA:(vI ((((j-1):Nat):Int)-1))=(vI (((j:Int)-1)-1)):=by exact cI I
 refine bu (F ⟨(j-1),(by first|omega|(simp only []; omega))⟩ _ _ _ U os (cP 4<|bw U T<|bw U AA<|dp.nil _) (aR [0,1,2,3,4,5,6,7]))
end
section
open Go.RowKit
theorem Gt (l:bH) (kA:OA) (kC:Nat) (az:List RA) (cA:OA) (cC:Nat) (bA:OA) (bC:Nat) (r:c_) (sgA:OA) (sgC:Nat) (vwA:OA) (vwC:Nat) (vtA:OA) (vtC:Nat) (vbA:OA) (vbC k:Nat) (rs:List Int) (rA:OA) (rC:Nat) (fs:List Int) (fA:OA) (fC:Nat) (hin:ej l az) (hle:eT l=0) (hr:fQ l r) (hk:rs.length+k=l.ab.length) (hfl:fs.length=rs.length) (hst:r.Start≤gG r.Start fs∧gG r.Start fs≤r.gj) (hrs: ∀ x∈rs,-1≤x∧x<(r.aa.length:Int)) (hrec: ∀ (k2:Nat) (rs2:List Int) (rA2:OA) (rC2:Nat) (fs2:List Int) (fA2:OA) (fC2:Nat),(k2<k)→(rs2.length+k2=l.ab.length)→(fs2.length=rs2.length)→(r.Start≤gG r.Start fs2∧gG r.Start fs2≤r.gj)→(∀ x∈rs2,-1≤x∧x<(r.aa.length:Int))→LU Tryz.prog 191 [(vA (cm.cells (jR l kA kC cA cC bA bC))),(vA (cL.cells (iN r sgA sgC))),(vA (iS.cells (iS.mk (bE.mk vwA ((cu l l.ab.length).length) vwC) (bE.mk vtA ((e8 l r r.aa.length).length) vtC) (bE.mk vbA ((fI l r r.aa.length).length) vbC)))),(vS rA2 rs2.length rC2),(vS fA2 fs2.length fC2)] [(rd kA l.aO.length 9 (l.aO.map au.cells)),(rd cA l.aj.length 2 (List.zipWith ax.cells l.aj az)),(dE (bg ax.e_ l.aj az)),(rd bA l.ab.length 4 (l.ab.map bK.cells)),(rd sgA r.aa.length 2 (r.aa.map aF.cells)),(rd vwA ((cu l l.ab.length).length) 1 ((cu l l.ab.length).map iC)),(rd vtA ((e8 l r r.aa.length).length) 2 ((e8 l r r.aa.length).map ai.cells)),(rd vbA ((fI l r r.aa.length).length) 1 ((fI l r r.aa.length).map qC))] (bM [own rA2 rC2 3 1 (rs2.map iC),own fA2 fC2 3 1 (fs2.map iC)]) (fun (x:(OA)×Nat×(List kU))=>(vS x.1 ((iE l r k2 rs2 fs2).length) x.2.1)) (fun (x:(OA)×Nat×(List kU))=>x.2.2.length=(iE l r k2 rs2 fs2).length) (fun (x:(OA)×Nat×(List kU))=>(bM (bg dA.owns (iE l r k2 rs2 fs2) x.2.2++[own x.1 x.2.1 240 3 (List.zipWith dA.cells (iE l r k2 rs2 fs2) x.2.2)])))):
 LU Tryz.prog 191 [(vA (cm.cells (jR l kA kC cA cC bA bC))),(vA (cL.cells (iN r sgA sgC))),(vA (iS.cells (iS.mk (bE.mk vwA ((cu l l.ab.length).length) vwC) (bE.mk vtA ((e8 l r r.aa.length).length) vtC) (bE.mk vbA ((fI l r r.aa.length).length) vbC)))),(vS rA rs.length rC),(vS fA fs.length fC)] [(rd kA l.aO.length 9 (l.aO.map au.cells)),(rd cA l.aj.length 2 (List.zipWith ax.cells l.aj az)),(dE (bg ax.e_ l.aj az)),(rd bA l.ab.length 4 (l.ab.map bK.cells)),(rd sgA r.aa.length 2 (r.aa.map aF.cells)),(rd vwA ((cu l l.ab.length).length) 1 ((cu l l.ab.length).map iC)),(rd vtA ((e8 l r r.aa.length).length) 2 ((e8 l r r.aa.length).map ai.cells)),(rd vbA ((fI l r r.aa.length).length) 1 ((fI l r r.aa.length).map qC))] (bM [own rA rC 3 1 (rs.map iC),own fA fC 3 1 (fs.map iC)]) (fun (x:(OA)×Nat×(List kU))=>(vS x.1 ((iE l r k rs fs).length) x.2.1)) (fun (x:(OA)×Nat×(List kU))=>x.2.2.length=(iE l r k rs fs).length) (fun (x:(OA)×Nat×(List kU))=>(bM (bg dA.owns (iE l r k rs fs) x.2.2++[own x.1 x.2.1 240 3 (List.zipWith dA.cells (iE l r k rs fs) x.2.2)]))):=by
 have S2:=hin.rW
 have R4:=hin.sG
 have R2:=hin.ly
 have R3:=hin.se
 obtain ⟨NE,H1⟩:=eh hle
 have L0:=H1.head
 unfold eZ at L0
 have A0:=hr.len
 have R9:=hr.time
 have R8:=dv (l:=l) (n:=l.ab.length)
 have To:=r9 (l:=l) (Nat.le_refl r.aa.length)
 have S1:=vW (l:=l) (Nat.le_refl r.aa.length)
 have T0:=u0 rs
 refine vv kr Tryz.func191 U U fun w0 Q hQ hN=>?_
 try dsimp only
 refine BF 0 U U fun wz Sz hz=>?_
 try dsimp only
 refine WS fun _ K8=>eJ U fun b2=>eJ U fun b3=>eJ U fun b4=>bI 1 U<|RK K8<|WS fun _ LD=>bI 1 U<|RK LD<|WS fun _ LE=>bI 4 U<|RK LE<|aq fun _ LT=>WS fun _ La=>rP 1 [] mn ?_
 refine RK La<|aH ?_
 have C:(0≤rs.length):=by exact Nat.zero_le _
 have Li:(vI ((dJ (rs.take 0)).right))=(vI 0):=by rfl
 refine bS (ι:={z:Nat // (z≤rs.length)}) [3,4,5,6,7,11,12] [0,1,2,3,4,5,6,7,8,9,10,11] U U (fun z=>[(13,(vI ((dJ (rs.take z.1)).right))),(14,(vI (z.1:Int)))]) (fun z=>[]) (fun _=>rfl) (fun _=>rfl) (fun z=>rs.length-z.1) ⟨0,C⟩ (bw U Li<|bD U) (aR [0,1,2,3,4,5,6,7,8,9,10,11]) ?_
 clear C
 rintro ⟨i,L3⟩ J10 g
 try dsimp only
 have MQ:=u0 (rs.take i)
 rw [List.length_take] at MQ
 refine aq fun _ A3=>WS fun _ A4=>rP 3 [] mn ?_
 refine RK A4<|ck U (aT fun J9=>?_) (aU fun J9=>?_)
 ·refine WK A3<|aq fun _ h=>aH<|WS fun _ A5=>rP 2 [] mn ?_
  obtain ⟨x,hx⟩:=aC rs i I
  have Ne:=bO iC hx
  refine rS (IA i U (show fY _ (rd rA rs.length 1 (rs.map iC)).holds from (pY (c:=rC) (e:=3) 3 U sm sm)) dy dc I I)<|rS (gD i 0 (vI x) U bU (show fY _ (rd rA rs.length 1 (rs.map iC)).holds from (pY (c:=rC) (e:=3) 3 U sm sm)) Ne U dc U)<|rP 1 [] mn ?_
  refine RK A5<|bR U (aU fun AK=>?_) (aT fun AK=>?_)
  ·refine cj<|aP<|KK h<|aw<|rP 3 [] mn ?_
   refine aK ?_
   have Dj:(vI ((dJ (rs.take (i+1))).right))=(vI ((dJ (rs.take i)).right)):=by exact cI (by rw [uw hx]; (rw [if_neg AK]; exact Int.add_zero _))
   have Do:(vI (((i+1):Nat):Int))=(vI ((i:Int)+1)):=by exact cI I
   refine bu (g ⟨(i+1),(by first|omega|(simp only []; omega))⟩ _ _ _ U os (cP 7<|bw U Dj<|bw U Do<|dp.nil _) (aR [0,1,2,3,4,5,6,7,8,9,10,11]))
  refine aw<|bI 3 U<|aK<|aP<|KK h<|aw<|rP 3 [] mn ?_
  refine aK ?_
  have C3:(vI ((dJ (rs.take (i+1))).right))=(vI (((dJ (rs.take i)).right)+1)):=by exact cI (by rw [uw hx]; (rw [if_pos AK]; done))
  have Di:(vI (((i+1):Nat):Int))=(vI ((i:Int)+1)):=by exact cI I
  refine bu (g ⟨(i+1),(by first|omega|(simp only []; omega))⟩ _ _ _ U os (cP 7<|bw U C3<|bw U Di<|dp.nil _) (aR [0,1,2,3,4,5,6,7,8,9,10,11]))
 refine bQ<|ag<|ag<|aI<|KK LT<|aq fun _ A6=>aq fun _ A7=>?_
 rw [show rs.take i=rs from List.take_of_length_le I]
 refine aw<|rP 6 [] (mc 2 U mn) ?_
 refine RK A7<|ck U (aT fun Kw=>?_) (aU fun Kw=>?_)
 ·refine WS fun _ A8=>gT 240 3<|rP 1 [] mn ?_
  refine RK A8<|ar<|z8 (C1:=[(own none 0 240 3 [])]) hz [0] U U U<|Pz (W:=iE l r k rs fs) ?_
  rw [show (own none 0 240 3 [])=(own none 0 240 3 (List.zipWith dA.cells (iE l r k rs fs) [])) from by rw [nT I]; rfl]
  refine LM hQ (none,0,[]) 0 [] mn U (by show List.all _ _=true; rw [List.all_append,qp]; rfl) U ?_ ?_
  ·exact (by rw [nT I]; rfl)
  ·rw [nT I]; rfl
 refine WK A6 ?_
 refine nq (ι:={z:(OA)×Nat×(List kU)×(List aA) // (xL l r rs fs (rA,rC) (fA,fC) z.2.2.1 z.2.2.2)}) [3,4,5,6,7,12] [0,1,2,3,4,5,6,7,8,9,10,11] U U (fun z=>[(11,(vS z.1.1 ((ia l r rs fs).length) z.1.2.1))]) (fun z=>[(own z.1.1 z.1.2.1 240 3 (List.zipWith dA.cells (ia l r rs fs) z.1.2.2.1)),(bM z.1.2.2.2)]) (fun _=>rfl) (fun _=>rfl) ?_ fun K23 m=>?_
 ·rintro ⟨⟨oA,oC,E,LA⟩,H⟩
  try dsimp only at H
  try dsimp only
  have D:=H
  have L2:=D.len
  have R5:=x7 (l:=l) (r:=r) (rs:=rs) (fs:=fs)
  refine aq fun _ V=>WS fun _ A9=>rP 4 [] (mc 2 U mn) ?_
  have T4:=vV (l:=l) (r:=r) (rs:=rs) (fs:=fs) A0 (k:=k) I
  refine rP 1 [] mn ?_
  refine RK A9<|ck U (aT fun K0=>?_) (aU fun K0=>?_)
  ·refine WS fun _ B3=>bI 1 U<|rP 1 [] mn ?_
   refine RK B3<|ar ?_
   obtain rfl:k=0:=by omega
   refine Ey ?_
   try dsimp only
   refine z8 (C1:=[(own oA oC 240 3 (List.zipWith dA.cells (ia l r rs fs) E)),(bM LA),(bM (bg dA.owns [] []))]) hz [13,14,0] U U (by simp only [il,List.all_nil,Bool.and_true,di]; exact ⟨U,D.wr,qp _ _⟩) ?_
   refine K1 (ra:=(rA,rC)) (fa:=(fA,fC)) (A':=(own oA oC 240 3 (List.zipWith dA.cells (iE l r 0 rs fs) E))) D ((List.append_nil _).trans (oa I).symm) (List.append_nil _) (by rw [oa I]) ?_
   refine LM hQ (oA,oC,E) 0 [] mn U (by show List.all _ _=true; rw [List.all_append,qp]; rfl) U ?_ ?_
   ·exact (by (rw [oa I]; rfl))
   ·rw [oa I]; exact L2
  refine WK V<|WS fun _ B9=>?_
  obtain ⟨B,rfl⟩: ∃ B,k=B+1:=⟨k-1,I⟩
  refine rP 3 [] (mc 1 U mn) ?_
  refine RK B9 ?_
  refine nq (ι:=Unit) [3,4,5,6,7,11,12] [0,1,2,3,4,5,6,7,8,9,10,11,12,13] U U (fun z=>[(15,(vI (gG r.Start fs)))]) (fun z=>[]) (fun _=>rfl) (fun _=>rfl) ?_ fun K28 o=>?_
  ·intro _
   try dsimp only
   refine WS fun _ Z=>rP 4 [] (mc 0 U mn) ?_
   obtain ⟨yls,Id⟩:=aC (cu l l.ab.length) (rs.length) I
   have If:=bO iC Id
   refine rS (IA rs.length U (ay 9 U) dy dc I I)<|rS (gD rs.length 0 (vI yls) U bU (ay 9 U) If U dc U) ?_
   have R7:=nB NE H1 (i:=rs.length) I
   rw [vH Id]
   refine bI 2 U<|RK Z<|aq fun _ CC=>WS fun _ Ci=>rP 1 [] mn ?_
   refine RK Ci<|aH ?_
   rw [show (ia l r rs fs)=((ia l r rs fs)++(iG l r B rs fs 0)) from (List.append_nil _).symm]
   rw [show E=E++[] from (List.append_nil _).symm]
   refine nN ?_
   try dsimp only
   have C:(0≤r.aa.length+1)∧(([]:List kU).length=(iG l r B rs fs 0).length):=by exact ⟨Nat.zero_le _,rfl⟩
   have d:(vI ((0:Int)-1))=(vI (-1)):=by exact cI I
   refine bS (ι:={z:Nat×(OA)×Nat×(List kU) // (z.1≤r.aa.length+1)∧(z.2.2.2.length=(iG l r B rs fs z.1).length)}) [3,4,5,6,7,12,15] [1,2,3,4,5,6,7,8,9,10,11,12,14] U U (fun z=>[(11,(vS z.1.2.1 (((ia l r rs fs)++(iG l r B rs fs z.1.1)).length) z.1.2.2.1)),(16,(vI ((z.1.1:Int)-1)))]) (fun z=>[(bM (bg dA.owns (iG l r B rs fs z.1.1) z.1.2.2.2)),(own z.1.2.1 z.1.2.2.1 240 3 (List.zipWith dA.cells ((ia l r rs fs)++(iG l r B rs fs z.1.1)) (E++z.1.2.2.2)))]) (fun _=>rfl) (fun _=>rfl) (fun z=>r.aa.length+1-z.1.1) ⟨(0,oA,oC,([]:List kU)),C⟩ (dp.cons U<|bw U d<|dp.nil _) (aR [1,2,3,4,5,6,7,8,9,10,11,12,14,0,13]) ?_
   clear C
   rintro ⟨⟨j,M,N,azW⟩,⟨f,A⟩⟩ J33 O
   try dsimp only at f A
   try dsimp only
   have M2:=Jh (l:=l) (r:=r) (k:=B) (j:=j) (rs:=rs) (fs:=fs) A0 I I
   refine aq fun _ Ck=>WS fun _ Cp=>rP 5 [] (mc 1 U mn) ?_
   refine RK Cp<|bR U (aU fun Kl=>?_) (aT fun Kl=>?_)
   ·refine bQ<|ag<|ag<|aI<|KK CC<|WS fun _ C2=>bI 1 U<|rP 1 [] mn ?_
    refine RK C2<|ar ?_
    refine z8 (C1:=[(own M N 240 3 (List.zipWith dA.cells ((ia l r rs fs)++(iG l r B rs fs j)) (E++azW))),(bM LA),(bM (bg dA.owns (iG l r B rs fs j) azW))]) hz [14,12,13] U U (by simp only [il,List.all_nil,Bool.and_true,di]; exact ⟨U,D.wr,qp _ _⟩) ?_
    refine K1 (ra:=(rA,rC)) (fa:=(fA,fC)) (W:=iE l r (B+1) rs fs) (A':=(own M N 240 3 (List.zipWith dA.cells (iE l r (B+1) rs fs) (E++azW)))) D (by rw [nI I,sD,show r.aa.length+1=j by omega]) U (by rw [nI I,sD,show r.aa.length+1=j by omega]) ?_
    refine LM hQ (M,N,(E++azW)) 0 [] mn U (by show List.all _ _=true; rw [List.all_append,qp]; rfl) U ?_ ?_
    ·exact (by (rw [nI I,sD,show r.aa.length+1=j by omega]; rfl))
    ·rw [nI I,sD,show r.aa.length+1=j by omega]; simp only [List.length_append]; omega
   refine WK Ck<|aq fun _ P=>aH<|aq fun _ Cx=>cW cg 5 kr<|dP 5 [] (mc 1 U mn) ?_
   refine cx<|RK Cx ?_
   refine nq (ι:={z:Int×Int // ((z.1≤z.2→py l r rs.length (gG r.Start fs+eE l rs.length) ((j:Int)-1)=some z.1)∧(¬ z.1≤z.2→py l r rs.length (gG r.Start fs+eE l rs.length) ((j:Int)-1)=none))∧(r.Start≤z.1∧z.2≤r.gj)}) [3,4,5,6,7,11,12,15,16] [0,1,2,3,4,5,6,7,8,9,10,11,12,13,14] U U (fun z=>[(17,(vI z.1.1)),(18,(vI z.1.2))]) (fun z=>[]) (fun _=>rfl) (fun _=>rfl) ?_ fun K39 p=>?_
   ·rintro ⟨⟨tt,ee⟩,⟨AB,J⟩⟩
    try dsimp only at AB J
    try dsimp only
    have Go:=AB
    have R6:=J
    refine WS fun _ a=>rP 3 [] mn ?_
    refine RK a<|bR U (aU fun AA=>?_) (aT fun AA=>?_)
    ·refine cj<|aP<|KK P<|aw<|rP 3 [] mn ?_
     refine aK ?_
     have L:(iG l r B rs fs (j+1))=(iG l r B rs fs j):=by exact q7 (Go.2 AA)
     rw [← L]
     have GE:(vI ((((j+1):Nat):Int)-1))=(vI (((j:Int)-1)+1)):=by exact cI I
     refine bu (O ⟨((j+1),M,N,azW),⟨I,by dsimp only; (rw [L]; exact A)⟩⟩ _ _ _ U os (cP 8<|bw U GE<|dp.nil _) (aR [0,1,2,3,4,5,6,7,8,9,10,11,12,13,14]))
    refine OO (L':=[(3,(vS rA rs.length rC)),(4,(vS fA fs.length fC)),(5,(vP b2)),(6,(vP b3)),(7,(vP b4)),(11,(vS M (((ia l r rs fs)++(iG l r B rs fs j)).length) N)),(12,(vI (rs.length:Int))),(15,(vI ((gG r.Start fs)+(eE l rs.length)))),(16,(vI ((j:Int)-1))),(17,(vI tt)),(18,(vI ee)),(123,(vI tt)),(124,(vI ee)),(125,(vB (decide (tt≤ee))))]) rfl<|k6 cg [0,1,2,3,5,7,11,13] [4,6,8,9,10,12,14,15,16,17,18] [false,false,false,false,false,false,false,false] [] [(cz b4 287 (iS.cells (iS.mk (bE.mk vwA ((cu l l.ab.length).length) vwC) (bE.mk vtA ((e8 l r r.aa.length).length) vtC) (bE.mk vbA ((fI l r r.aa.length).length) vbC)))),(cz b3 41 (cL.cells (iN r sgA sgC))),(cz b2 28 (cm.cells (jR l kA kC cA cC bA bC))),(bM [own rA rC 3 1 (rs.map iC),own fA fC 3 1 (fs.map iC)]).ro,(rd kA l.aO.length 9 (l.aO.map au.cells)).ro,(rd cA l.aj.length 2 (List.zipWith ax.cells l.aj az)).ro,(dE (bg ax.e_ l.aj az)).ro,(rd bA l.ab.length 4 (l.ab.map bK.cells)).ro,(rd sgA r.aa.length 2 (r.aa.map aF.cells)).ro,(rd vwA ((cu l l.ab.length).length) 1 ((cu l l.ab.length).map iC)).ro,(rd vtA ((e8 l r r.aa.length).length) 2 ((e8 l r r.aa.length).map ai.cells)).ro,(rd vbA ((fI l r r.aa.length).length) 1 ((fI l r r.aa.length).map qC)).ro,(bM LA),(bM (bg dA.owns (iG l r B rs fs j) azW))] [] kr (aR [0,1,2,3,4,5,6,7,8,9,10,11,12,13]) (aR [])<|eS rfl (MV rfl)<|eS rfl (LW 2 rfl bU rfl rfl)<|eS rfl (LW 1 rfl bU rfl rfl)<|eS rfl (LW 0 rfl bU rfl rfl)<|eS rfl (MV rfl)<|eS rfl (MV rfl)<|eS rfl (MV rfl)<|eS rfl (MV rfl)<|eo rfl<|E8 [.take 4,.op 6,.take 8,.op 9,.take 10,.op 12,.take 14,.op 15,.op 16,.op 17,.op 18] [(133,(vI ((j:Int)-1))),(139,(vI tt))] (fun i=>match i with |4=>130|8=>134|10=>136|14=>140|_=>0) (fun i b=>match i with |4=> .slice (some ⟨b,0,none⟩) 0 0|8=> .slice (some ⟨b,0,none⟩) 1 1|10=> .slice (some ⟨b,0,none⟩) 0 0|14=> .slice (some ⟨b,0,none⟩) 1 1|_=>undef) (fun i b=>match i with |4=>cz b 3 []|8=>cz b 3 [(vI ((j:Int)-1))]|10=>cz b 3 []|14=>cz b 3 [(vI tt)]|_=>cz b 0 []) rfl rfl rfl kr rfl rfl (aR [0,1,2,3,4,5,6,7,8,9,10,11,12,13]) (mH (IS rfl dy rfl rfl (fun _=>rfl) fun _=>rfl)<|qT<|mH (wb (xs:=[.tmp 133]) (cs:=[(vI ((j:Int)-1))]) rfl dy j7 rfl rfl rfl rfl (by simp [Value.cells]) rfl rfl rfl (fun _=>rfl) fun _=>rfl)<|qT<|mH (IS rfl dy rfl rfl (fun _=>rfl) fun _=>rfl)<|qT<|mH (wb (xs:=[.tmp 139]) (cs:=[(vI tt)]) rfl dy j7 rfl rfl rfl rfl (by simp [Value.cells]) rfl rfl rfl (fun _=>rfl) fun _=>rfl)<|qT<|qT<|qT<|qT<|Jr) ?_
    intro J4
    try dsimp only
    refine rM U fun Y X K hT=>gv (es:=(List.map iC [])) (C':=[own (some ⟨J4,0,none⟩) 0 3 1 (List.map iC []),_,_,_,_,_,_,_,_,_,_,_,_,_,_,_]++X) 0 U sm U (by simp [maxLen]) U ?_
    refine ed (es2:=(List.map iC rs)) (m':=rs.length) 0 U U U te U U sm (show fY _ (rd rA rs.length 1 (rs.map iC)).holds from (pY (c:=rC) (e:=3) 4 U sm sm)) (lU _) (by first|omega|(simp; done)|(simp; omega)) (by (simp only [maxLen]; omega)) sm sm U fun QS R0=>?_
    try dsimp only
    refine nY hT 24 16 U U (fun w hs=>St.j5 [1,2,3,4,5,6,7,8,9,10,11,12,13,14] U U hs) U U ?_
    try dsimp only [List.take]
    intro Qx
    try dsimp only
    refine rM U fun Y X K hT=>?_
    refine ed (es2:=(List.map iC (rs++[(j:Int)-1]))) (m':=(rs++[(j:Int)-1]).length) 1 U U U te U U sm (bx (es:=List.map iC [((j:Int)-1)]) 0 U U (by simp [bP]) U) (lU _) (by first|omega|(simp; done)|(simp; omega)) (by (simp only [maxLen]; omega)) sm sm U fun Je J6=>?_
    try dsimp only
    refine nY hT 26 17 U U (fun w hs=>St.j5 [2,3,4,5,6,7,8,9,10,11,12,13,14,15] U U hs) U U ?_
    try dsimp only [List.take]
    intro J5
    try dsimp only
    refine rM U fun Y X K hT=>gv (es:=(List.map iC [])) (C':=[own (some ⟨J5,0,none⟩) 0 3 1 (List.map iC []),_,_,_,_,_,_,_,_,_,_,_,_,_,_,_,_,_]++X) 0 U sm U (by simp [maxLen]) U ?_
    refine ed (es2:=(List.map iC fs)) (m':=fs.length) 0 U U U te U U sm (show fY _ (rd fA fs.length 1 (fs.map iC)).holds from (pY (c:=fC) (e:=3) 6 U sm sm)) (lU _) (by first|omega|(simp; done)|(simp; omega)) (by (simp only [maxLen]; omega)) sm sm U fun Qh R1=>?_
    try dsimp only
    refine nY hT 28 18 U U (fun w hs=>St.j5 [3,4,5,6,7,8,9,10,11,12,13,14,15,16] U U hs) U U ?_
    try dsimp only [List.take]
    intro Q0
    try dsimp only
    refine rM U fun Y X K hT=>?_
    refine ed (es2:=(List.map iC (fs++[tt]))) (m':=(fs++[tt]).length) 1 U U U te U U sm (bx (es:=List.map iC [tt]) 0 U U (by simp [bP]) U) (lU _) (by first|omega|(simp; done)|(simp; omega)) (by (simp only [maxLen]; omega)) sm sm U fun J2 J7=>?_
    try dsimp only
    refine nY hT 30 19 U U (fun w hs=>St.j5 [4,5,6,7,8,9,10,11,12,13,14,15,16,17] U U hs) U U ?_
    try dsimp only [List.take]
    refine rM U fun Y X K hT=>?_
    have R:=Go.1 AA
    refine yr<|sb 4 U ?_
    try dsimp only [List.eraseIdx]
    refine AM U<|sb 2 U ?_
    try dsimp only [List.eraseIdx]
    refine AM U ?_
    try dsimp only
    refine ow 0 rfl rfl rfl rfl (hrec B (rs++[(j:Int)-1]) Je J6 (fs++[tt]) J2 J7 I (by simp only [List.length_append,List.length_singleton]; omega) (by simp only [List.length_append,List.length_singleton]; omega) (by rw [nF]; omega) (by intro x hx; rcases gH.1 hx with hx|hx; exact hrs x hx; rw [cE.1 hx]; omega)) rfl (eC 7 rfl rfl (dI (cb _)) (eC 8 rfl rfl (dI (cb _)) (eC 9 rfl rfl (dI (cb _)) (eC 10 rfl rfl (dI (cb _)) (eC 11 rfl rfl (dI (cb _)) (eC 12 rfl rfl (dI (cb _)) (eC 13 rfl rfl (dI (cb _)) (eC 14 rfl rfl (dI (cb _)) q8)))))))) rfl (fun Os A1=>?_)
    obtain ⟨Pn,Ps,v⟩:=Os
    try dsimp only
    dsimp only at A1
    refine nY hT 31 18 U U (fun w hs=>St.j5 [3,4,5,6,7,8,9,10,11,12,13,14,15,16] U U hs) U U ?_
    try dsimp only [List.take]
    refine rM U fun Y X K hT=>sb 0 U ?_
    try dsimp only [List.eraseIdx]
    refine zy ?_
    have T5:=vV (l:=l) (r:=r) (k:=B) (rs:=(rs++[(j:Int)-1])) (fs:=(fs++[tt])) A0 I
    refine ed (es2:=(List.zipWith dA.cells ((ia l r rs fs)++(iG l r B rs fs (j+1))) (E++(azW++v)))) (m':=((ia l r rs fs)++(iG l r B rs fs (j+1))).length) 18 U U U OR U U (uD (by simp only [List.length_append]; omega)).symm (aB (n:=(iE l r B (rs++[(j:Int)-1]) (fs++[tt])).length) 0 U (uD A1)) (BB _ _) (by simp only [List.length_append]; omega) (by simp only [List.length_append,maxLen]; omega) (by rw [nD R,← List.append_assoc,← List.append_assoc]; exact (H_ (by simp only [List.length_append]; omega)).symm) (uD (by rw [nD R]; simp only [List.length_append]; omega)) U fun J3 J8=>?_
    try dsimp only
    refine nY hT 32 19 U U (fun w hs=>St.j5 [4,5,6,7,8,9,10,11,12,13,14,15,16,17] U U hs) U U ?_
    try dsimp only [List.take]
    refine rM U fun Y X K hT=>rS (AG U)<|nY hT 33 19 U U (fun w hs=>St.j5 [4,5,6,7,8,9,10,11,12,13,14,15,16,17] U U hs) U U ?_
    try dsimp only [List.take]
    refine aP<|KK P<|aw<|rP 3 [] mn ?_
    refine aK<|ES 1 U ?_
    try dsimp only [List.eraseIdx]
    refine ES 17 U ?_
    try dsimp only [List.eraseIdx]
    refine K3 A ?_
    rw [← nD R]
    try dsimp only
    have Fn:(vI ((((j+1):Nat):Int)-1))=(vI (((j:Int)-1)+1)):=by exact cI I
    refine bu (O ⟨((j+1),J3,J8,(azW++v)),⟨I,by dsimp only; (rw [nD R,List.length_append,List.length_append,A,A1])⟩⟩ _ _ _ U os (cP 8<|bw U Fn<|dp.nil _) (aR [4,5,6,7,8,9,10,11,12,13,14,15,16,0,17]))
   refine WS fun _ a=>rP 2 [] mn ?_
   refine RK a<|bR U (aU fun K5=>?_) (aT fun K5=>?_)
   ·refine cj ?_
    refine bu (jB (bD U) (aR [0,1,2,3,4,5,6,7,8,9,10,11,12,13,14]) (p ⟨(((gG r.Start fs)+(eE l rs.length)),r.gj),⟨by exact HZ I,I⟩⟩))
   refine aq fun _ C0=>WS fun _ u=>rP 3 [] (mc 1 U mn) ?_
   obtain ⟨s,hs⟩:=aC r.aa ((((j:Int)-1)).toNat) I
   have MI:=bO aF.cells hs
   refine rS (IA ((((j:Int)-1)).toNat) U (ay 8 U) wD dc I I)<|rS (pO (((((j:Int)-1)).toNat)*2) U (ay 8 U) (Nat.mul_pos I dc) eU U)<|rS (gD ((((j:Int)-1)).toNat) 0 (vI s.fH) U bU (ay 8 U) MI U dc U) ?_
   have ST:=(hr.sig _ s hs).1
   refine rP 3 [] mn ?_
   refine bT (t:=99) U (aX fun A2=>?_) (aW fun A2=>?_)
   ·refine bI 7 U<|RK u<|aN U<|bQ<|ag<|ag<|aI<|KK P<|aw<|rP 3 [] mn ?_
    refine aK ?_
    have L:(iG l r B rs fs (j+1))=(iG l r B rs fs j):=by exact q7 (x3 I hs (fun q=>A2 I))
    rw [← L]
    have FS:(vI ((((j+1):Nat):Int)-1))=(vI (((j:Int)-1)+1)):=by exact cI I
    refine bu (O ⟨((j+1),M,N,azW),⟨I,by dsimp only; (rw [L]; exact A)⟩⟩ _ _ _ U os (cP 8<|bw U FS<|dp.nil _) (aR [0,1,2,3,4,5,6,7,8,9,10,11,12,13,14]))
   refine rP 3 [] (mc 0 U mn) ?_
   obtain ⟨bs,AO⟩:=aC (fI l r r.aa.length) ((((j:Int)-1)).toNat) I
   have GT:=bO qC AO
   refine rS (IA ((((j:Int)-1)).toNat) U (ay 11 U) OV dc I I)<|rS (gD ((((j:Int)-1)).toNat) 0 (vB bs) U bU (ay 11 U) GT U dc U)<|rP 2 [] mn ?_
   refine RK u<|ck U (fun F=>?_) (fun F=>?_)
   ·rw [Bool.not_eq_true'] at F
    refine bQ<|ag<|ag<|aI<|KK P<|aw<|rP 3 [] mn ?_
    refine aK ?_
    have L:(iG l r B rs fs (j+1))=(iG l r B rs fs j):=by exact q7 (x3 I hs (fun q=>by rw [(BR hs AO).2 q.2] at F; cases F))
    rw [← L]
    have Fd:(vI ((((j+1):Nat):Int)-1))=(vI (((j:Int)-1)+1)):=by exact cI I
    refine bu (O ⟨((j+1),M,N,azW),⟨I,by dsimp only; (rw [L]; exact A)⟩⟩ _ _ _ U os (cP 8<|bw U Fd<|dp.nil _) (aR [0,1,2,3,4,5,6,7,8,9,10,11,12,13,14]))
   rw [Bool.not_eq_false'] at F
   refine WK C0<|cW cg 18 kr<|dP 4 [] (mc 0 U mn) ?_
   obtain ⟨z,hz⟩:=aC (e8 l r r.aa.length) ((((j:Int)-1)).toNat) I
   have In:=bO ai.cells hz
   refine dS (IA ((((j:Int)-1)).toNat) U (ay 10 U) kX dc I I)<|dS (pO (((((j:Int)-1)).toNat)*2) U (ay 10 U) (Nat.mul_pos I dc) eU U) ?_
   have I0:=Kb hs hz
   have Op:=xK l s
   rw [← I0] at Op
   have Lk:(cV l s).Lo≤(cV l s).Hi:=(BR hs AO).1 F
   refine dS (gD ((((j:Int)-1)).toNat) 0 (vI z.Lo) U bU (ay 10 U) In U dc U)<|dS (MX U)<|kv 4 [] (mc 0 U mn) U<|dS (IA ((((j:Int)-1)).toNat) U (ay 10 U) kX dc I I)<|dS (pO ((((((j:Int)-1)).toNat)*2)+1) U (ay 10 U) (Nat.mul_pos I dc) eU U)<|dS (gD ((((j:Int)-1)).toNat) 1 (vI z.Hi) U bU (ay 10 U) In U dc U)<|dS (MN U)<|dP 2 [] mn ?_
   refine cx<|aK ?_
   refine bu (jB (bD U) (aR [0,1,2,3,4,5,6,7,8,9,10,11,12,13,14]) (p ⟨((max ((gG r.Start fs)+(eE l rs.length)) z.Lo),(min r.gj z.Hi)),⟨by (rw [I0]; exact IB I hs I Lk),I⟩⟩))
  refine WS fun _ Z=>rP 2 [] mn ?_
  refine RK Z<|bR U (aU fun K4=>?_) (aT fun K4=>?_)
  ·refine cj ?_
   have Eq:(vI (gG r.Start fs))=(vI r.Start):=by exact cI (by have e:fs=[]:=kx I; rw [e]; rfl)
   refine bu (jB (cP 7<|bw U Eq<|dp.nil _) (aR [0,1,2,3,4,5,6,7,8,9,10,11,12,13]) (o ()))
  refine aw<|rP 3 [] mn ?_
  obtain ⟨xf,IO⟩:=aC fs (rs.length-1) I
  have IR:=bO iC IO
  refine rS (IA (rs.length-1) U (show fY _ (rd fA fs.length 1 (fs.map iC)).holds from (pY (c:=fC) (e:=3) 3 U sm sm)) dy dc I I)<|rS (gD (rs.length-1) 0 (vI xf) U bU (show fY _ (rd fA fs.length 1 (fs.map iC)).holds from (pY (c:=fC) (e:=3) 3 U sm sm)) IR U dc U)<|rP 1 [] mn ?_
  refine aK ?_
  have EQ:(vI (gG r.Start fs))=(vI xf):=by exact cI (CI _ _ _ (by rw [hfl]; exact IO))
  refine bu (jB (cP 7<|bw U EQ<|dp.nil _) (aR [0,1,2,3,4,5,6,7,8,9,10,11,12,13]) (o ()))
 refine WS fun _ V=>rP 8 [0,1] (mc 1 U (mc 2 U mn)) ?_
 refine RK V<|bR U (aU fun G=>?_) (aT fun G=>?_)
 ·refine cj<|Ey<|Gl 240 3 ?_
  rw [show (own none 0 240 3 [])=(own none 0 240 3 (List.zipWith dA.cells (ia l r rs fs) [])) from by rw [w5 G]; rfl]
  have FQ:(vS none ((ia l r rs fs).length) 0)=(vS none 0 0):=by first|rfl|(rw [w5 G]; rfl)
  refine bu (jB (cP 6<|bw U FQ<|dp.nil _) (aR [2,3,4,5,6,7,8,9,10,11,12,13,0,1]) (m ⟨(none,0,[],[]),(by exact .inr ⟨G,U,U⟩)⟩))
 refine aw<|rP 6 [0,1] (mc 1 U (mc 0 U mn)) ?_
 refine cX (KP r sgA sgC l vwA vwC vtA vtC vbA vbC rs rA rC hle hr I (by exact fun x hx h0=>(hrs x hx).2)) (ld [8,9,10,11]<|aD (show fY _ (rd rA rs.length 1 (rs.map iC)).holds from (pY (c:=rC) (e:=3) 3 U sm sm))<|aL) U fun Or Pl=>?_
 obtain ⟨S,T⟩:=Or
 try dsimp only
 refine rS (SX (bp (xs:=[(0,.tmp 48),(1,.tmp 49),(2,.tmp 53)]) (cs:=(xZ.cells (xZ.mk (bE.mk rA rs.length rC) (bE.mk fA fs.length fC) (bE.mk S ((jC l r rs).length) T)))) U U (bq Rf U)) U U)<|ew (xs:=[.tmp 54]) (cs:=(xZ.cells (xZ.mk (bE.mk rA rs.length rC) (bE.mk fA fs.length fC) (bE.mk S ((jC l r rs).length) T)))) U FK Sj U U U U (by simp [Value.cells,xZ.bk]) U U fun Qr=>gT 240 3 ?_
 refine ed (es2:=(List.zipWith dA.cells (ia l r rs fs) ([((rA,rC),(fA,fC),(S,T))]))) (m':=(ia l r rs fs).length) 0 rfl rfl rfl OR rfl rfl rfl (bx (es:=List.zipWith dA.cells [(dA.mk rs fs (jC l r rs))] [((rA,rC),(fA,fC),(S,T))]) 1 rfl rfl (by intro e he; simp at he; subst he; rfl) rfl) (BB _ _) dc dc (by rw [zR G]; rfl) (by rw [zR G]; rfl) rfl fun y AC=>?_
 try dsimp only
 refine yr<|OG 0 3 U U U ?_
 try dsimp only
 refine rP 1 [] mn ?_
 refine aK ?_
 have d:(vS y ((ia l r rs fs).length) AC)=(vS y ((ia l r rs fs).length) AC):=by first|rfl|(rw [w5 G]; rfl)
 refine bu (jB (cP 6<|bw U d<|dp.nil _) (aR [3,4,5,6,7,8,9,10,11,12,13,14,1,0]) (m ⟨(y,AC,[((rA,rC),(fA,fC),(S,T))],[(own S T 3 1 ((jC l r rs).map iC))]),(by exact .inl ⟨G,_,U,U⟩)⟩))
theorem PW (l:bH) (kA:OA) (kC:Nat) (az:List RA) (cA:OA) (cC:Nat) (bA:OA) (bC:Nat) (r:c_) (sgA:OA) (sgC:Nat) (vwA:OA) (vwC:Nat) (vtA:OA) (vtC:Nat) (vbA:OA) (vbC k:Nat) (rs:List Int) (rA:OA) (rC:Nat) (fs:List Int) (fA:OA) (fC:Nat) (hin:ej l az) (hle:eT l=0) (hr:fQ l r) (hk:rs.length+k=l.ab.length) (hfl:fs.length=rs.length) (hst:r.Start≤gG r.Start fs∧gG r.Start fs≤r.gj) (hrs: ∀ x∈rs,-1≤x∧x<(r.aa.length:Int)):
 LU Tryz.prog 191 [(vA (cm.cells (jR l kA kC cA cC bA bC))),(vA (cL.cells (iN r sgA sgC))),(vA (iS.cells (iS.mk (bE.mk vwA ((cu l l.ab.length).length) vwC) (bE.mk vtA ((e8 l r r.aa.length).length) vtC) (bE.mk vbA ((fI l r r.aa.length).length) vbC)))),(vS rA rs.length rC),(vS fA fs.length fC)] [(rd kA l.aO.length 9 (l.aO.map au.cells)),(rd cA l.aj.length 2 (List.zipWith ax.cells l.aj az)),(dE (bg ax.e_ l.aj az)),(rd bA l.ab.length 4 (l.ab.map bK.cells)),(rd sgA r.aa.length 2 (r.aa.map aF.cells)),(rd vwA ((cu l l.ab.length).length) 1 ((cu l l.ab.length).map iC)),(rd vtA ((e8 l r r.aa.length).length) 2 ((e8 l r r.aa.length).map ai.cells)),(rd vbA ((fI l r r.aa.length).length) 1 ((fI l r r.aa.length).map qC))] (bM [own rA rC 3 1 (rs.map iC),own fA fC 3 1 (fs.map iC)]) (fun (x:(OA)×Nat×(List kU))=>(vS x.1 ((iE l r k rs fs).length) x.2.1)) (fun (x:(OA)×Nat×(List kU))=>x.2.2.length=(iE l r k rs fs).length) (fun (x:(OA)×Nat×(List kU))=>(bM (bg dA.owns (iE l r k rs fs) x.2.2++[own x.1 x.2.1 240 3 (List.zipWith dA.cells (iE l r k rs fs) x.2.2)]))):=by
 induction k using Nat.strongRecOn generalizing rs rA rC fs fA fC with
 |ind k ih=>exact Gt l kA kC az cA cC bA bC r sgA sgC vwA vwC vtA vtC vbA vbC k rs rA rC fs fA fC hin hle hr hk hfl hst hrs (fun L F D E C A B G H AA J K=>ih L G F D E C A B H AA J K)
end
section
open Go.RowKit
theorem Nx (l:bH) (kA:OA) (kC:Nat) (az:List RA) (cA:OA) (cC:Nat) (bA:OA) (bC:Nat) (r:c_) (sgA:OA) (sgC:Nat) (hin:ej l az) (hsl:r.aa.length≤1000000):
 nG Tryz.prog 151 [(vA (cm.cells (jR l kA kC cA cC bA bC))),(vA (cL.cells (iN r sgA sgC)))] [(rd kA l.aO.length 9 (l.aO.map au.cells)),(rd cA l.aj.length 2 (List.zipWith ax.cells l.aj az)),(dE (bg ax.e_ l.aj az)),(rd bA l.ab.length 4 (l.ab.map bK.cells)),(rd sgA r.aa.length 2 (r.aa.map aF.cells))] (fun (x:Bool×Int×(OA)×Nat×(List kU))=>bif x.1 then (vT [(vS x.2.2.1 ((qK l r).length) x.2.2.2.1),(vI 0)]) else (vT [(vS none 0 0),(vI x.2.1)])) (fun (x:Bool×Int×(OA)×Nat×(List kU))=>(x.1=true→(fu l r 0=0∧x.2.2.2.2.length=(qK l r).length))∧(x.1=false→(x.2.1=fu l r 0∧ ¬ fu l r 0=0))) (fun (x:Bool×Int×(OA)×Nat×(List kU))=>bif x.1 then [(own x.2.2.1 x.2.2.2.1 240 3 (List.zipWith dA.cells (qK l r) x.2.2.2.2)),(bM (bg dA.owns (qK l r) x.2.2.2.2))] else []):=by
 have k:=hin.rW
 have j:=hin.sG
 have h:=hin.ly
 have i:=hin.se
 refine eO kr Tryz.func151 U U fun o Q hQ hN=>?_
 try dsimp only
 refine WS fun _ X=>eJ U fun m=>eJ U fun n=>bI 2 U<|RK X<|aq fun _ Y=>WS fun _ Z=>eV 1 [] (mc 1 U mn) U<|rS (CL (C9 l kA kC az cA cC bA bC hin) (bo [2,3,4,5]) U)<|bI 1 U<|RK Z<|WS fun _ a=>rP 2 [] mn ?_
 refine RK a<|ck U (aX fun A=>?_) (aW fun A=>?_)
 ·refine WS fun _ b=>rP 3 [] mn ?_
  refine RK b<|ar<|LX hQ (false,(eT l),none,0,[]) [] [] mn U (by rfl) U U ?_
  exact qF<|QZ (mS (r:=r) (me:=0) A) A
 refine WK Y<|aq fun _ c=>WS fun _ d=>eV 2 [0,1] (mc 1 U (mc 0 U mn)) U<|rS (CL (NK l kA kC az cA cC bA bC r sgA sgC hin (by exact hsl)) (bo [2,3,4,5,6]) U)<|rP 1 [] mn ?_
 refine RK d<|ck U (aX fun B=>?_) (aW fun B=>?_)
 ·refine WS fun _ D=>rP 2 [] mn ?_
  refine RK D<|ar<|LX hQ (false,51,none,0,[]) [] [] mn U (by rfl) U U ?_
  exact qF<|sT (fR (me:=0) A B)
 refine WK c<|aq fun _ E=>dH cg [4,5,6] [] [] [0,1,2,3,4,5,6] [] U U U U U<|eS U (LW 1 U bU U U)<|eS U (LW 0 U bU U U)<|eS U (LW 1 U bU U U)<|eS U (LW 0 U bU U U)<|eo U<|cp U fun T12 J=>cX (N6 l kA kC az cA cC bA bC r sgA sgC hin (by exact A) (by exact B)) (bo [2,3,4,5,6]) U fun e g=>?_
 obtain ⟨V,W,T,AA,R,S⟩:=e
 try dsimp only
 refine aK (J _ _ (aR [3,4,5,6,7,8,9]) ?_)
 refine cp U fun T21 K=>gT 3 1<|gT 3 1<|yr<|sb 1 U ?_
 try dsimp only [List.eraseIdx]
 refine AM U<|sb 1 U ?_
 try dsimp only [List.eraseIdx]
 refine AM U ?_
 try dsimp only
 refine ow 0 rfl rfl rfl rfl (PW l kA kC az cA cC bA bC r sgA sgC V W T AA R S l.ab.length ([]:List Int) none 0 ([]:List Int) none 0 hin (by exact A) (by exact B) sm (by rfl) (by exact ⟨Int.le_refl _,B.time.2.1⟩) (by intro x hx; cases hx)) rfl (eC 6 rfl rfl (dI (cb _)) (eC 7 rfl rfl (dI (cb _)) (eC 8 rfl rfl (dI (cb _)) (eC 9 rfl rfl (dI (cb _)) (eC 10 rfl rfl (dI (cb _)) (eC 1 rfl rfl (jr sm) (eC 2 rfl rfl (jr sm) (eC 3 rfl rfl (jr sm) q8)))))))) rfl (fun f M=>?_)
 obtain ⟨N,O,P⟩:=f
 try dsimp only
 refine aK (K _ _ (aR [4,5,6,7,8,9,10]) ?_)
 refine cp U fun T26 L=>sb 0 U ?_
 try dsimp only [List.eraseIdx]
 refine zy ?_
 dsimp only at M
 refine rS (AG U)<|aK (L _ _ (aR [5,6,7,8,9,10,11]) ?_)
 refine fK U<|KK E<|aq fun _ F=>WS fun _ G=>rP 3 [] mn ?_
 refine RK G<|bR U (aU fun C=>?_) (aT fun C=>?_)
 ·refine WK F<|WS fun _ AB=>rP 3 [] mn ?_
  refine RK AB<|ar ?_
  refine LX hQ (true,0,N,O,P) [0,1] [] mn U (by (show List.all _ _=true; simp only [cond_true,il,List.all_nil,K7,Bool.and_true]; rfl)) U U ?_
  exact ⟨fun _=>⟨rT A B U fun q=>C (by rw [show iE l r l.ab.length [] []=[] from (im A B).2 q]; rfl),M⟩,Pj⟩
 refine WS fun _ H=>rP 2 [] mn ?_
 refine RK H<|ar<|LX hQ (false,8,none,0,[]) [] [] mn U (by rfl) U U ?_
 exact qF<|sT (tp (me:=0) A B U ((im A B).1 (kx (Int.natCast_eq_zero.1 C))))
theorem Hr (ws:List dA) (wz:List kU) (wA:OA) (wC b:Nat) (hws:NL ws) (hwz:wz.length=ws.length) (hb:b≤6):
 dB Tryz.prog 154 [(vS wA ws.length wC),(vI (b:Int))] [(rd wA ws.length 3 (List.zipWith dA.cells ws wz)),(dE (bg dA.e_ ws wz))] (vT [(vA (ai.cells (p8 ws b))),(vI (qh ws b))]):=by
 have u:=hws.num
 refine bJ kr Tryz.func154 U U fun x Q hQ hN=>?_
 try dsimp only
 refine WS fun _ g=>AL U dU fun w=>bI 1 U<|RK g<|WS fun _ h=>AL U dU fun t=>RK h<|WS fun _ j=>bI 1 U<|RK j<|aq fun _ k=>WS fun _ l=>rP 1 [] mn ?_
 refine RK l<|aH ?_
 have D:(0≤ws.length)∧(n9 b (ws.take 0) false (ai.mk 0 0)):=by exact ⟨Nat.zero_le _,GG⟩
 refine bS (ι:={z:Nat×Bool×ai // (z.1≤ws.length)∧(n9 b (ws.take z.1) z.2.1 z.2.2)}) [0,1,4,5,6] [1,2,3] U U (fun z=>[(7,(vB z.1.2.1)),(8,(vI (z.1.1:Int)))]) (fun z=>[(cz t 38 (ai.cells z.1.2.2))]) (fun _=>rfl) (fun _=>rfl) (fun z=>ws.length-z.1.1) ⟨(0,false,(ai.mk 0 0)),D⟩ (bD U) (aR [1,2,3,0]) ?_
 clear D
 rintro ⟨⟨i,fd,o⟩,⟨J,A⟩⟩ J8 H
 try dsimp only at J A
 try dsimp only
 refine aq fun _ m=>WS fun _ L=>rP 4 [] mn ?_
 refine RK L<|bR U (aU fun c=>?_) (aT fun c=>?_)
 ·refine bQ<|ag<|ag<|aI<|KK k<|aq fun _ R=>WS fun _ S=>rP 2 [] mn ?_
  refine RK S<|bR U (fun B=>?_) (fun B=>?_)
  ·rw [Bool.not_eq_false'] at B
   refine WK R<|WS fun _ AA=>eV 1 [] (mc 3 U mn) U<|eN U cT U<|rP 1 [] mn ?_
   refine RK AA<|ar<|l5 hQ [0] (mc 0 U mn) U ?_
   have AB:=zh (by have q:=A; rwa [List.take_of_length_le I] at q) hws.FQ
   (have q:=AB.2 B; rw [q.1,q.2]; done)
  rw [Bool.not_eq_true'] at B
  refine WS fun _ T=>rS (SX (bp (xs:=[]) (cs:=(ai.cells (ai.mk 0 0))) U U (bq gM U)) U U)<|eN U cT U<|rP 1 [] mn ?_
  refine RK T<|ar<|l5 hQ [0] (mc 0 U mn) U ?_
  have AB:=zh (by have q:=A; rwa [List.take_of_length_le I] at q) hws.FQ
  (have q:=AB.1 B; rw [q.1,q.2]; done)
 refine WK m<|aq fun _ C=>aH<|aq fun _ M=>WS fun _ N=>rP 2 [] mn ?_
 obtain ⟨y,hy⟩:=aC ws i I
 obtain ⟨ya,E⟩:=aC wz i I
 have K:(List.zipWith dA.cells ws wz)[i]? =some (dA.cells y ya):=cv hy E
 refine rS (IA i U (ay 1 U) FK dc I I)<|rS (pO (i*3) U (ay 1 U) (Nat.mul_pos I dc) eU U)<|rS (gD i 0 (vS ya.1.1 y.gQ.length ya.1.2) U bU (ay 1 U) K U dc U)<|rP 3 [] mn ?_
 refine RK N<|ck U (aT fun d=>?_) (aU fun d=>?_)
 ·refine bQ<|ag<|aI<|KK C<|aw<|rP 3 [] mn ?_
  refine aK ?_
  have X:(vI (((i+1):Nat):Int))=(vI ((i:Int)+1)):=by exact cI I
  refine bu (H ⟨((i+1),fd,o),⟨I,by dsimp only; rw [sf hy]; exact D0 A I⟩⟩ _ _ _ U os (cP 6<|bw U X<|dp.nil _) (aR [0,1,2,3]))
 refine WK M<|aq fun _ O=>dH cg [17,18] [] [] [0,1,2,3] [] U U U U U ?_
 have v:=hws.lens y (aM hy)
 obtain ⟨s,hs⟩: ∃ s,y.gQ[b]? =some s:=⟨y.gQ[b]'I,fV _⟩
 refine eS U (MV U)<|eS U (MV U)<|eS U (IA i U (ay 1 U) FK dc I I)<|eS U (pO ((i*3)+1) U (ay 1 U) (Nat.mul_pos I dc) eU U)<|eS U (gD i 1 (vS ya.2.1.1 y.ja.length ya.2.1.2) U bU (ay 1 U) K U dc U)<|eS U (MV U) ?_
 obtain ⟨f,hf⟩:=aC y.ja b I
 have p:=bO iC hf
 refine eS U (IA b U (show fY _ (rd ya.2.1.1 y.ja.length 1 (y.ja.map iC)).holds from (bX 2 U (a_ hy E (by simp [dA.e_])))) dy dc I I)<|eS U (gD b 0 (vI f) U bU (show fY _ (rd ya.2.1.1 y.ja.length 1 (y.ja.map iC)).holds from (bX 2 U (a_ hy E (by simp [dA.e_])))) p U dc U)<|eS U (MV U)<|eS U (MV U)<|eS U (IA i U (ay 1 U) FK dc I I)<|eS U (pO ((i*3)+2) U (ay 1 U) (Nat.mul_pos I dc) eU U)<|eS U (gD i 2 (vS ya.2.2.1 y.mA.length ya.2.2.2) U bU (ay 1 U) K U dc U)<|eS U (MV U) ?_
 obtain ⟨e,he⟩:=aC y.mA b I
 have n:=bO iC he
 refine eS U (IA b U (show fY _ (rd ya.2.2.1 y.mA.length 1 (y.mA.map iC)).holds from (bX 2 U (a_ hy E (by simp [dA.e_])))) dy dc I I)<|eS U (gD b 0 (vI e) U bU (show fY _ (rd ya.2.2.1 y.mA.length 1 (y.mA.map iC)).holds from (bX 2 U (a_ hy E (by simp [dA.e_])))) n U dc U)<|eS U (SX (bp (xs:=[(0,.tmp 31),(1,.tmp 39)]) (cs:=(ai.cells (ai.mk f e))) U U (bq gM U)) U U)<|eo U<|cp U fun T17 V=>AL U dU fun r=>aK (V _ _ (aR [1,2,3,4]) ?_)
 refine cp U fun T19 W=>eN U cT U<|aK (W _ _ (aR [1,2,3,4]) ?_)
 refine fK U<|KK O<|aq fun _ F=>WS fun _ P=>?_
 have a:=hws.le y (aM hy) b f e I hf he
 refine rP 1 [] mn ?_
 refine RK P<|bR U (fun G=>?_) (fun G=>?_)
 ·refine WK F<|aw<|eV 1 [] (mc 0 U mn) U<|Q5 U cT U<|bI 1 U<|aK<|aP<|KK C<|aw<|rP 3 [] mn ?_
  refine aK ?_
  have Z:(vI (((i+1):Nat):Int))=(vI ((i:Int)+1)):=by exact cI I
  refine bu (H ⟨((i+1),true,(ai.mk f e)),⟨I,by dsimp only; rw [sf hy]; exact Bg A G hs hf he a⟩⟩ _ _ _ U os (cP 6<|bw U Z<|dp.nil _) (aR [1,2,3,4]))
 refine aw<|eV 4 [0,1] (mc 0 U (mc 4 U mn)) U<|rS (MN U)<|eV 4 [0,1] (mc 0 U (mc 4 U mn)) U<|rS (MX U)<|rS (SX (bp (xs:=[(0,.tmp 46),(1,.tmp 51)]) (cs:=(ai.cells (ai.mk (min f o.Lo) (max e o.Hi)))) U U (bq gM U)) U U)<|eN U cT U<|RK F<|aw<|eV 1 [] (mc 0 U mn) U<|Q5 U cT U<|bI 1 U<|aK<|aP<|KK C<|aw<|rP 3 [] mn ?_
 refine aK ?_
 have Y:(vI (((i+1):Nat):Int))=(vI ((i:Int)+1)):=by exact cI I
 refine bu (H ⟨((i+1),true,(ai.mk (min f o.Lo) (max e o.Hi))),⟨I,by dsimp only; rw [sf hy]; exact Ei A G hs hf he a⟩⟩ _ _ _ U os (cP 6<|bw U Y<|dp.nil _) (aR [1,2,3,4]))
end
section
open Go.RowKit
theorem Qe (l:bH) (kA:OA) (kC:Nat) (az:List RA) (cA:OA) (cC:Nat) (bA:OA) (bC:Nat) (r:c_) (sgA:OA) (sgC:Nat) (hin:ej l az) (hsl:r.aa.length≤1000000):
 dB Tryz.prog 162 [(vA (cm.cells (cm.mk (bL.mk (bE.mk kA l.aO.length kC)) l.h_ (bE.mk cA l.aj.length cC) (bE.mk bA l.ab.length bC) l.cf l.fJ l.dC))),(vA (cL.cells (iN r sgA sgC)))] [(rd kA l.aO.length 9 (l.aO.map au.cells)),(rd cA l.aj.length 2 (List.zipWith ax.cells l.aj az)),(dE (bg ax.e_ l.aj az)),(rd bA l.ab.length 4 (l.ab.map bK.cells)),(rd sgA r.aa.length 2 (r.aa.map aF.cells))] (vT [(vA (ai.cells (AF l r))),(vI (dW l r l.cf))]):=by
 have q:=hin.rW
 have j:=hin.sG
 have h:=hin.ly
 have i:=hin.se
 refine bJ kr Tryz.func162 U U fun y Q hQ hN=>?_
 try dsimp only
 refine WS fun _ Z=>eJ U fun v=>eJ U fun w=>AL U dU fun x=>bI 1 U<|RK Z<|WS fun _ P=>rP 2 [0,1] (mc 2 U (mc 1 U mn)) ?_
 refine cX (Nx l kA kC az cA cC bA bC r sgA sgC hin hsl) (bo [3,4,5,6,7]) U fun u V=>?_
 obtain ⟨W,g,e,Y,X⟩:=u
 cases W
 ·obtain ⟨R,he⟩:=V.2 rfl
  try dsimp only at R he
  subst R
  try dsimp only [cond_true,cond_false,List.cons_append,List.nil_append]
  refine bI 5 U<|RK P<|aq fun _ d=>WS fun _ G=>rP 2 [] mn ?_
  refine RK G<|bR U (aW fun F=>?_) (aX fun F=>?_)
  ·exact absurd F he
  refine WS fun _ H=>rS (SX (bp (xs:=[]) (cs:=(ai.cells (ai.mk 0 0))) U U (bq gM U)) U U)<|bI 1 U<|eN U cT U<|rP 1 [] mn ?_
  refine RK H<|ar<|l5 hQ [0] (mc 0 U mn) U ?_
  (rw [Dp (fun z=>he ((v8 he).symm.trans z)),v8 he]<;>rfl)
 obtain ⟨he,C⟩:=V.1 rfl
 try dsimp only [cond_true,cond_false,List.cons_append,List.nil_append]
 try dsimp only at he C
 obtain ⟨T,E,_,k⟩:=jh he
 obtain ⟨s,c⟩:=eh T
 have a:=c.head
 unfold eZ at a
 have AA:=Qz T E
 have t:=AA.num
 have o:=E.len
 have p:=E.time
 refine bI 5 U<|RK P<|aq fun _ AC=>WS fun _ J=>rP 1 [] mn ?_
 refine rS (SX (fM (r:= .bool false) U U U rm) U U)<|RK J<|cq U<|WK AC<|aq fun _ K=>?_
 obtain ⟨b,S⟩: ∃ b:Nat,l.cf=(b:Int):=⟨l.cf.toNat,I⟩
 have A:=Ix he (b:=b) I
 rw [← S] at A
 rw [S]
 refine aw<|eV 3 [] (mc 4 U mn) U<|rS (CL (Hr (qK l r) X e Y b (by exact AA) (by exact C) I) (aD (aB (n:=(qK l r).length) 0 U (uD C))<|aD (dR 1 U MT)<|aL) U)<|bI 3 U<|AL U dU fun f=>eN U cT U<|bI 1 U<|RK K<|aq fun _ L=>WS fun _ M=>rP 2 [] mn ?_
 refine RK M<|ck U (aX fun B=>?_) (aW fun B=>?_)
 ·refine WS fun _ N=>rS (SX (bp (xs:=[]) (cs:=(ai.cells (ai.mk 0 0))) U U (bq gM U)) U U)<|bI 1 U<|RG U cT U<|rP 1 [] mn ?_
  refine RK N<|ar<|l5 hQ [0] (mc 3 U mn) U ?_
  (rw [Dp (fun z=>B (A.1.trans z)),← A.1]<;>rfl)
 refine WK L<|aq fun _ O=>?_
 have D:dW l r l.cf=0:=A.1.symm.trans B
 have m:=uB D
 rw [A.2]
 refine aw<|eV 10 [0,1,0,1] (mc 0 U (mc 4 U mn)) U<|rS (SX (bp (xs:=[(0,.tmp 34),(1,.tmp 39)]) (cs:=(ai.cells (ai.mk (((dN l r l.cf).Lo)-r.Start) (((dN l r l.cf).Hi)-r.Start)))) U U (bq gM U)) U U)<|RG U cT U<|rP 1 [] mn ?_
 refine RK O<|ar<|l5 hQ [0] (mc 3 U mn) U ?_
 (rw [AB D,D])
theorem D2 (la:List aF) (laA:OA) (laC:Nat) (lb:List aF) (lbA:OA) (lbC:Nat) (h1:la.length≤1000000) (h2:lb.length≤1000000):
 dB Tryz.prog 61 [(vS laA la.length laC),(vS lbA lb.length lbC)] [(rd laA la.length 2 (la.map aF.cells)),(rd lbA lb.length 2 (lb.map aF.cells))] (vB (decide (la=lb))):=by
 refine bJ kr Tryz.func61 U U fun V Q hQ hN=>?_
 try dsimp only
 refine WS fun _ J=>bI 1 U<|RK J<|aq fun _ K=>WS fun _ L=>rP 5 [] mn ?_
 refine RK L<|ck U (aX fun hl=>?_) (aW fun hl=>?_)
 ·refine WS fun _ M=>rP 1 [] mn ?_
  refine RK M<|ar<|Q1 hQ U U U ?_
  first|exact cB (bj (og hx hy h)).symm|exact cB (cO (cR I A I)).symm|exact cB (bj (fun e=>by subst e; omega)).symm
 refine WK K<|aq fun _ N=>WS fun _ O=>rP 1 [] mn ?_
 refine RK O<|aH ?_
 have B:(0≤la.length)∧(la.take 0=lb.take 0):=by simp
 refine bS (ι:={z:Nat // (z≤la.length)∧(la.take z=lb.take z)}) [0,1] [0,1] U U (fun z=>[(5,(vI (z.1:Int)))]) (fun z=>[]) (fun _=>rfl) (fun _=>rfl) (fun z=>la.length-z.1) ⟨0,B⟩ (bD U) (aR [0,1]) ?_
 clear B
 rintro ⟨i,⟨S,A⟩⟩ J7 AB
 try dsimp only
 refine aq fun _ P=>WS fun _ R=>rP 4 [] mn ?_
 refine RK R<|bR U (aU fun H=>?_) (aT fun H=>?_)
 ·refine bQ<|ag<|ag<|aI<|KK N<|WS fun _ F=>rP 1 [] mn ?_
  refine RK F<|ar<|Q1 hQ U U U ?_
  first|exact cB (bj (og hx hy h)).symm|exact cB (cO (cR I A I)).symm|exact cB (bj (fun e=>by subst e; omega)).symm
 refine WK P<|aq fun _ C=>aH<|aq fun _ D=>cW cg 9 kr<|dP 2 [] mn ?_
 obtain ⟨x,hx⟩:=aC la i I
 have T:=bO aF.cells hx
 refine dS (IA i U (ay 0 U) wD dc I I)<|dS (jD i 0 (aF.cells x) U bU (ay 0 U) T U dc U U)<|dP 2 [] mn ?_
 obtain ⟨y,hy⟩:=aC lb i I
 have AA:=bO aF.cells hy
 refine dS (IA i U (ay 1 U) wD dc I I)<|dS (jD i 0 (aF.cells y) U bU (ay 1 U) AA U dc U U)<|dS (BI U (PM _ _ x y))<|cx<|RK D<|ck U (aX fun h=>?_) (aW fun h=>?_)
 ·refine WS fun _ E=>rP 1 [] mn ?_
  refine RK E<|ar<|Q1 hQ U U U ?_
  first|exact cB (bj (og hx hy h)).symm|exact cB (cO (cR I A I)).symm|exact cB (bj (fun e=>by subst e; omega)).symm
 refine cj<|aP<|KK C<|aw<|rP 3 [] mn ?_
 refine aK ?_
 have G:(vI (((i+1):Nat):Int))=(vI ((i:Int)+1)):=by exact cI I
 refine bu (AB ⟨(i+1),⟨I,iX A hx hy h⟩⟩ _ _ _ U os (dp.cons U<|dp.cons U<|bw U G<|dp.nil _) (aR [0,1]))
end
section
open Go.RowKit
theorem pt (n lo hi:Int):
 dB Tryz.prog 128 [(vI n),(vI lo),(vI hi)] [] (vB (decide (lo≤n∧n≤hi))):=by
 refine bJ kr Tryz.func128 U U fun D Q hQ hN=>?_
 try dsimp only
 refine WS fun _ B=>bI 1 U<|RK B<|WS fun _ A=>rP 4 [] mn ?_
 refine bT (t:=10) U (aT fun C=>?_) (aU fun C=>?_)
 ·refine rP 5 [] mn ?_
  refine RK A<|ar<|Q1 hQ U U U ?_
  exact cB (gU.2 I)
 refine rP 5 [] mn ?_
 refine RK A<|ar<|Q1 hQ U U U ?_
 exact cB (bj I).symm
theorem Fi (r:c_) (sgA:OA) (sgC:Nat):
 dB Tryz.prog 160 [(vA (cL.cells (iN r sgA sgC)))] [(rd sgA r.aa.length 2 (r.aa.map aF.cells))] (vB (decide (ng r))):=by
 refine bJ kr Tryz.func160 U U fun F Q hQ hN=>?_
 try dsimp only
 refine WS fun _ B=>eJ U fun E=>bI 1 U<|RK B<|WS fun _ A=>rP 4 [] (mc 0 U mn) ?_
 refine cG (t:=6) U (aU fun C=>?_) (aT fun C=>?_)
 ·refine rP 11 [] mn ?_
  refine RK A<|ar<|Q1 hQ U U U ?_
  simp only [ng]
  exact cB (bj I).symm
 refine rP 5 [] (mc 0 U mn) ?_
 refine cG (t:=11) U (aU fun D=>?_) (aT fun D=>?_)
 ·refine rP 6 [] mn ?_
  refine RK A<|ar<|Q1 hQ U U U ?_
  simp only [ng]
  exact cB (bj I).symm
 refine rP 6 [] (mc 0 U mn) ?_
 refine RK A<|ar<|Q1 hQ U U U ?_
 simp only [ng]
 exact cB (gU.2 I)
theorem ML (s:ai):
 dB Tryz.prog 161 [(vA (ai.cells s))] [] (vB (decide (mj s))):=by
 refine bJ kr Tryz.func161 U U fun F Q hQ hN=>?_
 try dsimp only
 refine WS fun _ B=>eJ U fun E=>bI 1 U<|RK B<|WS fun _ A=>rP 4 [] (mc 0 U mn) ?_
 refine cG (t:=6) U (aU fun C=>?_) (aT fun C=>?_)
 ·refine rP 12 [] mn ?_
  refine RK A<|ar<|Q1 hQ U U U ?_
  simp only [mj]
  exact cB (bj I).symm
 refine rP 7 [] (mc 0 U mn) ?_
 refine cG (t:=13) U (aU fun D=>?_) (aT fun D=>?_)
 ·refine rP 5 [] mn ?_
  refine RK A<|ar<|Q1 hQ U U U ?_
  simp only [mj]
  exact cB (bj I).symm
 refine rP 5 [] (mc 0 U mn) ?_
 refine RK A<|ar<|Q1 hQ U U U ?_
 simp only [mj]
 exact cB (gU.2 I)
theorem qX (la:List Int) (laA:OA) (laC:Nat) (lb:List Int) (lbA:OA) (lbC:Nat) (h1:la.length≤1000000) (h2:lb.length≤1000000):
 dB Tryz.prog 47 [(vS laA la.length laC),(vS lbA lb.length lbC)] [(rd laA la.length 1 (la.map iC)),(rd lbA lb.length 1 (lb.map iC))] (vB (decide (la=lb))):=by
 refine bJ kr Tryz.func47 U U fun V Q hQ hN=>?_
 try dsimp only
 refine WS fun _ J=>bI 1 U<|RK J<|aq fun _ K=>WS fun _ L=>rP 5 [] mn ?_
 refine RK L<|ck U (aX fun hl=>?_) (aW fun hl=>?_)
 ·refine WS fun _ M=>rP 1 [] mn ?_
  refine RK M<|ar<|Q1 hQ U U U ?_
  exact cB (bj (fun e=>by subst e; omega)).symm
 refine WK K<|aq fun _ N=>WS fun _ O=>rP 1 [] mn ?_
 refine RK O<|aH ?_
 have A:(0≤la.length)∧(la.take 0=lb.take 0):=by simp
 refine bS (ι:={z:Nat // (z≤la.length)∧(la.take z=lb.take z)}) [0,1] [0,1] U U (fun z=>[(5,(vI (z.1:Int)))]) (fun z=>[]) (fun _=>rfl) (fun _=>rfl) (fun z=>la.length-z.1) ⟨0,A⟩ (bD U) (aR [0,1]) ?_
 clear A
 rintro ⟨i,⟨S,B⟩⟩ J7 AB
 try dsimp only
 refine aq fun _ P=>WS fun _ R=>rP 4 [] mn ?_
 refine RK R<|bR U (aU fun H=>?_) (aT fun H=>?_)
 ·refine bQ<|ag<|ag<|aI<|KK N<|WS fun _ F=>rP 1 [] mn ?_
  refine RK F<|ar<|Q1 hQ U U U ?_
  exact cB (cO (cR I B I)).symm
 refine WK P<|aq fun _ C=>aH<|aq fun _ D=>cW cg 9 kr<|dP 2 [] mn ?_
 obtain ⟨x,hx⟩:=aC la i I
 have T:=bO iC hx
 refine dS (IA i U (ay 0 U) dy dc I I)<|dS (gD i 0 (vI x) U bU (ay 0 U) T U dc U)<|dP 2 [] mn ?_
 obtain ⟨y,hy⟩:=aC lb i I
 have AA:=bO iC hy
 refine dS (IA i U (ay 1 U) dy dc I I)<|dS (gD i 0 (vI y) U bU (ay 1 U) AA U dc U)<|dP 1 [] mn ?_
 refine cx<|RK D<|ck U (aX fun h=>?_) (aW fun h=>?_)
 ·refine WS fun _ E=>rP 1 [] mn ?_
  refine RK E<|ar<|Q1 hQ U U U ?_
  exact cB (bj (og hx hy h)).symm
 refine cj<|aP<|KK C<|aw<|rP 3 [] mn ?_
 refine aK ?_
 have G:(vI (((i+1):Nat):Int))=(vI ((i:Int)+1)):=by exact cI I
 refine bu (AB ⟨(i+1),⟨I,iX B hx hy h⟩⟩ _ _ _ U os (dp.cons U<|dp.cons U<|bw U G<|dp.nil _) (aR [0,1]))
end
section
open Go.RowKit
theorem oc (d:ak) (sgA:OA) (sgC:Nat) (e:ak) (shA:OA) (shC:Nat) (h1:d.aY.aa.length≤1000000) (h2:e.aY.aa.length≤1000000):
 dB Tryz.prog 27 [(vA (aG.cells (aG.mk d.Out d.cJ d.Time (iN d.aY sgA sgC)))),(vA (aG.cells (aG.mk e.Out e.cJ e.Time (cL.mk e.aY.Start e.aY.gj (bE.mk shA e.aY.aa.length shC)))))] [(rd sgA d.aY.aa.length 2 (d.aY.aa.map aF.cells)),(rd shA e.aY.aa.length 2 (e.aY.aa.map aF.cells))] (vB (decide (d=e))):=by
 refine bJ kr Tryz.func27 U U fun J Q hQ hN=>?_
 try dsimp only
 refine WS fun _ B=>eJ U fun H=>eJ U fun AA=>bI 1 U<|RK B<|WS fun _ A=>eV 4 [0,1] (mc 1 U (mc 0 U mn)) U<|rS (BI U (HX T3))<|rP 1 [] mn ?_
 refine cG (t:=10) U (fun C=>?_) (fun C=>?_)
 ·replace C: ¬ d.Out=e.Out:=by simpa using C
  refine rP 41 [] mn ?_
  refine RK A<|ar<|Q1 hQ U U U ?_
  clear hQ hN A B
  refine cB ?_
  simp [pD, *]
 replace C:d.Out=e.Out:=by simpa using C
 refine eV 4 [0,1] (mc 1 U (mc 0 U mn)) U<|rS (BI U (HX T3))<|rP 2 [] mn ?_
 refine cG (t:=17) U (fun D=>?_) (fun D=>?_)
 ·replace D: ¬ d.cJ=e.cJ:=by simpa using D
  refine rP 34 [] mn ?_
  refine RK A<|ar<|Q1 hQ U U U ?_
  clear hQ hN A B
  refine cB ?_
  simp [pD, *]
 replace D:d.cJ=e.cJ:=by simpa using D
 refine bI 1 U<|rS (LP (ai.cells d.Time) 1 U bU U U U)<|bI 1 U<|rS (LP (ai.cells e.Time) 0 U bU U U U)<|rS (BI U (tU _ _ d.Time e.Time))<|rP 2 [] mn ?_
 refine cG (t:=24) U (aU fun E=>?_) (aT fun E=>?_)
 ·refine rP 27 [] mn ?_
  refine RK A<|ar<|Q1 hQ U U U ?_
  clear hQ hN A B
  refine cB ?_
  simp [pD, *]
 refine rP 9 [0,1] (mc 1 U (mc 0 U mn)) ?_
 refine cG (t:=33) U (aU fun F=>?_) (aT fun F=>?_)
 ·refine rP 18 [] mn ?_
  refine RK A<|ar<|Q1 hQ U U U ?_
  clear hQ hN A B
  refine cB ?_
  simp [pD, *]
 refine rP 9 [0,1] (mc 1 U (mc 0 U mn)) ?_
 refine cG (t:=42) U (aU fun G=>?_) (aT fun G=>?_)
 ·refine rP 9 [] mn ?_
  refine RK A<|ar<|Q1 hQ U U U ?_
  clear hQ hN A B
  refine cB ?_
  simp [pD, *]
 refine eV 6 [0,1] (mc 1 U (mc 0 U mn)) U<|rS (CL (D2 d.aY.aa sgA sgC e.aY.aa shA shC h1 h2) (bo [2,3]) U)<|rP 2 [] mn ?_
 refine RK A<|ar<|Q1 hQ U U U ?_
 clear hQ hN A B
 refine cB ?_
 simp [pD, *]
theorem ye (r:eD) (kA:OA) (kC:Nat) (az:List RA) (cA:OA) (cC:Nat) (bA:OA) (bC:Nat) (slA:OA) (slC:Nat) (drA:OA) (drC:Nat) (ha:List cD) (heA:OA) (heC:Nat) (q:eD) (k2A:OA) (k2C:Nat) (az2:List RA) (c2A:OA) (c2C:Nat) (b2A:OA) (b2C:Nat) (sl2A:OA) (sl2C:Nat) (dr2A:OA) (dr2C:Nat) (ha2:List cD) (he2A:OA) (he2C:Nat) (hin:iF r az ha) (hin2:iF q az2 ha2) (hsm: ¬ lT r) (hsm2: ¬ lT q):
 dB Tryz.prog 20 [(vA (cY.cells (vJ r kA kC cA cC bA bC slA slC drA drC heA heC))),(vA (cY.cells (cY.mk (cm.mk (bL.mk (bE.mk k2A q.ao.aO.length k2C)) q.ao.h_ (bE.mk c2A q.ao.aj.length c2C) (bE.mk b2A q.ao.ab.length b2C) q.ao.cf q.ao.fJ q.ao.dC) (bE.mk sl2A q.aV.length sl2C) (bE.mk dr2A q.bV.length dr2C) q.j9 (bE.mk he2A q.av.length he2C))))] [(rd kA r.ao.aO.length 9 (r.ao.aO.map au.cells)),(rd cA r.ao.aj.length 2 (List.zipWith ax.cells r.ao.aj az)),(dE (bg ax.e_ r.ao.aj az)),(rd bA r.ao.ab.length 4 (r.ao.ab.map bK.cells)),(rd slA r.aV.length 1 (r.aV.map iC)),(rd drA r.bV.length 1 (r.bV.map iC)),(rd heA r.av.length 1 (List.zipWith bW r.av ha)),(dE (bg er r.av ha)),(rd k2A q.ao.aO.length 9 (q.ao.aO.map au.cells)),(rd c2A q.ao.aj.length 2 (List.zipWith ax.cells q.ao.aj az2)),(dE (bg ax.e_ q.ao.aj az2)),(rd b2A q.ao.ab.length 4 (q.ao.ab.map bK.cells)),(rd sl2A q.aV.length 1 (q.aV.map iC)),(rd dr2A q.bV.length 1 (q.bV.map iC)),(rd he2A q.av.length 1 (List.zipWith bW q.av ha2)),(dE (bg er q.av ha2))] (vB (decide (r=q))):=by
 have W:=hin.line
 have Do:=hin.g8
 have EQ:=hin.has
 have Di:=hin.g7
 have Cx:=hin.draw
 have Dj:=iL (r:=r)
 have hline2:=hin2.line
 have C1:=hin2.g8
 have C3:=hin2.has
 have Cp:=hin2.g7
 have B9:=hin2.draw
 have AK:=Ax hsm
 have AO:=Ax hsm2
 refine bJ kr Tryz.func20 U U fun w0 Q hQ hN=>?_
 try dsimp only
 refine WS fun _ A4=>eJ U fun b2=>eJ U fun b3=>bI 1 U<|RK A4<|aq fun _ A5=>WS fun _ P=>bI 1 U<|rS (LP (cm.cells (jR r.ao kA kC cA cC bA bC)) 1 U bU U U U)<|bI 1 U<|rS (LP (cm.cells (cm.mk (bL.mk (bE.mk k2A q.ao.aO.length k2C)) q.ao.h_ (bE.mk c2A q.ao.aj.length c2C) (bE.mk b2A q.ao.ab.length b2C) q.ao.cf q.ao.fJ q.ao.dC)) 0 U bU U U U)<|rS (CL (MH r.ao kA kC az cA cC bA bC q.ao k2A k2C az2 c2A c2C b2A b2C (by exact W) (by exact hline2) (by exact AK.1) (by exact AO.1)) (bo [2,3,4,5,10,11,12,13]) U)<|rP 2 [] mn ?_
 refine bT (t:=13) U (aX fun D=>?_) (aW fun D=>?_)
 ·refine bI 31 U<|RK P<|aN U<|WS fun _ A6=>rP 1 [] mn ?_
  refine RK A6<|ar<|Q1 hQ U U U ?_
  first|exact cB (bj (fun e=>by cases e; first|exact D rfl|exact E rfl|exact F rfl|exact G rfl|exact M rfl)).symm|exact cB (cO (lv D E F G (cR I C I))).symm|exact cB (bj (fun z=>by cases z; rw [H] at A; cases A; first|omega|(rw [hd] at B; cases B; exact L rfl))).symm
 refine rP 4 [0,1] (mc 1 U (mc 0 U mn)) ?_
 refine rS (CL (qX r.aV slA slC q.aV sl2A sl2C sd sd) (bo [6,14]) U) ?_
 refine rP 3 [] mn ?_
 refine bT (t:=21) U (aX fun E=>?_) (aW fun E=>?_)
 ·refine bI 23 U<|RK P<|aN U<|WS fun _ A7=>rP 1 [] mn ?_
  refine RK A7<|ar<|Q1 hQ U U U ?_
  first|exact cB (bj (fun e=>by cases e; first|exact D rfl|exact E rfl|exact F rfl|exact G rfl|exact M rfl)).symm|exact cB (cO (lv D E F G (cR I C I))).symm|exact cB (bj (fun z=>by cases z; rw [H] at A; cases A; first|omega|(rw [hd] at B; cases B; exact L rfl))).symm
 refine rP 4 [0,1] (mc 1 U (mc 0 U mn)) ?_
 refine rS (CL (qX r.bV drA drC q.bV dr2A dr2C sd sd) (bo [7,15]) U) ?_
 refine rP 3 [] mn ?_
 refine bT (t:=29) U (aX fun F=>?_) (aW fun F=>?_)
 ·refine bI 15 U<|RK P<|aN U<|WS fun _ A8=>rP 1 [] mn ?_
  refine RK A8<|ar<|Q1 hQ U U U ?_
  first|exact cB (bj (fun e=>by cases e; first|exact D rfl|exact E rfl|exact F rfl|exact G rfl|exact M rfl)).symm|exact cB (cO (lv D E F G (cR I C I))).symm|exact cB (bj (fun z=>by cases z; rw [H] at A; cases A; first|omega|(rw [hd] at B; cases B; exact L rfl))).symm
 refine rP 7 [0,1] (mc 1 U (mc 0 U mn)) ?_
 refine bT (t:=36) U (aX fun G=>?_) (aW fun G=>?_)
 ·refine bI 8 U<|RK P<|aN U<|WS fun _ A9=>rP 1 [] mn ?_
  refine RK A9<|ar<|Q1 hQ U U U ?_
  first|exact cB (bj (fun e=>by cases e; first|exact D rfl|exact E rfl|exact F rfl|exact G rfl|exact M rfl)).symm|exact cB (cO (lv D E F G (cR I C I))).symm|exact cB (bj (fun z=>by cases z; rw [H] at A; cases A; first|omega|(rw [hd] at B; cases B; exact L rfl))).symm
 refine rP 8 [0,1] (mc 1 U (mc 0 U mn)) ?_
 refine RK P<|ck U (aX fun M=>?_) (aW fun M=>?_)
 ·refine WS fun _ Z=>rP 1 [] mn ?_
  refine RK Z<|ar<|Q1 hQ U U U ?_
  first|exact cB (bj (fun e=>by cases e; first|exact D rfl|exact E rfl|exact F rfl|exact G rfl|exact M rfl)).symm|exact cB (cO (lv D E F G (cR I C I))).symm|exact cB (bj (fun z=>by cases z; rw [H] at A; cases A; first|omega|(rw [hd] at B; cases B; exact L rfl))).symm
 refine WK A5<|aq fun _ a=>WS fun _ b=>rP 1 [] mn ?_
 refine RK b<|aH ?_
 have J:(0≤r.av.length)∧(r.av.take 0=q.av.take 0):=by exact ⟨Nat.zero_le _,rfl⟩
 refine bS (ι:={z:Nat // (z≤r.av.length)∧(r.av.take z=q.av.take z)}) [2,3] [0,1,2,3,4,5,6,7,8,9,10,11,12,13,14,15,16,17] U U (fun z=>[(5,(vI (z.1:Int)))]) (fun z=>[]) (fun _=>rfl) (fun _=>rfl) (fun z=>r.av.length-z.1) ⟨0,J⟩ (bD U) (aR [0,1,2,3,4,5,6,7,8,9,10,11,12,13,14,15,16,17]) ?_
 clear J
 rintro ⟨h,⟨Ci,C⟩⟩ J13 X
 try dsimp only
 refine aq fun _ c=>WS fun _ f=>rP 5 [] (mc 1 U mn) ?_
 refine RK f<|bR U (aU fun A1=>?_) (aT fun A1=>?_)
 ·refine bQ<|ag<|ag<|aI<|KK a<|WS fun _ v=>rP 1 [] mn ?_
  refine RK v<|ar<|Q1 hQ U U U ?_
  first|exact cB (bj (fun e=>by cases e; first|exact D rfl|exact E rfl|exact F rfl|exact G rfl|exact M rfl)).symm|exact cB (cO (lv D E F G (cR I C I))).symm|exact cB (bj (fun z=>by cases z; rw [H] at A; cases A; first|omega|(rw [hd] at B; cases B; exact L rfl))).symm
 refine WK c<|aq fun _ g=>aH<|aq fun _ j=>aq fun _ k=>cW cg 13 kr<|dP 3 [] (mc 1 U mn) ?_
 obtain ⟨ht,H⟩:=aC r.av h I
 obtain ⟨AB,N⟩:=aC ha h I
 have R:(List.zipWith bW r.av ha)[h]? =some (bW ht AB):=cv H N
 refine dS (IA h U (ay 8 U) j8 dc I I)<|dS (gD h 0 (vS AB.1.1 ht.length AB.1.2) U bU (ay 8 U) R U dc U)<|dP 4 [] (mc 0 U mn) ?_
 obtain ⟨hu,A⟩:=aC q.av h I
 obtain ⟨K,O⟩:=aC ha2 h I
 have V:(List.zipWith bW q.av ha2)[h]? =some (bW hu K):=cv A O
 refine dS (IA h U (ay 16 U) j8 dc I I)<|dS (gD h 0 (vS K.1.1 hu.length K.1.2) U bU (ay 16 U) V U dc U)<|dP 1 [] mn ?_
 have A0:=hin.ek _ _ _ H N
 have C0:=A0.ly
 have AA:=hin2.ek _ _ _ A O
 have CC:=AA.ly
 have C2:=AK.2.2.2.2 ht (aM H)
 refine dP 1 [] mn ?_
 refine cx<|RK k<|ck U (aX fun A3=>?_) (aW fun A3=>?_)
 ·refine WS fun _ l=>rP 1 [] mn ?_
  refine RK l<|ar<|Q1 hQ U U U ?_
  first|exact cB (bj (fun e=>by cases e; first|exact D rfl|exact E rfl|exact F rfl|exact G rfl|exact M rfl)).symm|exact cB (cO (lv D E F G (cR I C I))).symm|exact cB (bj (fun z=>by cases z; rw [H] at A; cases A; first|omega|(rw [hd] at B; cases B; exact L rfl))).symm
 refine WK j<|WS fun _ m=>rP 1 [] mn ?_
 refine RK m<|aH ?_
 have J:(0≤ht.length)∧(ht.take 0=hu.take 0):=by exact ⟨Nat.zero_le _,rfl⟩
 refine bS (ι:={z:Nat // (z≤ht.length)∧(ht.take z=hu.take z)}) [2,3,5] [0,1,2,3,4,5,6,7,8,9,10,11,12,13,14,15,16,17] U U (fun z=>[(6,(vI (z.1:Int)))]) (fun z=>[]) (fun _=>rfl) (fun _=>rfl) (fun z=>ht.length-z.1) ⟨0,J⟩ (bD U) (aR [0,1,2,3,4,5,6,7,8,9,10,11,12,13,14,15,16,17]) ?_
 clear J
 rintro ⟨i,⟨Ck,S⟩⟩ J22 Y
 try dsimp only
 refine aq fun _ n=>WS fun _ o=>eV 4 [] (mc 1 U mn) U<|rS (IA h U (ay 8 U) j8 dc I I)<|rS (gD h 0 (vS AB.1.1 ht.length AB.1.2) U bU (ay 8 U) R U dc U)<|rP 2 [] mn ?_
 refine RK o<|bR U (aU fun A2=>?_) (aT fun A2=>?_)
 ·refine bQ<|ag<|ag<|aI<|aP<|KK g<|aw<|rP 3 [] mn ?_
  refine aK ?_
  have x:(vI (((h+1):Nat):Int))=(vI ((h:Int)+1)):=by exact cI I
  refine bu (X ⟨(h+1),⟨I,iX C H A (cR I S I)⟩⟩ _ _ _ U os (dp.cons U<|dp.cons U<|bw U x<|dp.nil _) (aR [0,1,2,3,4,5,6,7,8,9,10,11,12,13,14,15,16,17]))
 refine WK n<|aq fun _ p=>aH<|aq fun _ s=>cW cg 18 kr<|kv 3 [] (mc 1 U mn) U<|dS (IA h U (ay 8 U) j8 dc I I)<|dS (gD h 0 (vS AB.1.1 ht.length AB.1.2) U bU (ay 8 U) R U dc U)<|dP 1 [] mn ?_
 obtain ⟨d,hd⟩:=aC ht i I
 obtain ⟨da,y⟩:=aC AB.2 i I
 have B3:(List.zipWith ak.cells ht AB.2)[i]? =some (ak.cells d da):=cv hd y
 refine dS (IA i U (show fY _ (rd AB.1.1 ht.length 7 (List.zipWith ak.cells ht AB.2)).holds from (bX 9 U (a_ H N bY))) mM dc I I)<|dS (jD i 0 (aG.cells (aG.mk d.Out d.cJ d.Time (cL.mk d.aY.Start d.aY.gj (bE.mk da.1 d.aY.aa.length da.2)))) U bU (show fY _ (rd AB.1.1 ht.length 7 (List.zipWith ak.cells ht AB.2)).holds from (bX 9 U (a_ H N bY))) B3 U dc U U)<|kv 3 [] (mc 0 U mn) U<|dS (IA h U (ay 16 U) j8 dc I I)<|dS (gD h 0 (vS K.1.1 hu.length K.1.2) U bU (ay 16 U) V U dc U)<|dP 1 [] mn ?_
 obtain ⟨e,B⟩:=aC hu i I
 obtain ⟨ea,T⟩:=aC K.2 i I
 have AC:(List.zipWith ak.cells hu K.2)[i]? =some (ak.cells e ea):=cv B T
 refine dS (IA i U (show fY _ (rd K.1.1 hu.length 7 (List.zipWith ak.cells hu K.2)).holds from (bX 17 U (a_ A O bY))) mM dc I I)<|dS (jD i 0 (aG.cells (aG.mk e.Out e.cJ e.Time (cL.mk e.aY.Start e.aY.gj (bE.mk ea.1 e.aY.aa.length ea.2)))) U bU (show fY _ (rd K.1.1 hu.length 7 (List.zipWith ak.cells hu K.2)).holds from (bX 17 U (a_ A O bY))) AC U dc U U)<|dS (CL (oc d da.1 da.2 e ea.1 ea.2 (by exact A0.sig d (aM hd)) (by exact AA.sig e (aM B))) (aD (show fY _ (rd da.1 d.aY.aa.length 2 (d.aY.aa.map aF.cells)).holds from (bX 9 U (a_ H N (dh _ (a_ hd y (by simp [ak.e_]))))))<|aD (show fY _ (rd ea.1 e.aY.aa.length 2 (e.aY.aa.map aF.cells)).holds from (bX 17 U (a_ A O (dh _ (a_ B T (by simp [ak.e_]))))))<|aL) U)<|dP 1 [] mn ?_
 refine cx<|RK s<|bR U (aW fun L=>?_) (aX fun L=>?_)
 ·refine cj<|aP<|KK p<|aw<|rP 3 [] mn ?_
  refine aK ?_
  have w:(vI (((i+1):Nat):Int))=(vI ((i:Int)+1)):=by exact cI I
  refine bu (Y ⟨(i+1),⟨I,iX S hd B L⟩⟩ _ _ _ U os (cP 3<|bw U w<|dp.nil _) (aR [0,1,2,3,4,5,6,7,8,9,10,11,12,13,14,15,16,17]))
 refine WS fun _ u=>rP 1 [] mn ?_
 refine RK u<|ar<|Q1 hQ U U U ?_
 first|exact cB (bj (fun e=>by cases e; first|exact D rfl|exact E rfl|exact F rfl|exact G rfl|exact M rfl)).symm|exact cB (cO (lv D E F G (cR I C I))).symm|exact cB (bj (fun z=>by cases z; rw [H] at A; cases A; first|omega|(rw [hd] at B; cases B; exact L rfl))).symm
end
section
open Go.RowKit
theorem KH (n lo hi:Int) (g1 g2:Nat):
 dB Tryz.prog 77 [(vI n),(vP g1),(vP g2)] [(cz g1 3 [(vI lo)]),(cz g2 3 [(vI hi)])] (vB (decide (n<lo∨hi<n))):=by
 refine bJ kr Tryz.func77 U U fun D Q hQ hN=>?_
 try dsimp only
 refine WS fun _ B=>bI 1 U<|RK B<|WS fun _ A=>rP 4 [] (mr 0 U mn) ?_
 refine bT (t:=8) U (aT fun C=>?_) (aU fun C=>?_)
 ·refine rP 5 [] mn ?_
  refine RK A<|ar<|Q1 hQ U U U ?_
  exact cB (cO I).symm
 refine rP 5 [] (mr 1 U mn) ?_
 refine RK A<|ar<|Q1 hQ U U U ?_
 exact cB (gU.2 I)
theorem ij (lo hi:Int) (l:List Int) (lA:OA) (lC:Nat) (hlen:l.length≤1000000):
 dB Tryz.prog 48 [(vI lo),(vI hi),(vS lA l.length lC)] [(rd lA l.length 1 (l.map iC))] (vB (o5 lo hi l)):=by
 refine bJ kr Tryz.func48 U U fun F Q hQ hN=>?_
 try dsimp only
 refine WS fun _ D=>wM U U fun A=>wM U U fun B=>bI 1 U<|RK D<|WS fun _ E=>rP 1 [] mn ?_
 refine rS (FU U) ?_
 refine rS (CL (qd l lA lC (Value.func (.func 77) [].toArray [(vP A),(vP B)].toArray) (fun C=>(decide (C<lo∨hi<C))) (dE [(cz A 3 [(vI lo)]),(cz B 3 [(vI hi)])]) (by intro C _; exact k7 (fi:=[]) (ca:=[(vP A),(vP B)]) (j1 (KH C lo hi A B) (bo [0,1]))) hlen) (dM 2 U U<|aD (jZ (bo [1,0]))<|aL) U) ?_
 refine rP 2 [] mn ?_
 refine RK E<|ar ?_
 exact Q1 hQ U U U U
theorem ud (o fx:Bool) (tm:ai) (rv:cL):
 dB Tryz.prog 69 [(vA (aG.cells (aG.mk o fx tm rv)))] [] (vB (decide (o=false∧fx=false))):=by
 refine bJ kr Tryz.func69 U U fun E Q hQ hN=>?_
 try dsimp only
 refine WS fun _ B=>eJ U fun D=>bI 1 U<|RK B<|WS fun _ A=>rP 4 [] (mc 0 U mn) ?_
 refine cG (t:=6) U (fun C=>?_) (fun C=>?_)
 ·rw [Bool.not_eq_false'] at C
  refine rP 5 [] mn ?_
  refine RK A<|ar<|Q1 hQ U U U ?_
  clear hQ hN A B
  refine cB ?_
  (simp_all; done)
 rw [Bool.not_eq_true'] at C
 refine rP 5 [] (mc 0 U mn) ?_
 refine RK A<|ar<|Q1 hQ U U U ?_
 clear hQ hN A B
 refine cB ?_
 (simp_all; done)
theorem NJ (l:List aZ) (lA:OA) (lC:Nat) (f:Value) (p:Int→aZ→Bool) (X:aA) (hf: ∀ x0 x1,(∃ i_:Nat,x0=(i_:Int)∧l[i_]? =some x1)→D4 Tryz.prog f [.int .i64 x0,.agg (aZ.cells x1).toArray] [X] (.bool (p x0 x1))) (hlen:l.length≤1000000):
 nG Tryz.prog 67 [(vS lA l.length lC),f] [(rd lA l.length 4 (l.map aZ.cells)),X] (fun (x:(OA)×Nat)=>(vS x.1 ((mh (ir l p) l.length).length) x.2)) (fun (x:(OA)×Nat)=>True) (fun (x:(OA)×Nat)=>[(own x.1 x.2 3 1 ((mh (ir l p) l.length).map iC))]):=by
 refine eO kr Tryz.func67 U U fun Z Q hQ hN=>?_
 try dsimp only
 refine WS fun _ M=>bI 1 U<|RK M<|WS fun _ N=>bI 1 U<|RK N<|aq fun _ O=>WS fun _ R=>rP 3 [] mn ?_
 refine RK R<|aH<|eX 3 1 ?_
 have A:(0≤l.length):=by exact Nat.zero_le _
 refine bS (ι:={z:Nat×(OA)×Nat // (z.1≤l.length)}) [1,8,9] [1,2] U U (fun z=>[(5,(vS z.1.2.1 ((mh (ir l p) z.1.1).length) z.1.2.2)),(10,(vI (z.1.1:Int)))]) (fun z=>[(own z.1.2.1 z.1.2.2 3 1 ((mh (ir l p) z.1.1).map iC))]) (fun _=>rfl) (fun _=>rfl) (fun z=>l.length-z.1.1) ⟨(0,none,0),A⟩ (bD U) (aR [1,2,0]) ?_
 clear A
 rintro ⟨⟨i,a,c⟩,C⟩ J5 D
 try dsimp only at C
 try dsimp only
 refine WS fun _ S=>rP 1 [] mn ?_
 refine RK S<|aq fun _ T=>bR U (aU fun Y=>?_) (aT fun Y=>?_)
 ·refine bQ<|ag<|ag<|aI<|KK O<|WS fun _ G=>?_
  rw [show (mh (ir l p) i)=(mh (ir l p) l.length) from by rw [show i=l.length by omega]]
  refine rP 2 [] mn ?_
  refine RK G<|ar<|LX hQ (a,c) [2] [] mn U U U U ?_
  trivial
 refine WK T<|aq fun _ H=>aH<|WS fun _ E=>rP 1 [] mn ?_
 obtain ⟨x,hx⟩:=aC l i I
 have AA:=bO aZ.cells hx
 refine rS (IA i U (ay 0 U) C5 dc I I)<|rS (jD i 0 (aZ.cells x) U bU (ay 0 U) AA U dc U U)<|AL U Ql fun V=>bI 1 U<|eN U RL U<|RK E<|WS fun _ F=>rP 3 [] (mc 0 U mn) ?_
 refine rS (SX (qi U U U (hf (i:Int) x ⟨_,U,hx⟩) (bo [2])) U U)<|RK F<|bR U (fun B=>?_) (fun B=>?_)
 ·refine cj<|aP<|KK H<|aw<|rP 2 [] mn ?_
  refine aK ?_
  rw [show mh (ir l p) i=mh (ir l p) (i+1) from (sY (by rw [sw hx]; simpa using B)).symm]
  have J:(vI (((i+1):Nat):Int))=(vI ((i:Int)+1)):=by exact cI I
  refine bu (D ⟨((i+1),a,c),(by first|omega|(simp only []; omega))⟩ _ _ _ U os (cP 4<|bw U J<|dp.nil _) (aR [1,2,3]))
 refine aw<|rP 2 [] mn ?_
 refine ew (xs:=[.tmp 20]) (cs:=[(vI (i:Int))]) U dy j7 U U U U (by simp [Value.cells]) U U fun W=>?_
 refine ed (es2:=(List.map iC (mh (ir l p) (i+1)))) (m':=(mh (ir l p) (i+1)).length) 4 U U U te U U sm (bx (es:=List.map iC [(i:Int)]) 0 U U (by simp [bP]) U) (lU _) (by have:=qv (P:=ir l p) (n:=i); omega) (by have:=qv (P:=ir l p) (n:=i); simp only [maxLen]; omega) (by rw [wW (by rw [sw hx]; exact B)]; simp) sm U fun K L=>?_
 try dsimp only
 refine bI 1 U<|aK<|aP<|KK H<|aw<|rP 2 [] mn ?_
 refine aK ?_
 have AB:(vI (((i+1):Nat):Int))=(vI ((i:Int)+1)):=by exact cI I
 refine bu (D ⟨((i+1),K,L),(by first|omega|(simp only []; omega))⟩ _ _ _ U os (cP 4<|bw U AB<|dp.nil _) (aR [2,3,4]))
theorem Ak (l:List br) (lA:OA) (lC:Nat) (f:Value) (p:Int→br→Bool) (X:aA) (hf: ∀ x0 x1,(∃ i_:Nat,x0=(i_:Int)∧l[i_]? =some x1)→D4 Tryz.prog f [.int .i64 x0,.agg (br.cells x1).toArray] [X] (.bool (p x0 x1))) (hlen:l.length≤1000000):
 nG Tryz.prog 41 [(vS lA l.length lC),f] [(rd lA l.length 5 (l.map br.cells)),X] (fun (x:(OA)×Nat)=>(vS x.1 ((mh (ir l p) l.length).length) x.2)) (fun (x:(OA)×Nat)=>True) (fun (x:(OA)×Nat)=>[(own x.1 x.2 3 1 ((mh (ir l p) l.length).map iC))]):=by
 refine eO kr Tryz.func41 U U fun Z Q hQ hN=>?_
 try dsimp only
 refine WS fun _ M=>bI 1 U<|RK M<|WS fun _ N=>bI 1 U<|RK N<|aq fun _ O=>WS fun _ R=>rP 3 [] mn ?_
 refine RK R<|aH<|eX 3 1 ?_
 have A:(0≤l.length):=by exact Nat.zero_le _
 refine bS (ι:={z:Nat×(OA)×Nat // (z.1≤l.length)}) [1,8,9] [1,2] U U (fun z=>[(5,(vS z.1.2.1 ((mh (ir l p) z.1.1).length) z.1.2.2)),(10,(vI (z.1.1:Int)))]) (fun z=>[(own z.1.2.1 z.1.2.2 3 1 ((mh (ir l p) z.1.1).map iC))]) (fun _=>rfl) (fun _=>rfl) (fun z=>l.length-z.1.1) ⟨(0,none,0),A⟩ (bD U) (aR [1,2,0]) ?_
 clear A
 rintro ⟨⟨i,a,c⟩,C⟩ J5 D
 try dsimp only at C
 try dsimp only
 refine WS fun _ S=>rP 1 [] mn ?_
 refine RK S<|aq fun _ T=>bR U (aU fun Y=>?_) (aT fun Y=>?_)
 ·refine bQ<|ag<|ag<|aI<|KK O<|WS fun _ G=>?_
  rw [show (mh (ir l p) i)=(mh (ir l p) l.length) from by rw [show i=l.length by omega]]
  refine rP 2 [] mn ?_
  refine RK G<|ar<|LX hQ (a,c) [2] [] mn U U U U ?_
  trivial
 refine WK T<|aq fun _ H=>aH<|WS fun _ E=>rP 1 [] mn ?_
 obtain ⟨x,hx⟩:=aC l i I
 have AA:=bO br.cells hx
 refine rS (IA i U (ay 0 U) D_ dc I I)<|rS (jD i 0 (br.cells x) U bU (ay 0 U) AA U dc U U)<|AL U E7 fun V=>bI 1 U<|eN U Jj U<|RK E<|WS fun _ F=>rP 3 [] (mc 0 U mn) ?_
 refine rS (SX (qi U U U (hf (i:Int) x ⟨_,U,hx⟩) (bo [2])) U U)<|RK F<|bR U (fun B=>?_) (fun B=>?_)
 ·refine cj<|aP<|KK H<|aw<|rP 2 [] mn ?_
  refine aK ?_
  rw [show mh (ir l p) i=mh (ir l p) (i+1) from (sY (by rw [sw hx]; simpa using B)).symm]
  have J:(vI (((i+1):Nat):Int))=(vI ((i:Int)+1)):=by exact cI I
  refine bu (D ⟨((i+1),a,c),(by first|omega|(simp only []; omega))⟩ _ _ _ U os (cP 4<|bw U J<|dp.nil _) (aR [1,2,3]))
 refine aw<|rP 2 [] mn ?_
 refine ew (xs:=[.tmp 20]) (cs:=[(vI (i:Int))]) U dy j7 U U U U (by simp [Value.cells]) U U fun W=>?_
 refine ed (es2:=(List.map iC (mh (ir l p) (i+1)))) (m':=(mh (ir l p) (i+1)).length) 4 U U U te U U sm (bx (es:=List.map iC [(i:Int)]) 0 U U (by simp [bP]) U) (lU _) (by have:=qv (P:=ir l p) (n:=i); omega) (by have:=qv (P:=ir l p) (n:=i); simp only [maxLen]; omega) (by rw [wW (by rw [sw hx]; exact B)]; simp) sm U fun K L=>?_
 try dsimp only
 refine bI 1 U<|aK<|aP<|KK H<|aw<|rP 2 [] mn ?_
 refine aK ?_
 have AB:(vI (((i+1):Nat):Int))=(vI ((i:Int)+1)):=by exact cI I
 refine bu (D ⟨((i+1),K,L),(by first|omega|(simp only []; omega))⟩ _ _ _ U os (cP 4<|bw U AB<|dp.nil _) (aR [2,3,4]))
end
section
open Go.RowKit
theorem Kq (i:Int) (f:aZ) (j:cS) (kA:OA) (kC:Nat) (cA:OA) (cC:Nat) (bA:OA) (bC:Nat) (slA:OA) (slC:Nat) (drA:OA) (drC:Nat) (heA:OA) (heC:Nat) (faA:OA) (faC:Nat) (prA:OA) (prC g1:Nat) (hk:0≤f.Kind∧f.Kind≤255):
 dB Tryz.prog 68 [(vI i),(vA (aZ.cells f)),(vP g1)] [(cz g1 36 (gh.cells (nt j kA kC cA cC bA bC slA slC drA drC heA heC faA faC prA prC)))] (vB (decide (¬ oY j.Race.ao.cf f))):=by
 refine bJ kr Tryz.func68 U U fun V Q hQ hN=>?_
 try dsimp only
 refine WS fun _ N=>eJ U fun AA=>bI 1 U<|RK N<|WS fun _ O=>eV 5 [] (mr 1 U mn) U<|RK O<|aq fun _ D=>WS fun _ P=>rP 2 [] (mc 0 U mn) ?_
 refine rS (BI U m8)<|RK P<|bR U (aU fun A=>?_) (aT fun A=>?_)
 ·refine WK D<|WS fun _ B=>rP 2 [] (mc 0 U mn) ?_
  refine rS (SX (oG (m:=f.Kind) U U HU qn (lE (by first|assumption|omega))) U U)<|ew (xs:=[.tmp 16]) (cs:=[(vI f.Kind)]) U dy j7 U U U U (by simp [Value.cells]) U U fun F=>?_
  refine rS (CL (dB.eq (ij 1 3 ([f.Kind]) (some ⟨F,0,none⟩) 1 (by (simp; done))) cy) (aD (bx 0 U U (by simp [bP]) U)<|aL) U) ?_
  refine rP 2 [] mn ?_
  refine bT (t:=20) U (aX fun K=>?_) (aW fun K=>?_)
  ·refine rP 24 [] mn ?_
   refine RK B<|ar<|Q1 hQ U U U ?_
   (refine cB (cO ?_).symm; (rw [uP A]; omega))
  refine rP 4 [] (mc 1 U mn) ?_
  refine ew (xs:=[.tmp 22,.tmp 24]) (cs:=[(vI f.mN),(vI f.To)]) U dy j7 U U U U (by simp [Value.cells]) U U fun G=>?_
  refine rS (CL (dB.eq (ij 0 86400000 ([f.mN,f.To]) (some ⟨G,0,none⟩) 2 (by (simp; done))) pw) (aD (bx 0 U U (by simp [bP]) U)<|aL) U) ?_
  refine rP 3 [] mn ?_
  refine bT (t:=29) U (aX fun L=>?_) (aW fun L=>?_)
  ·refine rP 15 [] mn ?_
   refine RK B<|ar<|Q1 hQ U U U ?_
   (refine cB (cO ?_).symm; (rw [uP A]; omega))
  refine rP 7 [] (mc 2 U mn) ?_
  refine bT (t:=36) U (aT fun M=>?_) (aU fun M=>?_)
  ·refine rP 8 [] mn ?_
   refine RK B<|ar<|Q1 hQ U U U ?_
   (refine cB (cO ?_).symm; (rw [uP A]; omega))
  refine rP 3 [] (mc 2 U mn) ?_
  refine ew (xs:=[.tmp 39]) (cs:=[(vI f.ig)]) U dy j7 U U U U (by simp [Value.cells]) U U fun H=>?_
  refine rS (CL (dB.eq (ij 0 j.Race.ao.cf ([f.ig]) (some ⟨H,0,none⟩) 1 (by (simp; done))) cy) (aD (bx 0 U U (by simp [bP]) U)<|aL) U) ?_
  refine rP 3 [] mn ?_
  refine RK B<|ar<|Q1 hQ U U U ?_
  (refine cB (decide_not.symm.trans (gU.2 ?_)); (rw [uP A]; omega))
 refine aw<|bI 1 U<|RK D<|WS fun _ C=>rP 2 [] (mc 0 U mn) ?_
 refine rS (SX (oG (m:=f.Kind) U U HU qn (lE (by first|assumption|omega))) U U)<|ew (xs:=[.tmp 16]) (cs:=[(vI f.Kind)]) U dy j7 U U U U (by simp [Value.cells]) U U fun R=>?_
 refine rS (CL (dB.eq (ij 1 3 ([f.Kind]) (some ⟨R,0,none⟩) 1 (by (simp; done))) cy) (aD (bx 0 U U (by simp [bP]) U)<|aL) U) ?_
 refine rP 2 [] mn ?_
 refine bT (t:=20) U (aX fun T=>?_) (aW fun T=>?_)
 ·refine rP 24 [] mn ?_
  refine RK C<|ar<|Q1 hQ U U U ?_
  (refine cB (cO ?_).symm; (rw [uy A]; omega))
 refine rP 4 [] (mc 1 U mn) ?_
 refine ew (xs:=[.tmp 22,.tmp 24]) (cs:=[(vI f.mN),(vI f.To)]) U dy j7 U U U U (by simp [Value.cells]) U U fun S=>?_
 refine rS (CL (dB.eq (ij 0 86400000 ([f.mN,f.To]) (some ⟨S,0,none⟩) 2 (by (simp; done))) pw) (aD (bx 0 U U (by simp [bP]) U)<|aL) U) ?_
 refine rP 3 [] mn ?_
 refine bT (t:=29) U (aX fun AB=>?_) (aW fun AB=>?_)
 ·refine rP 15 [] mn ?_
  refine RK C<|ar<|Q1 hQ U U U ?_
  (refine cB (cO ?_).symm; (rw [uy A]; omega))
 refine rP 7 [] (mc 2 U mn) ?_
 refine bT (t:=36) U (aT fun J=>?_) (aU fun J=>?_)
 ·refine rP 8 [] mn ?_
  refine RK C<|ar<|Q1 hQ U U U ?_
  (refine cB (cO ?_).symm; (rw [uy A]; omega))
 refine rP 3 [] (mc 2 U mn) ?_
 refine ew (xs:=[.tmp 39]) (cs:=[(vI f.ig)]) U dy j7 U U U U (by simp [Value.cells]) U U fun E=>?_
 refine rS (CL (dB.eq (ij 0 0 ([f.ig]) (some ⟨E,0,none⟩) 1 (by (simp; done))) cy) (aD (bx 0 U U (by simp [bP]) U)<|aL) U) ?_
 refine rP 3 [] mn ?_
 refine RK C<|ar<|Q1 hQ U U U ?_
 (refine cB (decide_not.symm.trans (gU.2 ?_)); (rw [uy A]; omega))
theorem uH (fk fw:Int) (ff ft:Int) (al ah:Int) (ae an:Bool) (bl bh:Int) (be bn:Bool):
 dB Tryz.prog 115 [(vA (aZ.cells (aZ.mk fk fw ff ft))),(vA (kH.cells (kH.mk (ai.mk al ah) ae an))),(vA (kH.cells (kH.mk (ai.mk bl bh) be bn)))] [] (vB (decide (ah≤ft∧ff≤bl))):=by
 refine bJ kr Tryz.func115 U U fun G Q hQ hN=>?_
 try dsimp only
 refine WS fun _ B=>eJ U fun D=>eJ U fun E=>eJ U fun F=>bI 1 U<|RK B<|WS fun _ A=>rP 7 [0,1] (mc 1 U (mc 2 U mn)) ?_
 refine cG (t:=13) U (aU fun C=>?_) (aT fun C=>?_)
 ·refine rP 8 [] mn ?_
  refine RK A<|ar<|Q1 hQ U U U ?_
  exact cB (bj I).symm
 refine rP 8 [0,1] (mc 0 U (mc 2 U mn)) ?_
 refine RK A<|ar<|Q1 hQ U U U ?_
 exact cB (gU.2 I)
theorem F8 (fk fw:Int) (ff ft:Int) (al ah:Int) (ae an:Bool) (bl bh:Int) (be bn:Bool):
 dB Tryz.prog 119 [(vA (aZ.cells (aZ.mk fk fw ff ft))),(vA (kH.cells (kH.mk (ai.mk al ah) ae an))),(vA (kH.cells (kH.mk (ai.mk bl bh) be bn)))] [] (vB (decide (ai.mk (max al ff) (min ah ft)=ai.mk al ah))):=by
 refine bJ kr Tryz.func119 U U fun F Q hQ hN=>?_
 try dsimp only
 refine WS fun _ A=>eJ U fun C=>eJ U fun D=>eJ U fun E=>bI 1 U<|RK A<|WS fun _ B=>eV 5 [0,1] (mc 1 U (mc 2 U mn)) U<|rS (MX U)<|eV 5 [0,1] (mc 1 U (mc 2 U mn)) U<|rS (MN U)<|rS (SX (bp (xs:=[(0,.tmp 12),(1,.tmp 18)]) (cs:=(ai.cells (ai.mk (max al ff) (min ah ft)))) U U (bq gM U)) U U)<|bI 1 U<|rS (LP (ai.cells (ai.mk al ah)) 1 U bU U U U)<|rS (BI U (tU _ _ (ai.mk (max al ff) (min ah ft)) (ai.mk al ah)))<|rP 1 [] mn ?_
 refine RK B<|ar ?_
 exact Q1 hQ U U U U
theorem Ts (j:cS) (kA:OA) (kC:Nat) (cA:OA) (cC:Nat) (bA:OA) (bC:Nat) (slA:OA) (slC:Nat) (drA:OA) (drC:Nat) (heA:OA) (heC:Nat) (faA:OA) (faC:Nat) (prA:OA) (prC:Nat) (fk fw:Int) (ff ft:Int):
 dB Tryz.prog 116 [(vA (dg.cells (dg.mk (nt j kA kC cA cC bA bC slA slC drA drC heA heC faA faC prA prC)))),(vA (aZ.cells (aZ.mk fk fw ff ft)))] [] (vT [(vI (-1)),(vI j.Race.ao.cf)]):=by
 refine bJ kr Tryz.func116 U U fun E Q hQ hN=>?_
 try dsimp only
 refine WS fun _ A=>eJ U fun C=>eJ U fun D=>bI 2 U<|RK A<|aq fun _ B=>cW cg 7 kr<|dP 7 [] (mc 1 U mn) ?_
 refine cx<|RK B<|ar<|Q2 hQ U U U U ?_
 rfl
theorem Rq (j:cS) (kA:OA) (kC:Nat) (cA:OA) (cC:Nat) (bA:OA) (bC:Nat) (slA:OA) (slC:Nat) (drA:OA) (drC:Nat) (heA:OA) (heC:Nat) (faA:OA) (faC:Nat) (prA:OA) (prC:Nat) (fk fw:Int) (ff ft:Int) (hw:0≤fw∧fw≤1000000):
 dB Tryz.prog 117 [(vA (dg.cells (dg.mk (nt j kA kC cA cC bA bC slA slC drA drC heA heC faA faC prA prC)))),(vA (aZ.cells (aZ.mk fk fw ff ft)))] [] (vT [(vI (fw-1)),(vI fw)]):=by
 refine bJ kr Tryz.func117 U U fun E Q hQ hN=>?_
 try dsimp only
 refine WS fun _ A=>eJ U fun C=>eJ U fun D=>rP 2 [] mn ?_
 refine RK A<|aq fun _ B=>cW cg 7 kr ?_
 try dsimp only
 refine dP 7 [] (mc 0 U mn) ?_
 refine cx<|RK B<|ar<|Q2 hQ U U U U ?_
 rfl
theorem SO (j:cS) (kA:OA) (kC:Nat) (cA:OA) (cC:Nat) (bA:OA) (bC:Nat) (slA:OA) (slC:Nat) (drA:OA) (drC:Nat) (heA:OA) (heC:Nat) (faA:OA) (faC:Nat) (prA:OA) (prC:Nat) (fk fw:Int) (ff ft:Int):
 dB Tryz.prog 118 [(vA (dg.cells (dg.mk (nt j kA kC cA cC bA bC slA slC drA drC heA heC faA faC prA prC)))),(vA (aZ.cells (aZ.mk fk fw ff ft)))] [] (vT [(vI fw),(vI fw)]):=by
 refine bJ kr Tryz.func118 U U fun E Q hQ hN=>?_
 try dsimp only
 refine WS fun _ A=>eJ U fun C=>eJ U fun D=>bI 2 U<|RK A<|aq fun _ B=>cW cg 6 kr<|dP 6 [] (mc 0 U mn) ?_
 refine cx<|RK B<|ar<|Q2 hQ U U U U ?_
 rfl
theorem xD:
 dB Tryz.prog 94 [] [] (vA ((fj.cells (fj.mk Value.nilFunc Value.nilFunc))++(fj.cells (fj.mk (Value.func (.func 116) [].toArray [].toArray) (Value.func (.func 115) [].toArray [].toArray)))++(fj.cells (fj.mk (Value.func (.func 117) [].toArray [].toArray) (Value.func (.func 115) [].toArray [].toArray)))++(fj.cells (fj.mk (Value.func (.func 118) [].toArray [].toArray) (Value.func (.func 119) [].toArray [].toArray))))):=by
 refine bJ kr Tryz.func94 U U fun E Q hQ hN=>?_
 try dsimp only
 refine WS fun _ A=>AL U TF fun D=>RK A<|WS fun _ B=>bI 1 U<|RK B<|WS fun _ C=>bI 1 U<|rS (SX (bp (xs:=[(0,.func 116),(1,.tmp 2)]) (cs:=(fj.cells (fj.mk (Value.func (.func 116) [].toArray [].toArray) (Value.func (.func 115) [].toArray [].toArray)))) U U (bq I_ U)) U U)<|rP 1 [] mn ?_
 refine rS (SX (bp (xs:=[(0,.func 117),(1,.tmp 4)]) (cs:=(fj.cells (fj.mk (Value.func (.func 117) [].toArray [].toArray) (Value.func (.func 115) [].toArray [].toArray)))) U U (bq I_ U)) U U)<|rS (SX (bp (xs:=[(0,.func 118),(1,.func 119)]) (cs:=(fj.cells (fj.mk (Value.func (.func 118) [].toArray [].toArray) (Value.func (.func 119) [].toArray [].toArray)))) U U (bq I_ U)) U U)<|rS (SX (bp (xs:=[(1,.tmp 3),(2,.tmp 5),(3,.tmp 6)]) (cs:=((fj.cells (fj.mk Value.nilFunc Value.nilFunc))++(fj.cells (fj.mk (Value.func (.func 116) [].toArray [].toArray) (Value.func (.func 115) [].toArray [].toArray)))++(fj.cells (fj.mk (Value.func (.func 117) [].toArray [].toArray) (Value.func (.func 115) [].toArray [].toArray)))++(fj.cells (fj.mk (Value.func (.func 118) [].toArray [].toArray) (Value.func (.func 119) [].toArray [].toArray))))) U U (bq Te U)) U U)<|eN U Ti U<|RK C<|ar<|Dg hQ [0] (mc 0 U mn) U ?_
 rfl
theorem Cd (l:List aZ) (lA:OA) (lC:Nat) (f:aZ) (hlen:l.length≤1000000):
 dB Tryz.prog 65 [(vS lA l.length lC),(vA (aZ.cells f))] [(rd lA l.length 4 (l.map aZ.cells))] (vI (oV l f)):=by
 refine bJ kr Tryz.func65 U U fun AA Q hQ hN=>?_
 try dsimp only
 refine WS fun _ J=>eJ U fun T=>bI 1 U<|RK J<|aq fun _ K=>WS fun _ L=>rP 3 [] mn ?_
 refine RK L<|aH ?_
 have B:(0≤l.length)∧(∀ (q:Nat) y,q<0→l[q]? =some y→y≠f):=by exact ⟨Nat.zero_le _,fun q y hq=>absurd hq (Nat.not_lt_zero _)⟩
 refine bS (ι:={z:Nat // (z≤l.length)∧(∀ (q:Nat) y,q<z→l[q]? =some y→y≠f)}) [0,3,7] [0,1] U U (fun z=>[(8,(vI (z.1:Int)))]) (fun z=>[]) (fun _=>rfl) (fun _=>rfl) (fun z=>l.length-z.1) ⟨0,B⟩ (bD U) (aR [0,1]) ?_
 clear B
 rintro ⟨i,⟨P,A⟩⟩ J5 AB
 try dsimp only
 refine WS fun _ M=>rP 1 [] mn ?_
 refine RK M<|aq fun _ N=>bR U (aU fun S=>?_) (aT fun S=>?_)
 ·refine bQ<|ag<|ag<|aI<|KK K<|WS fun _ G=>rP 1 [] mn ?_
  refine RK G<|ar<|Q1 hQ U U U ?_
  exact cI (Nl A I).symm
 refine WK N<|aq fun _ O=>aH<|WS fun _ D=>bI 2 U<|RK D<|aq fun _ E=>cW cg 6 kr<|dP 3 [] (mc 0 U mn) ?_
 obtain ⟨x,hx⟩:=aC l i I
 have R:=bO aZ.cells hx
 refine dS (IA i U (ay 1 U) C5 dc I I)<|dS (jD i 0 (aZ.cells x) U bU (ay 1 U) R U dc U U)<|dS (BI U (RH _ _ f x))<|cx<|RK E<|ck U (aT fun C=>?_) (aU fun C=>?_)
 ·refine WS fun _ F=>rP 2 [] mn ?_
  refine RK F<|ar<|Q1 hQ U U U ?_
  exact cI (N3 hx C.symm A).symm
 refine cj<|aP<|KK O<|aw<|rP 2 [] mn ?_
 refine aK ?_
 have H:(vI (((i+1):Nat):Int))=(vI ((i:Int)+1)):=by exact cI I
 refine bu (AB ⟨(i+1),⟨I,fun q y hq hy=>by rcases Nat.lt_or_ge q i with c|c; exact A q y c hy; (obtain rfl:q=i:=by omega); rw [hx] at hy; cases hy; exact fun e=>C e.symm⟩⟩ _ _ _ rfl os (cP 3<|bw rfl H<|dp.nil _) (aR [0,1]))
end
section
open Go.RowKit
theorem Ty (l:List Int) (lA:OA) (lC:Nat) (hne:1≤l.length) (hlen:l.length≤1000000):
 dB Tryz.prog 122 [(vS lA l.length lC)] [(rd lA l.length 1 (l.map iC))] (vI (qg l)):=by
 refine bJ kr Tryz.func122 U U fun V Q hQ hN=>?_
 try dsimp only
 refine WS fun _ L=>bI 1 U<|RK L<|aq fun _ M=>WS fun _ N=>rP 3 [] mn ?_
 refine RK N<|ck U (aT fun AA=>?_) (aU fun AA=>?_)
 ·exfalso; omega
 refine WK M<|WS fun _ O=>rP 1 [] mn ?_
 obtain ⟨AB,B⟩:=aC l 0 I
 have hx0m:=bO iC B
 refine rS (IA 0 U (ay 0 U) dy dc U I)<|rS (gD 0 0 (vI AB) U bU (ay 0 U) hx0m U dc U)<|bI 1 U<|RK O<|aq fun _ P=>WS fun _ R=>rP 1 [] mn ?_
 refine RK R<|aH ?_
 have A:(1≤1∧1≤l.length):=by omega
 have S:(vI (qg (l.take 1)))=(vI AB):=by rw [HJ B]
 refine bS (ι:={z:Nat // (1≤z∧z≤l.length)}) [0] [0] U U (fun z=>[(3,(vI (qg (l.take z.1)))),(4,(vI (z.1:Int)))]) (fun z=>[]) (fun _=>rfl) (fun _=>rfl) (fun z=>l.length-z.1) ⟨1,A⟩ (bw U S<|bD U) (aR [0]) ?_
 clear A
 rintro ⟨i,T⟩ J9 K
 try dsimp only
 refine aq fun _ C=>WS fun _ D=>rP 4 [] mn ?_
 refine RK D<|bR U (aU fun J=>?_) (aT fun J=>?_)
 ·refine bQ<|ag<|ag<|aI<|KK P<|WS fun _ F=>rP 2 [] mn ?_
  refine RK F<|ar<|Q1 hQ U U U ?_
  rw [List.take_of_length_le I]
 refine WK C<|aq fun _ E=>aH<|aw<|rP 3 [] mn ?_
 obtain ⟨AB,B⟩:=aC l i I
 have hx0m:=bO iC B
 refine rS (IA i U (ay 0 U) dy dc I I)<|rS (gD i 0 (vI AB) U bU (ay 0 U) hx0m U dc U)<|rS (MN U)<|bI 1 U<|aK<|aP<|KK E<|aw<|rP 3 [] mn ?_
 refine aK ?_
 have G:(vI (qg (l.take (i+1))))=(vI (min (qg (l.take i)) AB)):=by rw [J1 B I]
 have H:(vI (((i+1):Nat):Int))=(vI ((i:Int)+1)):=by exact cI I
 refine bu (K ⟨(i+1),(by first|omega|(simp only []; omega))⟩ _ _ _ U os (dp.cons U<|bw U G<|bw U H<|dp.nil _) (aR [0]))
end
section
open Go.RowKit
theorem M1 (l:bH) (kA:OA) (kC:Nat) (az:List RA) (cA:OA) (cC:Nat) (bA:OA) (bC:Nat) (r:c_) (sgA:OA) (sgC:Nat) (hin:ej l az) (hsl:r.aa.length≤1000000):
 nG Tryz.prog 121 [(vA (cm.cells (jR l kA kC cA cC bA bC))),(vA (cL.cells (iN r sgA sgC)))] [(rd kA l.aO.length 9 (l.aO.map au.cells)),(rd cA l.aj.length 2 (List.zipWith ax.cells l.aj az)),(dE (bg ax.e_ l.aj az)),(rd bA l.ab.length 4 (l.ab.map bK.cells)),(rd sgA r.aa.length 2 (r.aa.map aF.cells))] (fun (x:(OA)×Nat)=>(vT [(vS x.1 ((kl l r).length) x.2),(vI (fu l r 0))])) (fun (x:(OA)×Nat)=>True) (fun (x:(OA)×Nat)=>[(own x.1 x.2 3 1 ((kl l r).map iC))]):=by
 have A4:=hin.rW
 have AC:=hin.sG
 have w:=hin.ly
 have y:=hin.se
 have A3:=hin.side
 refine eO kr Tryz.func121 U U fun w0 Q hQ hN=>?_
 try dsimp only
 refine WS fun _ g=>eJ U fun b2=>eJ U fun b3=>bI 2 U<|RK g<|WS fun _ P=>rP 2 [0,1] (mc 1 U (mc 0 U mn)) ?_
 refine cX (Np l kA kC az cA cC bA bC r sgA sgC hin hsl) (bo [2,3,4,5,6]) U fun y5 AA=>?_
 obtain ⟨V,v,e,d,F,Y,Z,a,B,AB,G,H,A,E,W,X⟩:=y5
 cases V
 ·obtain ⟨S,he⟩:=AA.2 rfl
  try dsimp only at S he
  subst S
  try dsimp only [cond_true,cond_false,List.cons_append,List.nil_append]
  refine bI 5 U<|RK P<|aq fun _ q=>WS fun _ K=>rP 2 [] mn ?_
  refine RK K<|bR U (aW fun J=>?_) (aX fun J=>?_)
  ·exact absurd J he
  refine WS fun _ L=>gT 3 1 ?_
  rw [show (own none 0 3 1 ([]:List (List Value)))=own none 0 3 1 ((kl l r).map iC) from by rw [vm he]; rfl]
  refine bI 1 U<|rP 2 [] mn ?_
  refine RK L<|ar ?_
  refine LX hQ (none,0) [0] [] mn U U U ?_ ?_
  ·first|rfl|(rw [he]; rfl)|(rw [vm he]; rfl)
  ·trivial
 obtain ⟨he,C,R,i,h,k⟩:=AA.1 rfl
 try dsimp only [cond_true,cond_false,List.cons_append,List.nil_append]
 dsimp only at C R i h k
 obtain ⟨f,D,AO,A0⟩:=jh he
 obtain ⟨m,T⟩:=eh f
 have j:=T.head
 unfold eZ at j
 have o:=mI m T D
 have A2:=D.time
 have A1:=D.len
 have s:(cu l l.ab.length).length=l.ab.length:=dv
 have t:(cN l r.aa r.aa.length).length=l.ab.length:=gS
 have AK:B.length=l.ab.length+1:=by have:=C.len; rw [show (dx l r).n=l.ab.length from dv] at this; exact this
 have z:A.length=l.ab.length+1:=by have:=R.len; rw [show (dx l r).n=l.ab.length from dv] at this; exact this
 refine bI 5 U<|RK P<|aq fun _ M=>WS fun _ N=>bI 1 U<|rS (SX (fM (r:= .bool false) U U U rm) U U)<|RK N<|cq U<|WK M<|WS fun _ O=>rP 1 [] mn ?_
 refine cX (vt (jR l kA kC cA cC bA bC) (iN r sgA sgC) (cu l l.ab.length) (cN l r.aa r.aa.length) d F a Y Z B A AB G H E W X e (by exact o) sd (by exact dv.symm) (by exact C) sd) (aD (aB (n:=(cu l l.ab.length).length) 1 U sm)<|aD (aB (n:=(cN l r.aa r.aa.length).length) 2 U (by rw [List.length_zipWith]; omega))<|aD (dR 3 U lL)<|aD (aB (n:=B.length) 4 U (by rw [List.length_zipWith]; omega))<|aD (dR 5 U lL)<|aD (aB (n:=A.length) 6 U (by rw [List.length_zipWith]; omega))<|aD (dR 7 U lL)<|dM 0 U U<|aL) U fun p u=>?_
 obtain ⟨b,c⟩:=p
 try dsimp only
 rw [show (l3 (cZ (jR l kA kC cA cC bA bC) (iN r sgA sgC) (cu l l.ab.length) (cN l r.aa r.aa.length)))=kl l r from (vi he).symm]
 refine rP 2 [] mn ?_
 refine RK O<|ar ?_
 refine LX hQ (b,c) [0] [] mn U U U ?_ ?_
 ·first|rfl|(rw [he]; rfl)|(rw [vm he]; rfl)
 ·trivial
end
section
open Go.RowKit
theorem mx (j:cS) (kA:OA) (kC:Nat) (az:List RA) (cA:OA) (cC:Nat) (bA:OA) (bC:Nat) (slA:OA) (slC:Nat) (drA:OA) (drC:Nat) (ha:List cD) (heA:OA) (heC:Nat) (faA:OA) (faC:Nat) (prA:OA) (prC:Nat) (r:c_) (sgA:OA) (sgC:Nat) (b:Int) (hin:gX j az ha) (hsl:r.aa.length≤1000000):
 dB Tryz.prog 95 [(vA (dg.cells (dg.mk (nt j kA kC cA cC bA bC slA slC drA drC heA heC faA faC prA prC)))),(vA (cL.cells (iN r sgA sgC))),(vI b)] [(rd kA j.Race.ao.aO.length 9 (j.Race.ao.aO.map au.cells)),(rd cA j.Race.ao.aj.length 2 (List.zipWith ax.cells j.Race.ao.aj az)),(dE (bg ax.e_ j.Race.ao.aj az)),(rd bA j.Race.ao.ab.length 4 (j.Race.ao.ab.map bK.cells)),(rd slA j.Race.aV.length 1 (j.Race.aV.map iC)),(rd drA j.Race.bV.length 1 (j.Race.bV.map iC)),(rd heA j.Race.av.length 1 (List.zipWith bW j.Race.av ha)),(dE (bg er j.Race.av ha)),(rd faA j.aS.length 4 (j.aS.map aZ.cells)),(rd prA j.aJ.length 5 (j.aJ.map br.cells)),(rd sgA r.aa.length 2 (r.aa.map aF.cells))] (vA (kH.cells (kH.mk (ai.mk ((cQ j.Race.ao r b).Lo) ((cQ j.Race.ao r b).Hi)) ((cQ j.Race.ao r b).each) ((cQ j.Race.ao r b).never)))):=by
 have Y:=hin.race
 have AA:=hin.race.line
 have c:=hin.race.g8
 have d:=hin.race.has
 have Z:=hin.race.g7
 have W:=hin.nf
 have X:=hin.np
 refine bJ kr Tryz.func95 U U fun i Q hQ hN=>?_
 try dsimp only
 refine WS fun _ O=>eJ U fun e=>eJ U fun f=>AL U oq fun g=>RK O<|aq fun _ P=>WS fun _ R=>rP 2 [] mn ?_
 refine RK R<|ck U (aT fun B=>?_) (aU fun B=>?_)
 ·refine WS fun _ S=>rP 4 [] (mc 1 U mn) ?_
  refine rS (SX (bp (xs:=[(0,.tmp 15),(1,.tmp 17)]) (cs:=(ai.cells (ai.mk r.Start r.Start))) U U (bq gM U)) U U)<|rS (SX (bp (xs:=[(0,.tmp 18),(1,.const (vB true)),(2,.const (vB false))]) (cs:=(kH.cells (kH.mk (ai.mk r.Start r.Start) true false))) U U (bq Fx U)) U U)<|eN U mO U<|RK S<|ar<|Dg hQ [0] (mc 0 U mn) U ?_
  (rw [G6 B])
 refine WK P<|WS fun _ T=>bI 3 U<|rS (LP (cm.cells (jR j.Race.ao kA kC cA cC bA bC)) 2 U bU U U U)<|eV 2 [] (mc 1 U mn) U<|rS (CL (CJ j.Race.ao kA kC az cA cC bA bC r sgA sgC b asm hsl) (bo [3,4,5,6,13]) U)<|bI 3 U<|AL U dU fun h=>eN U cT U<|bI 1 U<|RK T<|aq fun _ E=>WS fun _ F=>rP 2 [] mn ?_
 refine RK F<|ck U (aX fun A=>?_) (aW fun A=>?_)
 ·refine WS fun _ G=>rS (SX (bp (xs:=[(0,.const (vI 86400000)),(1,.const (vI 86400000))]) (cs:=(ai.cells (ai.mk 86400000 86400000))) U U (bq gM U)) U U)<|rS (SX (bp (xs:=[(0,.tmp 32),(1,.const (vB false)),(2,.const (vB true))]) (cs:=(kH.cells (kH.mk (ai.mk 86400000 86400000) false true))) U U (bq Fx U)) U U)<|qN U mO U<|RK G<|ar<|Dg hQ [0] (mc 1 U mn) U ?_
  (rw [BE B A])
 refine WK E<|WS fun _ H=>bI 3 U<|rS (LP (cm.cells (jR j.Race.ao kA kC cA cC bA bC)) 3 U bU U U U)<|rP 1 [] (mc 2 U mn) ?_
 refine cX (M1 j.Race.ao kA kC az cA cC bA bC r sgA sgC asm hsl) (bo [4,5,6,7,14]) U fun V a=>?_
 obtain ⟨M,N⟩:=V
 try dsimp only
 refine bI 5 U<|RK H<|WS fun _ AB=>rP 1 [] mn ?_
 refine rS (CL (Ty (kl j.Race.ao r) M N (by exact DU (vn A I)) (by have:=DW (l:=j.Race.ao) (r:=r); omega)) (aD (aB (n:=(kl j.Race.ao r).length) 0 U sm)<|aL) U) ?_
 refine bI 3 U<|RK AB<|aq fun _ D=>WS fun _ J=>rP 2 [] mn ?_
 refine RK J<|bR U (aW fun C=>?_) (aX fun C=>?_)
 ·refine WK D<|WS fun _ L=>rP 2 [] (mc 1 U mn) ?_
  refine rS (SX (bp (xs:=[(0,.tmp 50),(1,.tmp 51),(2,.const (vB false))]) (cs:=(kH.cells (kH.mk (dN j.Race.ao r b) (decide (b<(qg (kl j.Race.ao r)))) false))) U U (bq Fx U)) U U)<|GM U mO U<|RK L<|ar<|Dg hQ [0] (mc 2 U mn) U ?_
  (rw [zc B A (by rw [CP (vn A I)]; exact cO C),cO C])
 refine aw<|bI 1 U<|VU (ai.cells (ai.mk ((dN j.Race.ao r b).Lo) 86400000)) U FT U U<|RK D<|WS fun _ K=>rP 2 [] (mc 1 U mn) ?_
 refine rS (SX (bp (xs:=[(0,.tmp 50),(1,.tmp 51),(2,.const (vB false))]) (cs:=(kH.cells (kH.mk (ai.mk ((dN j.Race.ao r b).Lo) 86400000) (decide (b<(qg (kl j.Race.ao r)))) false))) U U (bq Fx U)) U U)<|GM U mO U<|RK K<|ar<|Dg hQ [0] (mc 2 U mn) U ?_
 (rw [wV B A (by rw [CP (vn A I)]; exact bj C),bj C])
end
section
open Go.RowKit
variable {E:fh} {ops:Array Oper} {D:List Deferred} {L:List (Nat×Value)} {C:List aA}
variable {dst:Option Tmp} {ty:TypeId} {ps:String} {af:Array Edge} {g:Option (Nat×Bool)}
theorem vN {x ix:Operand} {t e len sz:Nat} {cs vs:List Value} {j:Int} {kd:IntKind} (m:Nat) (hg:j_ ops L g=true) (hx:ev L x=some (.agg cs.toArray)) (hi:ev L ix=some (.int kd j)) (ht:tX E.P t=some (len,e)) (hk:tK E.P e=some (true,sz)) (hj:j=(m:Int)) (hm:m<len) (hv:(cs.drop (m*sz)).take sz=vs):
 SD E ops ⟨dst,.index t x ix,ty,ps,af,g⟩ D L C (.agg vs.toArray):=
 eL hg sm fun a w A _=>by
  have B:(0:Int)≤(m:Int)∧(m:Int)<(len:Int):=by omega
  subst hj
  simp [execOp,A.ev hx,A.ev hi,Instr.index,asIntOf,run_underlying (Ia ht),B,hm,(oW hk w).2,jd hk hv w]
end
section
open Go.RowKit
theorem K9 (j:cS) (kA:OA) (kC:Nat) (az:List RA) (cA:OA) (cC:Nat) (bA:OA) (bC:Nat) (slA:OA) (slC:Nat) (drA:OA) (drC:Nat) (ha:List cD) (heA:OA) (heC:Nat) (faA:OA) (faC:Nat) (prA:OA) (prC:Nat) (fw ff ft:Int) (d:ak) (sgA:OA) (sgC:Nat) (hin:gX j az ha) (hw:0≤fw∧fw≤1000000) (hsl:d.aY.aa.length≤1000000):
 dB Tryz.prog 62 [(vA (dg.cells (dg.mk (nt j kA kC cA cC bA bC slA slC drA drC heA heC faA faC prA prC)))),(vA (aZ.cells (aZ.mk 1 fw ff ft))),(vA (aG.cells (aG.mk d.Out d.cJ d.Time (iN d.aY sgA sgC))))] [(rd kA j.Race.ao.aO.length 9 (j.Race.ao.aO.map au.cells)),(rd cA j.Race.ao.aj.length 2 (List.zipWith ax.cells j.Race.ao.aj az)),(dE (bg ax.e_ j.Race.ao.aj az)),(rd bA j.Race.ao.ab.length 4 (j.Race.ao.ab.map bK.cells)),(rd slA j.Race.aV.length 1 (j.Race.aV.map iC)),(rd drA j.Race.bV.length 1 (j.Race.bV.map iC)),(rd heA j.Race.av.length 1 (List.zipWith bW j.Race.av ha)),(dE (bg er j.Race.av ha)),(rd faA j.aS.length 4 (j.aS.map aZ.cells)),(rd prA j.aJ.length 5 (j.aJ.map br.cells)),(rd sgA d.aY.aa.length 2 (d.aY.aa.map aF.cells))] (Value.int .u8 (hG j.Race.ao (aZ.mk 1 fw ff ft) d)):=by
 have l:=hin.race
 have h:=hin.race.line
 have r:=hin.race.g8
 have s:=hin.race.has
 have m:=hin.race.g7
 have i:=hin.nf
 have k:=hin.np
 refine bJ kr Tryz.func62 U U fun u Q hQ hN=>?_
 try dsimp only
 refine WS fun _ a=>eJ U fun n=>eJ U fun o=>eJ U fun p=>bI 1 U<|RK a<|aq fun _ b=>WS fun _ c=>eV 1 [] (mc 0 U mn) U<|rS (CL (ud d.Out d.cJ d.Time (iN d.aY sgA sgC)) (aL) U)<|rP 1 [] mn ?_
 refine RK c<|ck U (aX fun A=>?_) (aW fun A=>?_)
 ·refine WS fun _ e=>rP 1 [] mn ?_
  refine RK e<|ar<|Q1 hQ U U U ?_
  (rw [sh (fun q=>A q)]; done)
 refine WK b<|aq fun _ f=>dH cg [4,5] [] [] [0,1,2,3,4,5,6,7,8,9,10,11,12,13] [] U U U U U<|eS U (CL xD (aL) U)<|eS U (FA 0 U eU U)<|eS U (L1 (Value.int .u8 1) 1 U bU U U)<|eS U (SX (vN (vs:=(fj.cells (fj.mk (Value.func (.func 116) [].toArray [].toArray) (Value.func (.func 115) [].toArray [].toArray)))) 1 U U U Iz bU U dc U) U U)<|eo U<|cp U fun T9 g=>AL U Jl fun X=>aK (g _ _ (aR [1,2,3,4,5,6,7,8,9,10,11,12,13,14]) ?_)
 refine cp U fun T11 W=>eN U I5 U<|aK (W _ _ (aR [1,2,3,4,5,6,7,8,9,10,11,12,13,14]) ?_)
 refine fK U<|KK f<|WS fun _ V=>eV 4 [0,1,2] (mc 0 U (mc 3 U (mc 2 U mn))) U<|rS (CL (Ts j kA kC cA cC bA bC slA slC drA drC heA heC faA faC prA prC 1 fw ff ft) (aL) U)<|rP 5 [] mn ?_
 refine RK V<|aq fun _ AA=>k6 cg [0,1,2,3,4,5,6,7,8,9] [10,11,12,13] [false,false,false,false,false,false,false,false,false,false] [] [(cz X 179 (fj.cells (fj.mk (Value.func (.func 116) [].toArray [].toArray) (Value.func (.func 115) [].toArray [].toArray)))),(cz p 43 (aG.cells (aG.mk d.Out d.cJ d.Time (iN d.aY sgA sgC)))),(cz o 86 (aZ.cells (aZ.mk 1 fw ff ft))),(cz n 97 (dg.cells (dg.mk (nt j kA kC cA cC bA bC slA slC drA drC heA heC faA faC prA prC)))),(rd kA j.Race.ao.aO.length 9 (j.Race.ao.aO.map au.cells)).ro,(rd cA j.Race.ao.aj.length 2 (List.zipWith ax.cells j.Race.ao.aj az)).ro,(dE (bg ax.e_ j.Race.ao.aj az)).ro,(rd bA j.Race.ao.ab.length 4 (j.Race.ao.ab.map bK.cells)).ro,(rd slA j.Race.aV.length 1 (j.Race.aV.map iC)).ro,(rd drA j.Race.bV.length 1 (j.Race.bV.map iC)).ro,(rd heA j.Race.av.length 1 (List.zipWith bW j.Race.av ha)).ro,(dE (bg er j.Race.av ha)).ro,(rd faA j.aS.length 4 (j.aS.map aZ.cells)).ro,(rd prA j.aJ.length 5 (j.aJ.map br.cells)).ro,(rd sgA d.aY.aa.length 2 (d.aY.aa.map aF.cells)).ro] [] kr (aR [0,1,2,3,4,5,6,7,8,9,10,11,12,13,14]) (aR [])<|eS U (LW 3 U bU U U)<|eS U (FA 4 U eU U)<|eS U (LP (cL.cells (iN d.aY sgA sgC)) 1 U bU U U U)<|eS U (MV U)<|eS U (CL (mx j kA kC az cA cC bA bC slA slC drA drC ha heA heC faA faC prA prC d.aY sgA sgC (-1) hin hsl) (bo [4,5,6,7,8,9,10,11,12,13,14]) U)<|eS U (LW 3 U bU U U)<|eS U (FA 4 U eU U)<|eS U (LP (cL.cells (iN d.aY sgA sgC)) 1 U bU U U U)<|eS U (MV U)<|eS U (CL (mx j kA kC az cA cC bA bC slA slC drA drC ha heA heC faA faC prA prC d.aY sgA sgC j.Race.ao.cf hin hsl) (bo [4,5,6,7,8,9,10,11,12,13,14]) U)<|eo U<|fp [10,11] kr (cK ?_<|cK ?_<|gV)
 rotate_left 1
 ·refine NO U U [10,12,13] fun T14 P=>AL U oq fun Y=>RD P 1 U<|N1 10<|NO U U [12,13] fun T16 R=>AL U oq fun Z=>RD R 2 U<|N1 12<|NO U U [13] fun T18 S=>eN U mO U<|RD S 2 U<|N1 13<|NO U U [] fun T19 T=>qN U mO U<|RD T 2 U<|kG<|KK AA<|aq fun _ F=>aH<|WS fun _ E=>rP 3 [] (mc 0 U mn) ?_
  refine bT (t:=40) U (fun C=>?_) (fun C=>?_)
  ·refine bI 16 U<|RK E<|aN U<|WS fun _ J=>rP 1 [] mn ?_
   refine RK J<|ar<|Q1 hQ U U U ?_
   (rw [jK rfl A]; (rw [g6 (.inl C)]; done))
  refine rP 8 [0,1] (mc 0 U (mc 4 U mn)) ?_
  refine bT (t:=48) U (aT fun D=>?_) (aU fun D=>?_)
  ·refine bI 8 U<|RK E<|aN U<|WS fun _ K=>rP 1 [] mn ?_
   refine RK K<|ar<|Q1 hQ U U U ?_
   (rw [jK rfl A]; (rw [g6 (.inr (.inl D))]; done))
  refine rP 8 [0,1] (mc 1 U (mc 4 U mn)) ?_
  refine RK E<|ck U (aT fun B=>?_) (aU fun B=>?_)
  ·refine WS fun _ L=>rP 1 [] mn ?_
   refine RK L<|ar<|Q1 hQ U U U ?_
   (rw [jK rfl A]; (rw [g6 (.inr (.inr B))]; done))
  refine WS fun _ G=>rP 3 [] (mc 0 U mn) ?_
  refine cG (t:=59) U (fun AB=>?_) (fun AB=>?_)
  ·refine bI 8 U<|RK G<|cq U<|cj<|aP<|KK F<|WS fun _ O=>rP 1 [] mn ?_
   refine RK O<|ar<|Q1 hQ U U U ?_
   (rw [jK rfl A]; (rw [jM (Ba (by simpa using C) (by first|exact D|(simp only []; omega)) (by first|exact B|(simp only []; omega))) (fun q=>by rw [AB] at q; exact Bool.noConfusion q.1)]; done))
  refine eV 5 [0,1,2,3] (mc 2 U (mc 4 U (mc 0 U (mc 1 U mn)))) U<|rS (CL (uH 1 fw ff ft ((cQ j.Race.ao d.aY (-1)).Lo) ((cQ j.Race.ao d.aY (-1)).Hi) ((cQ j.Race.ao d.aY (-1)).each) ((cQ j.Race.ao d.aY (-1)).never) ((cQ j.Race.ao d.aY j.Race.ao.cf).Lo) ((cQ j.Race.ao d.aY j.Race.ao.cf).Hi) ((cQ j.Race.ao d.aY j.Race.ao.cf).each) ((cQ j.Race.ao d.aY j.Race.ao.cf).never)) (aL) U)<|rP 2 [] mn ?_
  refine RK G<|ck U (aT fun H=>?_) (aU fun H=>?_)
  ·refine WS fun _ M=>rP 1 [] mn ?_
   refine RK M<|ar<|Q1 hQ U U U ?_
   (rw [jK rfl A]; (rw [pq (Ba (by simpa using C) (by first|exact D|(simp only []; omega)) (by first|exact B|(simp only []; omega))) AB ((oM (show ¬ (1:Int)=3 by decide)).2 H)]; done))
  refine cj<|aP<|KK F<|WS fun _ N=>rP 1 [] mn ?_
  refine RK N<|ar<|Q1 hQ U U U ?_
  (rw [jK rfl A]; (rw [jM (Ba (by simpa using C) (by first|exact D|(simp only []; omega)) (by first|exact B|(simp only []; omega))) (fun q=>H ((oM (show ¬ (1:Int)=3 by decide)).1 q.2))]; done))
 refine NO U U [11,12,13] fun T14 P=>AL U oq fun Y=>RD P 1 U<|N1 11<|NO U U [12,13] fun T16 R=>AL U oq fun Z=>RD R 2 U<|N1 12<|NO U U [13] fun T18 S=>qN U mO U<|RD S 2 U<|N1 13<|NO U U [] fun T19 T=>eN U mO U<|RD T 2 U<|kG<|KK AA<|aq fun _ F=>aH<|WS fun _ E=>rP 3 [] (mc 1 U mn) ?_
 refine bT (t:=40) U (fun C=>?_) (fun C=>?_)
 ·refine bI 16 U<|RK E<|aN U<|WS fun _ J=>rP 1 [] mn ?_
  refine RK J<|ar<|Q1 hQ U U U ?_
  (rw [jK rfl A]; (rw [g6 (.inl C)]; done))
 refine rP 8 [0,1] (mc 1 U (mc 4 U mn)) ?_
 refine bT (t:=48) U (aT fun D=>?_) (aU fun D=>?_)
 ·refine bI 8 U<|RK E<|aN U<|WS fun _ K=>rP 1 [] mn ?_
  refine RK K<|ar<|Q1 hQ U U U ?_
  (rw [jK rfl A]; (rw [g6 (.inr (.inl D))]; done))
 refine rP 8 [0,1] (mc 0 U (mc 4 U mn)) ?_
 refine RK E<|ck U (aT fun B=>?_) (aU fun B=>?_)
 ·refine WS fun _ L=>rP 1 [] mn ?_
  refine RK L<|ar<|Q1 hQ U U U ?_
  (rw [jK rfl A]; (rw [g6 (.inr (.inr B))]; done))
 refine WS fun _ G=>rP 3 [] (mc 1 U mn) ?_
 refine cG (t:=59) U (fun AB=>?_) (fun AB=>?_)
 ·refine bI 8 U<|RK G<|cq U<|cj<|aP<|KK F<|WS fun _ O=>rP 1 [] mn ?_
  refine RK O<|ar<|Q1 hQ U U U ?_
  (rw [jK rfl A]; (rw [jM (Ba (by simpa using C) (by first|exact D|(simp only []; omega)) (by first|exact B|(simp only []; omega))) (fun q=>by rw [AB] at q; exact Bool.noConfusion q.1)]; done))
 refine eV 5 [0,1,2,3] (mc 2 U (mc 4 U (mc 1 U (mc 0 U mn)))) U<|rS (CL (uH 1 fw ff ft ((cQ j.Race.ao d.aY (-1)).Lo) ((cQ j.Race.ao d.aY (-1)).Hi) ((cQ j.Race.ao d.aY (-1)).each) ((cQ j.Race.ao d.aY (-1)).never) ((cQ j.Race.ao d.aY j.Race.ao.cf).Lo) ((cQ j.Race.ao d.aY j.Race.ao.cf).Hi) ((cQ j.Race.ao d.aY j.Race.ao.cf).each) ((cQ j.Race.ao d.aY j.Race.ao.cf).never)) (aL) U)<|rP 2 [] mn ?_
 refine RK G<|ck U (aT fun H=>?_) (aU fun H=>?_)
 ·refine WS fun _ M=>rP 1 [] mn ?_
  refine RK M<|ar<|Q1 hQ U U U ?_
  (rw [jK rfl A]; (rw [pq (Ba (by simpa using C) (by first|exact D|(simp only []; omega)) (by first|exact B|(simp only []; omega))) AB ((oM (show ¬ (1:Int)=3 by decide)).2 H)]; done))
 refine cj<|aP<|KK F<|WS fun _ N=>rP 1 [] mn ?_
 refine RK N<|ar<|Q1 hQ U U U ?_
 (rw [jK rfl A]; (rw [jM (Ba (by simpa using C) (by first|exact D|(simp only []; omega)) (by first|exact B|(simp only []; omega))) (fun q=>H ((oM (show ¬ (1:Int)=3 by decide)).1 q.2))]; done))
theorem I4 (j:cS) (kA:OA) (kC:Nat) (az:List RA) (cA:OA) (cC:Nat) (bA:OA) (bC:Nat) (slA:OA) (slC:Nat) (drA:OA) (drC:Nat) (ha:List cD) (heA:OA) (heC:Nat) (faA:OA) (faC:Nat) (prA:OA) (prC:Nat) (fw ff ft:Int) (d:ak) (sgA:OA) (sgC:Nat) (hin:gX j az ha) (hw:0≤fw∧fw≤1000000) (hsl:d.aY.aa.length≤1000000):
 dB Tryz.prog 62 [(vA (dg.cells (dg.mk (nt j kA kC cA cC bA bC slA slC drA drC heA heC faA faC prA prC)))),(vA (aZ.cells (aZ.mk 2 fw ff ft))),(vA (aG.cells (aG.mk d.Out d.cJ d.Time (iN d.aY sgA sgC))))] [(rd kA j.Race.ao.aO.length 9 (j.Race.ao.aO.map au.cells)),(rd cA j.Race.ao.aj.length 2 (List.zipWith ax.cells j.Race.ao.aj az)),(dE (bg ax.e_ j.Race.ao.aj az)),(rd bA j.Race.ao.ab.length 4 (j.Race.ao.ab.map bK.cells)),(rd slA j.Race.aV.length 1 (j.Race.aV.map iC)),(rd drA j.Race.bV.length 1 (j.Race.bV.map iC)),(rd heA j.Race.av.length 1 (List.zipWith bW j.Race.av ha)),(dE (bg er j.Race.av ha)),(rd faA j.aS.length 4 (j.aS.map aZ.cells)),(rd prA j.aJ.length 5 (j.aJ.map br.cells)),(rd sgA d.aY.aa.length 2 (d.aY.aa.map aF.cells))] (Value.int .u8 (hG j.Race.ao (aZ.mk 2 fw ff ft) d)):=by
 have l:=hin.race
 have h:=hin.race.line
 have r:=hin.race.g8
 have s:=hin.race.has
 have m:=hin.race.g7
 have i:=hin.nf
 have k:=hin.np
 refine bJ kr Tryz.func62 U U fun u Q hQ hN=>?_
 try dsimp only
 refine WS fun _ a=>eJ U fun n=>eJ U fun o=>eJ U fun p=>bI 1 U<|RK a<|aq fun _ b=>WS fun _ c=>eV 1 [] (mc 0 U mn) U<|rS (CL (ud d.Out d.cJ d.Time (iN d.aY sgA sgC)) (aL) U)<|rP 1 [] mn ?_
 refine RK c<|ck U (aX fun A=>?_) (aW fun A=>?_)
 ·refine WS fun _ e=>rP 1 [] mn ?_
  refine RK e<|ar<|Q1 hQ U U U ?_
  (rw [sh (fun q=>A q)]; done)
 refine WK b<|aq fun _ f=>dH cg [4,5] [] [] [0,1,2,3,4,5,6,7,8,9,10,11,12,13] [] U U U U U<|eS U (CL xD (aL) U)<|eS U (FA 0 U eU U)<|eS U (L1 (Value.int .u8 2) 1 U bU U U)<|eS U (SX (vN (vs:=(fj.cells (fj.mk (Value.func (.func 117) [].toArray [].toArray) (Value.func (.func 115) [].toArray [].toArray)))) 2 U U U Iz bU U dc U) U U)<|eo U<|cp U fun T9 g=>AL U Jl fun X=>aK (g _ _ (aR [1,2,3,4,5,6,7,8,9,10,11,12,13,14]) ?_)
 refine cp U fun T11 W=>eN U I5 U<|aK (W _ _ (aR [1,2,3,4,5,6,7,8,9,10,11,12,13,14]) ?_)
 refine fK U<|KK f<|WS fun _ V=>eV 4 [0,1,2] (mc 0 U (mc 3 U (mc 2 U mn))) U<|rS (CL (Rq j kA kC cA cC bA bC slA slC drA drC heA heC faA faC prA prC 2 fw ff ft hw) (aL) U)<|rP 5 [] mn ?_
 refine RK V<|aq fun _ AA=>k6 cg [0,1,2,3,4,5,6,7,8,9] [10,11,12,13] [false,false,false,false,false,false,false,false,false,false] [] [(cz X 179 (fj.cells (fj.mk (Value.func (.func 117) [].toArray [].toArray) (Value.func (.func 115) [].toArray [].toArray)))),(cz p 43 (aG.cells (aG.mk d.Out d.cJ d.Time (iN d.aY sgA sgC)))),(cz o 86 (aZ.cells (aZ.mk 2 fw ff ft))),(cz n 97 (dg.cells (dg.mk (nt j kA kC cA cC bA bC slA slC drA drC heA heC faA faC prA prC)))),(rd kA j.Race.ao.aO.length 9 (j.Race.ao.aO.map au.cells)).ro,(rd cA j.Race.ao.aj.length 2 (List.zipWith ax.cells j.Race.ao.aj az)).ro,(dE (bg ax.e_ j.Race.ao.aj az)).ro,(rd bA j.Race.ao.ab.length 4 (j.Race.ao.ab.map bK.cells)).ro,(rd slA j.Race.aV.length 1 (j.Race.aV.map iC)).ro,(rd drA j.Race.bV.length 1 (j.Race.bV.map iC)).ro,(rd heA j.Race.av.length 1 (List.zipWith bW j.Race.av ha)).ro,(dE (bg er j.Race.av ha)).ro,(rd faA j.aS.length 4 (j.aS.map aZ.cells)).ro,(rd prA j.aJ.length 5 (j.aJ.map br.cells)).ro,(rd sgA d.aY.aa.length 2 (d.aY.aa.map aF.cells)).ro] [] kr (aR [0,1,2,3,4,5,6,7,8,9,10,11,12,13,14]) (aR [])<|eS U (LW 3 U bU U U)<|eS U (FA 4 U eU U)<|eS U (LP (cL.cells (iN d.aY sgA sgC)) 1 U bU U U U)<|eS U (MV U)<|eS U (CL (mx j kA kC az cA cC bA bC slA slC drA drC ha heA heC faA faC prA prC d.aY sgA sgC (fw-1) hin hsl) (bo [4,5,6,7,8,9,10,11,12,13,14]) U)<|eS U (LW 3 U bU U U)<|eS U (FA 4 U eU U)<|eS U (LP (cL.cells (iN d.aY sgA sgC)) 1 U bU U U U)<|eS U (MV U)<|eS U (CL (mx j kA kC az cA cC bA bC slA slC drA drC ha heA heC faA faC prA prC d.aY sgA sgC fw hin hsl) (bo [4,5,6,7,8,9,10,11,12,13,14]) U)<|eo U<|fp [10,11] kr (cK ?_<|cK ?_<|gV)
 rotate_left 1
 ·refine NO U U [10,12,13] fun T14 P=>AL U oq fun Y=>RD P 1 U<|N1 10<|NO U U [12,13] fun T16 R=>AL U oq fun Z=>RD R 2 U<|N1 12<|NO U U [13] fun T18 S=>eN U mO U<|RD S 2 U<|N1 13<|NO U U [] fun T19 T=>qN U mO U<|RD T 2 U<|kG<|KK AA<|aq fun _ F=>aH<|WS fun _ E=>rP 3 [] (mc 0 U mn) ?_
  refine bT (t:=40) U (fun C=>?_) (fun C=>?_)
  ·refine bI 16 U<|RK E<|aN U<|WS fun _ J=>rP 1 [] mn ?_
   refine RK J<|ar<|Q1 hQ U U U ?_
   (rw [jI rfl A]; (rw [g6 (.inl C)]; done))
  refine rP 8 [0,1] (mc 0 U (mc 4 U mn)) ?_
  refine bT (t:=48) U (aT fun D=>?_) (aU fun D=>?_)
  ·refine bI 8 U<|RK E<|aN U<|WS fun _ K=>rP 1 [] mn ?_
   refine RK K<|ar<|Q1 hQ U U U ?_
   (rw [jI rfl A]; (rw [g6 (.inr (.inl D))]; done))
  refine rP 8 [0,1] (mc 1 U (mc 4 U mn)) ?_
  refine RK E<|ck U (aT fun B=>?_) (aU fun B=>?_)
  ·refine WS fun _ L=>rP 1 [] mn ?_
   refine RK L<|ar<|Q1 hQ U U U ?_
   (rw [jI rfl A]; (rw [g6 (.inr (.inr B))]; done))
  refine WS fun _ G=>rP 3 [] (mc 0 U mn) ?_
  refine cG (t:=59) U (fun AB=>?_) (fun AB=>?_)
  ·refine bI 8 U<|RK G<|cq U<|cj<|aP<|KK F<|WS fun _ O=>rP 1 [] mn ?_
   refine RK O<|ar<|Q1 hQ U U U ?_
   (rw [jI rfl A]; (rw [jM (Ba (by simpa using C) (by first|exact D|(simp only []; omega)) (by first|exact B|(simp only []; omega))) (fun q=>by rw [AB] at q; exact Bool.noConfusion q.1)]; done))
  refine eV 5 [0,1,2,3] (mc 2 U (mc 4 U (mc 0 U (mc 1 U mn)))) U<|rS (CL (uH 2 fw ff ft ((cQ j.Race.ao d.aY (fw-1)).Lo) ((cQ j.Race.ao d.aY (fw-1)).Hi) ((cQ j.Race.ao d.aY (fw-1)).each) ((cQ j.Race.ao d.aY (fw-1)).never) ((cQ j.Race.ao d.aY fw).Lo) ((cQ j.Race.ao d.aY fw).Hi) ((cQ j.Race.ao d.aY fw).each) ((cQ j.Race.ao d.aY fw).never)) (aL) U)<|rP 2 [] mn ?_
  refine RK G<|ck U (aT fun H=>?_) (aU fun H=>?_)
  ·refine WS fun _ M=>rP 1 [] mn ?_
   refine RK M<|ar<|Q1 hQ U U U ?_
   (rw [jI rfl A]; (rw [pq (Ba (by simpa using C) (by first|exact D|(simp only []; omega)) (by first|exact B|(simp only []; omega))) AB ((oM (show ¬ (2:Int)=3 by decide)).2 H)]; done))
  refine cj<|aP<|KK F<|WS fun _ N=>rP 1 [] mn ?_
  refine RK N<|ar<|Q1 hQ U U U ?_
  (rw [jI rfl A]; (rw [jM (Ba (by simpa using C) (by first|exact D|(simp only []; omega)) (by first|exact B|(simp only []; omega))) (fun q=>H ((oM (show ¬ (2:Int)=3 by decide)).1 q.2))]; done))
 refine NO U U [11,12,13] fun T14 P=>AL U oq fun Y=>RD P 1 U<|N1 11<|NO U U [12,13] fun T16 R=>AL U oq fun Z=>RD R 2 U<|N1 12<|NO U U [13] fun T18 S=>qN U mO U<|RD S 2 U<|N1 13<|NO U U [] fun T19 T=>eN U mO U<|RD T 2 U<|kG<|KK AA<|aq fun _ F=>aH<|WS fun _ E=>rP 3 [] (mc 1 U mn) ?_
 refine bT (t:=40) U (fun C=>?_) (fun C=>?_)
 ·refine bI 16 U<|RK E<|aN U<|WS fun _ J=>rP 1 [] mn ?_
  refine RK J<|ar<|Q1 hQ U U U ?_
  (rw [jI rfl A]; (rw [g6 (.inl C)]; done))
 refine rP 8 [0,1] (mc 1 U (mc 4 U mn)) ?_
 refine bT (t:=48) U (aT fun D=>?_) (aU fun D=>?_)
 ·refine bI 8 U<|RK E<|aN U<|WS fun _ K=>rP 1 [] mn ?_
  refine RK K<|ar<|Q1 hQ U U U ?_
  (rw [jI rfl A]; (rw [g6 (.inr (.inl D))]; done))
 refine rP 8 [0,1] (mc 0 U (mc 4 U mn)) ?_
 refine RK E<|ck U (aT fun B=>?_) (aU fun B=>?_)
 ·refine WS fun _ L=>rP 1 [] mn ?_
  refine RK L<|ar<|Q1 hQ U U U ?_
  (rw [jI rfl A]; (rw [g6 (.inr (.inr B))]; done))
 refine WS fun _ G=>rP 3 [] (mc 1 U mn) ?_
 refine cG (t:=59) U (fun AB=>?_) (fun AB=>?_)
 ·refine bI 8 U<|RK G<|cq U<|cj<|aP<|KK F<|WS fun _ O=>rP 1 [] mn ?_
  refine RK O<|ar<|Q1 hQ U U U ?_
  (rw [jI rfl A]; (rw [jM (Ba (by simpa using C) (by first|exact D|(simp only []; omega)) (by first|exact B|(simp only []; omega))) (fun q=>by rw [AB] at q; exact Bool.noConfusion q.1)]; done))
 refine eV 5 [0,1,2,3] (mc 2 U (mc 4 U (mc 1 U (mc 0 U mn)))) U<|rS (CL (uH 2 fw ff ft ((cQ j.Race.ao d.aY (fw-1)).Lo) ((cQ j.Race.ao d.aY (fw-1)).Hi) ((cQ j.Race.ao d.aY (fw-1)).each) ((cQ j.Race.ao d.aY (fw-1)).never) ((cQ j.Race.ao d.aY fw).Lo) ((cQ j.Race.ao d.aY fw).Hi) ((cQ j.Race.ao d.aY fw).each) ((cQ j.Race.ao d.aY fw).never)) (aL) U)<|rP 2 [] mn ?_
 refine RK G<|ck U (aT fun H=>?_) (aU fun H=>?_)
 ·refine WS fun _ M=>rP 1 [] mn ?_
  refine RK M<|ar<|Q1 hQ U U U ?_
  (rw [jI rfl A]; (rw [pq (Ba (by simpa using C) (by first|exact D|(simp only []; omega)) (by first|exact B|(simp only []; omega))) AB ((oM (show ¬ (2:Int)=3 by decide)).2 H)]; done))
 refine cj<|aP<|KK F<|WS fun _ N=>rP 1 [] mn ?_
 refine RK N<|ar<|Q1 hQ U U U ?_
 (rw [jI rfl A]; (rw [jM (Ba (by simpa using C) (by first|exact D|(simp only []; omega)) (by first|exact B|(simp only []; omega))) (fun q=>H ((oM (show ¬ (2:Int)=3 by decide)).1 q.2))]; done))
theorem Is (j:cS) (kA:OA) (kC:Nat) (az:List RA) (cA:OA) (cC:Nat) (bA:OA) (bC:Nat) (slA:OA) (slC:Nat) (drA:OA) (drC:Nat) (ha:List cD) (heA:OA) (heC:Nat) (faA:OA) (faC:Nat) (prA:OA) (prC:Nat) (fw ff ft:Int) (d:ak) (sgA:OA) (sgC:Nat) (hin:gX j az ha) (hw:0≤fw∧fw≤1000000) (hsl:d.aY.aa.length≤1000000):
 dB Tryz.prog 62 [(vA (dg.cells (dg.mk (nt j kA kC cA cC bA bC slA slC drA drC heA heC faA faC prA prC)))),(vA (aZ.cells (aZ.mk 3 fw ff ft))),(vA (aG.cells (aG.mk d.Out d.cJ d.Time (iN d.aY sgA sgC))))] [(rd kA j.Race.ao.aO.length 9 (j.Race.ao.aO.map au.cells)),(rd cA j.Race.ao.aj.length 2 (List.zipWith ax.cells j.Race.ao.aj az)),(dE (bg ax.e_ j.Race.ao.aj az)),(rd bA j.Race.ao.ab.length 4 (j.Race.ao.ab.map bK.cells)),(rd slA j.Race.aV.length 1 (j.Race.aV.map iC)),(rd drA j.Race.bV.length 1 (j.Race.bV.map iC)),(rd heA j.Race.av.length 1 (List.zipWith bW j.Race.av ha)),(dE (bg er j.Race.av ha)),(rd faA j.aS.length 4 (j.aS.map aZ.cells)),(rd prA j.aJ.length 5 (j.aJ.map br.cells)),(rd sgA d.aY.aa.length 2 (d.aY.aa.map aF.cells))] (Value.int .u8 (hG j.Race.ao (aZ.mk 3 fw ff ft) d)):=by
 have l:=hin.race
 have h:=hin.race.line
 have r:=hin.race.g8
 have s:=hin.race.has
 have m:=hin.race.g7
 have i:=hin.nf
 have k:=hin.np
 refine bJ kr Tryz.func62 U U fun u Q hQ hN=>?_
 try dsimp only
 refine WS fun _ a=>eJ U fun n=>eJ U fun o=>eJ U fun p=>bI 1 U<|RK a<|aq fun _ b=>WS fun _ c=>eV 1 [] (mc 0 U mn) U<|rS (CL (ud d.Out d.cJ d.Time (iN d.aY sgA sgC)) (aL) U)<|rP 1 [] mn ?_
 refine RK c<|ck U (aX fun A=>?_) (aW fun A=>?_)
 ·refine WS fun _ e=>rP 1 [] mn ?_
  refine RK e<|ar<|Q1 hQ U U U ?_
  (rw [sh (fun q=>A q)]; done)
 refine WK b<|aq fun _ f=>dH cg [4,5] [] [] [0,1,2,3,4,5,6,7,8,9,10,11,12,13] [] U U U U U<|eS U (CL xD (aL) U)<|eS U (FA 0 U eU U)<|eS U (L1 (Value.int .u8 3) 1 U bU U U)<|eS U (SX (vN (vs:=(fj.cells (fj.mk (Value.func (.func 118) [].toArray [].toArray) (Value.func (.func 119) [].toArray [].toArray)))) 3 U U U Iz bU U dc U) U U)<|eo U<|cp U fun T9 g=>AL U Jl fun X=>aK (g _ _ (aR [1,2,3,4,5,6,7,8,9,10,11,12,13,14]) ?_)
 refine cp U fun T11 W=>eN U I5 U<|aK (W _ _ (aR [1,2,3,4,5,6,7,8,9,10,11,12,13,14]) ?_)
 refine fK U<|KK f<|WS fun _ V=>eV 4 [0,1,2] (mc 0 U (mc 3 U (mc 2 U mn))) U<|rS (CL (SO j kA kC cA cC bA bC slA slC drA drC heA heC faA faC prA prC 3 fw ff ft) (aL) U)<|rP 5 [] mn ?_
 refine RK V<|aq fun _ AA=>k6 cg [0,1,2,3,4,5,6,7,8,9] [10,11,12,13] [false,false,false,false,false,false,false,false,false,false] [] [(cz X 179 (fj.cells (fj.mk (Value.func (.func 118) [].toArray [].toArray) (Value.func (.func 119) [].toArray [].toArray)))),(cz p 43 (aG.cells (aG.mk d.Out d.cJ d.Time (iN d.aY sgA sgC)))),(cz o 86 (aZ.cells (aZ.mk 3 fw ff ft))),(cz n 97 (dg.cells (dg.mk (nt j kA kC cA cC bA bC slA slC drA drC heA heC faA faC prA prC)))),(rd kA j.Race.ao.aO.length 9 (j.Race.ao.aO.map au.cells)).ro,(rd cA j.Race.ao.aj.length 2 (List.zipWith ax.cells j.Race.ao.aj az)).ro,(dE (bg ax.e_ j.Race.ao.aj az)).ro,(rd bA j.Race.ao.ab.length 4 (j.Race.ao.ab.map bK.cells)).ro,(rd slA j.Race.aV.length 1 (j.Race.aV.map iC)).ro,(rd drA j.Race.bV.length 1 (j.Race.bV.map iC)).ro,(rd heA j.Race.av.length 1 (List.zipWith bW j.Race.av ha)).ro,(dE (bg er j.Race.av ha)).ro,(rd faA j.aS.length 4 (j.aS.map aZ.cells)).ro,(rd prA j.aJ.length 5 (j.aJ.map br.cells)).ro,(rd sgA d.aY.aa.length 2 (d.aY.aa.map aF.cells)).ro] [] kr (aR [0,1,2,3,4,5,6,7,8,9,10,11,12,13,14]) (aR [])<|eS U (LW 3 U bU U U)<|eS U (FA 4 U eU U)<|eS U (LP (cL.cells (iN d.aY sgA sgC)) 1 U bU U U U)<|eS U (MV U)<|eS U (CL (mx j kA kC az cA cC bA bC slA slC drA drC ha heA heC faA faC prA prC d.aY sgA sgC fw hin hsl) (bo [4,5,6,7,8,9,10,11,12,13,14]) U)<|eS U (LW 3 U bU U U)<|eS U (FA 4 U eU U)<|eS U (LP (cL.cells (iN d.aY sgA sgC)) 1 U bU U U U)<|eS U (MV U)<|eS U (CL (mx j kA kC az cA cC bA bC slA slC drA drC ha heA heC faA faC prA prC d.aY sgA sgC fw hin hsl) (bo [4,5,6,7,8,9,10,11,12,13,14]) U)<|eo U<|fp [10,11] kr (cK ?_<|cK ?_<|gV)
 rotate_left 1
 ·refine NO U U [10,12,13] fun T14 P=>AL U oq fun Y=>RD P 1 U<|N1 10<|NO U U [12,13] fun T16 R=>AL U oq fun Z=>RD R 2 U<|N1 12<|NO U U [13] fun T18 S=>eN U mO U<|RD S 2 U<|N1 13<|NO U U [] fun T19 T=>qN U mO U<|RD T 2 U<|kG<|KK AA<|aq fun _ F=>aH<|WS fun _ E=>rP 3 [] (mc 0 U mn) ?_
  refine bT (t:=40) U (fun C=>?_) (fun C=>?_)
  ·refine bI 16 U<|RK E<|aN U<|WS fun _ J=>rP 1 [] mn ?_
   refine RK J<|ar<|Q1 hQ U U U ?_
   (rw [jH rfl A]; (rw [g6 (.inl C)]; done))
  refine rP 8 [0,1] (mc 0 U (mc 4 U mn)) ?_
  refine bT (t:=48) U (aT fun D=>?_) (aU fun D=>?_)
  ·refine bI 8 U<|RK E<|aN U<|WS fun _ K=>rP 1 [] mn ?_
   refine RK K<|ar<|Q1 hQ U U U ?_
   (rw [jH rfl A]; (rw [g6 (.inr (.inl D))]; done))
  refine rP 8 [0,1] (mc 1 U (mc 4 U mn)) ?_
  refine RK E<|ck U (aT fun B=>?_) (aU fun B=>?_)
  ·refine WS fun _ L=>rP 1 [] mn ?_
   refine RK L<|ar<|Q1 hQ U U U ?_
   (rw [jH rfl A]; (rw [g6 (.inr (.inr B))]; done))
  refine WS fun _ G=>rP 3 [] (mc 0 U mn) ?_
  refine cG (t:=59) U (fun AB=>?_) (fun AB=>?_)
  ·refine bI 8 U<|RK G<|cq U<|cj<|aP<|KK F<|WS fun _ O=>rP 1 [] mn ?_
   refine RK O<|ar<|Q1 hQ U U U ?_
   (rw [jH rfl A]; (rw [jM (Ba (by simpa using C) (by first|exact D|(simp only []; omega)) (by first|exact B|(simp only []; omega))) (fun q=>by rw [AB] at q; exact Bool.noConfusion q.1)]; done))
  refine eV 5 [0,1,2,3] (mc 2 U (mc 4 U (mc 0 U (mc 1 U mn)))) U<|rS (CL (F8 3 fw ff ft ((cQ j.Race.ao d.aY fw).Lo) ((cQ j.Race.ao d.aY fw).Hi) ((cQ j.Race.ao d.aY fw).each) ((cQ j.Race.ao d.aY fw).never) ((cQ j.Race.ao d.aY fw).Lo) ((cQ j.Race.ao d.aY fw).Hi) ((cQ j.Race.ao d.aY fw).each) ((cQ j.Race.ao d.aY fw).never)) (aL) U)<|rP 2 [] mn ?_
  refine RK G<|ck U (aT fun H=>?_) (aU fun H=>?_)
  ·refine WS fun _ M=>rP 1 [] mn ?_
   refine RK M<|ar<|Q1 hQ U U U ?_
   (rw [jH rfl A]; (rw [pq (Ba (by simpa using C) (by first|exact D|(simp only []; omega)) (by first|exact B|(simp only []; omega))) AB ((Ac rfl).2 H)]; done))
  refine cj<|aP<|KK F<|WS fun _ N=>rP 1 [] mn ?_
  refine RK N<|ar<|Q1 hQ U U U ?_
  (rw [jH rfl A]; (rw [jM (Ba (by simpa using C) (by first|exact D|(simp only []; omega)) (by first|exact B|(simp only []; omega))) (fun q=>H ((Ac rfl).1 q.2))]; done))
 refine NO U U [11,12,13] fun T14 P=>AL U oq fun Y=>RD P 1 U<|N1 11<|NO U U [12,13] fun T16 R=>AL U oq fun Z=>RD R 2 U<|N1 12<|NO U U [13] fun T18 S=>qN U mO U<|RD S 2 U<|N1 13<|NO U U [] fun T19 T=>eN U mO U<|RD T 2 U<|kG<|KK AA<|aq fun _ F=>aH<|WS fun _ E=>rP 3 [] (mc 1 U mn) ?_
 refine bT (t:=40) U (fun C=>?_) (fun C=>?_)
 ·refine bI 16 U<|RK E<|aN U<|WS fun _ J=>rP 1 [] mn ?_
  refine RK J<|ar<|Q1 hQ U U U ?_
  (rw [jH rfl A]; (rw [g6 (.inl C)]; done))
 refine rP 8 [0,1] (mc 1 U (mc 4 U mn)) ?_
 refine bT (t:=48) U (aT fun D=>?_) (aU fun D=>?_)
 ·refine bI 8 U<|RK E<|aN U<|WS fun _ K=>rP 1 [] mn ?_
  refine RK K<|ar<|Q1 hQ U U U ?_
  (rw [jH rfl A]; (rw [g6 (.inr (.inl D))]; done))
 refine rP 8 [0,1] (mc 0 U (mc 4 U mn)) ?_
 refine RK E<|ck U (aT fun B=>?_) (aU fun B=>?_)
 ·refine WS fun _ L=>rP 1 [] mn ?_
  refine RK L<|ar<|Q1 hQ U U U ?_
  (rw [jH rfl A]; (rw [g6 (.inr (.inr B))]; done))
 refine WS fun _ G=>rP 3 [] (mc 1 U mn) ?_
 refine cG (t:=59) U (fun AB=>?_) (fun AB=>?_)
 ·refine bI 8 U<|RK G<|cq U<|cj<|aP<|KK F<|WS fun _ O=>rP 1 [] mn ?_
  refine RK O<|ar<|Q1 hQ U U U ?_
  (rw [jH rfl A]; (rw [jM (Ba (by simpa using C) (by first|exact D|(simp only []; omega)) (by first|exact B|(simp only []; omega))) (fun q=>by rw [AB] at q; exact Bool.noConfusion q.1)]; done))
 refine eV 5 [0,1,2,3] (mc 2 U (mc 4 U (mc 1 U (mc 0 U mn)))) U<|rS (CL (F8 3 fw ff ft ((cQ j.Race.ao d.aY fw).Lo) ((cQ j.Race.ao d.aY fw).Hi) ((cQ j.Race.ao d.aY fw).each) ((cQ j.Race.ao d.aY fw).never) ((cQ j.Race.ao d.aY fw).Lo) ((cQ j.Race.ao d.aY fw).Hi) ((cQ j.Race.ao d.aY fw).each) ((cQ j.Race.ao d.aY fw).never)) (aL) U)<|rP 2 [] mn ?_
 refine RK G<|ck U (aT fun H=>?_) (aU fun H=>?_)
 ·refine WS fun _ M=>rP 1 [] mn ?_
  refine RK M<|ar<|Q1 hQ U U U ?_
  (rw [jH rfl A]; (rw [pq (Ba (by simpa using C) (by first|exact D|(simp only []; omega)) (by first|exact B|(simp only []; omega))) AB ((Ac rfl).2 H)]; done))
 refine cj<|aP<|KK F<|WS fun _ N=>rP 1 [] mn ?_
 refine RK N<|ar<|Q1 hQ U U U ?_
 (rw [jH rfl A]; (rw [jM (Ba (by simpa using C) (by first|exact D|(simp only []; omega)) (by first|exact B|(simp only []; omega))) (fun q=>H ((Ac rfl).1 q.2))]; done))
theorem AH (j:cS) (kA:OA) (kC:Nat) (az:List RA) (cA:OA) (cC:Nat) (bA:OA) (bC:Nat) (slA:OA) (slC:Nat) (drA:OA) (drC:Nat) (ha:List cD) (heA:OA) (heC:Nat) (faA:OA) (faC:Nat) (prA:OA) (prC:Nat) (f:aZ) (d:ak) (sgA:OA) (sgC:Nat) (hin:gX j az ha) (hk:1≤f.Kind∧f.Kind≤3) (hw:0≤f.ig∧f.ig≤1000000) (hsl:d.aY.aa.length≤1000000):
 dB Tryz.prog 62 [(vA (dg.cells (dg.mk (nt j kA kC cA cC bA bC slA slC drA drC heA heC faA faC prA prC)))),(vA (aZ.cells f)),(vA (aG.cells (aG.mk d.Out d.cJ d.Time (iN d.aY sgA sgC))))] [(rd kA j.Race.ao.aO.length 9 (j.Race.ao.aO.map au.cells)),(rd cA j.Race.ao.aj.length 2 (List.zipWith ax.cells j.Race.ao.aj az)),(dE (bg ax.e_ j.Race.ao.aj az)),(rd bA j.Race.ao.ab.length 4 (j.Race.ao.ab.map bK.cells)),(rd slA j.Race.aV.length 1 (j.Race.aV.map iC)),(rd drA j.Race.bV.length 1 (j.Race.bV.map iC)),(rd heA j.Race.av.length 1 (List.zipWith bW j.Race.av ha)),(dE (bg er j.Race.av ha)),(rd faA j.aS.length 4 (j.aS.map aZ.cells)),(rd prA j.aJ.length 5 (j.aJ.map br.cells)),(rd sgA d.aY.aa.length 2 (d.aY.aa.map aF.cells))] (Value.int .u8 (hG j.Race.ao f d)):=by
 obtain ⟨fk,fw,ff,ft⟩:=f
 have A:fk=1∨fk=2∨fk=3:=by have:=hk; simp only at this; omega
 rcases A with rfl|rfl|rfl
 ·exact K9 j kA kC az cA cC bA bC slA slC drA drC ha heA heC faA faC prA prC fw ff ft d sgA sgC hin hw hsl
 ·exact I4 j kA kC az cA cC bA bC slA slC drA drC ha heA heC faA faC prA prC fw ff ft d sgA sgC hin hw hsl
 ·exact Is j kA kC az cA cC bA bC slA slC drA drC ha heA heC faA faC prA prC fw ff ft d sgA sgC hin hw hsl
end
section
open Go.RowKit
theorem KG (j:cS) (kA:OA) (kC:Nat) (az:List RA) (cA:OA) (cC:Nat) (bA:OA) (bC:Nat) (slA:OA) (slC:Nat) (drA:OA) (drC:Nat) (ha:List cD) (heA:OA) (heC:Nat) (faA:OA) (faC:Nat) (prA:OA) (prC:Nat) (p:br) (hin:gX j az ha) (hok:dG j=0) (hp: ∃ i:Nat,j.aJ[i]? =some p):
 dB Tryz.prog 66 [(vA (dg.cells (dg.mk (nt j kA kC cA cC bA bC slA slC drA drC heA heC faA faC prA prC)))),(vA (br.cells p))] [(rd kA j.Race.ao.aO.length 9 (j.Race.ao.aO.map au.cells)),(rd cA j.Race.ao.aj.length 2 (List.zipWith ax.cells j.Race.ao.aj az)),(dE (bg ax.e_ j.Race.ao.aj az)),(rd bA j.Race.ao.ab.length 4 (j.Race.ao.ab.map bK.cells)),(rd slA j.Race.aV.length 1 (j.Race.aV.map iC)),(rd drA j.Race.bV.length 1 (j.Race.bV.map iC)),(rd heA j.Race.av.length 1 (List.zipWith bW j.Race.av ha)),(dE (bg er j.Race.av ha)),(rd faA j.aS.length 4 (j.aS.map aZ.cells)),(rd prA j.aJ.length 5 (j.aJ.map br.cells))] (Value.int .u8 (mZ j p)):=by
 have S:=hin.race
 have e:=hin.race.line
 have s:=hin.race.g8
 have t:=hin.race.has
 have q:=hin.race.g7
 have k:=hin.nf
 have o:=hin.np
 have R:=(eA hok).1
 have P:=(eA hok).2
 have c:=(d_ R).1
 have h:=(d_ R).2
 have a:=(eh c).2.head
 unfold eZ at a
 obtain ⟨pi,f⟩:=hp
 have G:=P.ib pi p f
 have x:=G.ek
 have g:=G.jT
 simp only [mD] at g
 have w:=G.fault
 have u:=P.min_
 refine bJ kr Tryz.func66 U U fun w0 Q hQ hN=>?_
 try dsimp only
 refine WS fun _ T=>eJ U fun z=>eJ U fun b3=>rP 1 [] mn ?_
 refine RK T<|aq fun _ AA=>dH cg [20,21] [] [] [0,1,2,3,4,5,6,7,8,9,10,11] [] U U U U U<|eS U (LW 1 U bU U U)<|eS U (FA 0 U eU U)<|eS U (FA 0 U eU U)<|eS U (FA 10 U eU U)<|eS U (L1 (vS heA j.Race.av.length heC) 1 U bU U U)<|eS U (FA 2 U eU U)<|eS U (L1 (vI p.jm) 0 U bU U U) ?_
 obtain ⟨ht,C⟩:=aC j.Race.av ((p.jm).toNat) I
 obtain ⟨A,B⟩:=aC ha ((p.jm).toNat) I
 have O:(List.zipWith bW j.Race.av ha)[(p.jm).toNat]? =some (bW ht A):=cv C B
 refine eS U (IA ((p.jm).toNat) U (ay 8 U) j8 dc I I)<|eS U (gD ((p.jm).toNat) 0 (vS A.1.1 ht.length A.1.2) U bU (ay 8 U) O U dc U)<|eS U (FA 1 U eU U)<|eS U (L1 (vI p.iQ) 0 U bU U U) ?_
 have N:=S.ek _ _ _ C B
 have m:=N.ly
 have n:=(h.ek ht (aM C)).1
 obtain ⟨d,hd⟩:=aC ht ((p.iQ).toNat) I
 obtain ⟨da,M⟩:=aC A.2 ((p.iQ).toNat) I
 have Z:(List.zipWith ak.cells ht A.2)[(p.iQ).toNat]? =some (ak.cells d da):=cv hd M
 refine eS U (IA ((p.iQ).toNat) U (show fY _ (rd A.1.1 ht.length 7 (List.zipWith ak.cells ht A.2)).holds from (bX 9 U (a_ C B bY))) mM dc I I)<|eS U (pO ((((p.iQ).toNat)*7)+4) U (show fY _ (rd A.1.1 ht.length 7 (List.zipWith ak.cells ht A.2)).holds from (bX 9 U (a_ C B bY))) (Nat.mul_pos I dc) eU U) ?_
 have D:=pC (j:=j) (p:=p) C hd
 have y:=N.sig d (aM hd)
 have v:=Md (l:=j.Race.ao) (r:=d.aY) (b:=j.Race.ao.cf) I
 refine eS U (jD ((p.iQ).toNat) 4 (cL.cells (cL.mk d.aY.Start d.aY.gj (bE.mk da.1 d.aY.aa.length da.2))) U bU (show fY _ (rd A.1.1 ht.length 7 (List.zipWith ak.cells ht A.2)).holds from (bX 9 U (a_ C B bY))) Z U dc U U)<|eS U (FA 0 U eU U)<|eS U (FA 0 U eU U)<|eS U (FA 0 U eU U)<|eS U (FA 4 U eU U)<|eS U (L1 (vI j.Race.ao.cf) 1 U bU U U)<|eS U (CL (mx j kA kC az cA cC bA bC slA slC drA drC ha heA heC faA faC prA prC d.aY da.1 da.2 j.Race.ao.cf hin asm) (ld [2,3,4,5,6,7,8,9,10,11]<|aD (show fY _ (rd da.1 d.aY.aa.length 2 (d.aY.aa.map aF.cells)).holds from (bX 9 U (a_ C B (dh _ (a_ hd M (by simp [ak.e_]))))))<|aL) U)<|eo U<|cp U fun T5 X=>AL U oq fun b6=>aK (X _ _ (aR [1,2,3,4,5,6,7,8,9,10,11,12]) ?_)
 refine cp U fun T7 Y=>eN U mO U<|aK (Y _ _ (aR [1,2,3,4,5,6,7,8,9,10,11,12]) ?_)
 refine fK U<|KK AA<|WS fun _ V=>eV 3 [] (mc 2 U mn) U<|rS (BI U (uT ⟨I,I⟩))<|bI 1 U<|RK V<|aq fun _ W=>aH<|WS fun _ H=>rP 9 [0,1] (mc 1 U (mc 0 U mn)) ?_
 refine RK H<|ck U (aT fun E=>?_) (aU fun E=>?_)
 ·refine WS fun _ AB=>rP 1 [] mn ?_
  refine RK AB<|ar<|Q1 hQ U U U ?_
  (rw [Qc D E]; done)
 refine WS fun _ J=>rP 9 [0,1] (mc 1 U (mc 0 U mn)) ?_
 refine RK J<|ck U (aT fun F=>?_) (aU fun F=>?_)
 ·refine WS fun _ K=>rP 1 [] mn ?_
  refine RK K<|ar<|Q1 hQ U U U ?_
  (rw [PF D E F]; done)
 refine cj<|aP<|KK W<|WS fun _ L=>rP 1 [] mn ?_
 refine RK L<|ar<|Q1 hQ U U U ?_
 (rw [QD D E F]; done)
theorem vu (j:cS) (kA:OA) (kC:Nat) (az:List RA) (cA:OA) (cC:Nat) (bA:OA) (bC:Nat) (slA:OA) (slC:Nat) (drA:OA) (drC:Nat) (ha:List cD) (heA:OA) (heC:Nat) (faA:OA) (faC:Nat) (prA:OA) (prC:Nat) (i:Int) (p:br) (hin:gX j az ha) (hok:dG j=0) (hp: ∃ i:Nat,j.aJ[i]? =some p):
 dB Tryz.prog 42 [(vA (dg.cells (dg.mk (nt j kA kC cA cC bA bC slA slC drA drC heA heC faA faC prA prC)))),(vI i),(vA (br.cells p))] [(rd kA j.Race.ao.aO.length 9 (j.Race.ao.aO.map au.cells)),(rd cA j.Race.ao.aj.length 2 (List.zipWith ax.cells j.Race.ao.aj az)),(dE (bg ax.e_ j.Race.ao.aj az)),(rd bA j.Race.ao.ab.length 4 (j.Race.ao.ab.map bK.cells)),(rd slA j.Race.aV.length 1 (j.Race.aV.map iC)),(rd drA j.Race.bV.length 1 (j.Race.bV.map iC)),(rd heA j.Race.av.length 1 (List.zipWith bW j.Race.av ha)),(dE (bg er j.Race.av ha)),(rd faA j.aS.length 4 (j.aS.map aZ.cells)),(rd prA j.aJ.length 5 (j.aJ.map br.cells))] (vB (iD j p)):=by
 have O:=hin.race
 have V:=hin.race.line
 have h:=hin.race.g8
 have k:=hin.race.has
 have c:=hin.race.g7
 have Y:=hin.nf
 have b:=hin.np
 have M:=(eA hok).1
 have E:=(eA hok).2
 have AA:=(d_ M).1
 have X:=(d_ M).2
 have T:=(eh AA).2.head
 unfold eZ at T
 obtain ⟨pi,N⟩:=hp
 have F:=E.ib pi p N
 have n:=F.ek
 have W:=F.jT
 simp only [mD] at W
 have m:=F.fault
 have l:=E.min_
 refine bJ kr Tryz.func42 U U fun u Q hQ hN=>?_
 try dsimp only
 refine WS fun _ P=>eJ U fun r=>eJ U fun s=>bI 1 U<|RK P<|aq fun _ G=>cW cg 29 kr<|kv 2 [0,1] (mc 1 U (mc 0 U mn)) U<|dS (CL (KG j kA kC az cA cC bA bC slA slC drA drC ha heA heC faA faC prA prC p hin hok (by exact ⟨pi,N⟩)) (bo [2,3,4,5,6,7,8,9,10,11]) U)<|dS (BI U rm)<|dP 1 [] mn ?_
 refine hP (t:=11) U (aW fun D=>?_) (aX fun D=>?_)
 ·refine kR 17 U<|kR 2 U<|dP 5 [] mn ?_
  refine cx<|RK G<|ar<|Q1 hQ U U U ?_
  (rw [Ki D]; done)
 refine dP 6 [0,0,1] (mc 1 U (mc 0 U mn)) ?_
 obtain ⟨f,hf⟩:=aC j.aS ((p.jX).toNat) I
 have S:=bO aZ.cells hf
 refine dS (IA ((p.jX).toNat) U (ay 10 U) C5 dc I I)<|dS (jD ((p.jX).toNat) 0 (aZ.cells f) U bU (ay 10 U) S U dc U U)<|dP 6 [0,1] (mc 1 U (mc 0 U mn)) ?_
 obtain ⟨ht,C⟩:=aC j.Race.av ((p.jm).toNat) I
 obtain ⟨A,B⟩:=aC ha ((p.jm).toNat) I
 have L:(List.zipWith bW j.Race.av ha)[(p.jm).toNat]? =some (bW ht A):=cv C B
 refine dS (IA ((p.jm).toNat) U (ay 8 U) j8 dc I I)<|dS (gD ((p.jm).toNat) 0 (vS A.1.1 ht.length A.1.2) U bU (ay 8 U) L U dc U)<|dP 1 [] mn ?_
 have K:=O.ek _ _ _ C B
 have Z:=K.ly
 have a:=(X.ek ht (aM C)).1
 refine dP 1 [] (mc 0 U mn) ?_
 obtain ⟨d,hd⟩:=aC ht ((p.iQ).toNat) I
 obtain ⟨da,AB⟩:=aC A.2 ((p.iQ).toNat) I
 have R:(List.zipWith ak.cells ht A.2)[(p.iQ).toNat]? =some (ak.cells d da):=cv hd AB
 refine dS (IA ((p.iQ).toNat) U (show fY _ (rd A.1.1 ht.length 7 (List.zipWith ak.cells ht A.2)).holds from (bX 9 U (a_ C B bY))) mM dc I I) ?_
 have H:=pC (j:=j) (p:=p) C hd
 have o:=K.sig d (aM hd)
 have J:=E.fault f (aM hf)
 have g:0≤f.ig∧f.ig≤1000000:=by have e:=J.2.2; split at e<;>omega
 refine dS (jD ((p.iQ).toNat) 0 (aG.cells (aG.mk d.Out d.cJ d.Time (cL.mk d.aY.Start d.aY.gj (bE.mk da.1 d.aY.aa.length da.2)))) U bU (show fY _ (rd A.1.1 ht.length 7 (List.zipWith ak.cells ht A.2)).holds from (bX 9 U (a_ C B bY))) R U dc U U)<|dS (CL (AH j kA kC az cA cC bA bC slA slC drA drC ha heA heC faA faC prA prC f d da.1 da.2 hin (by exact J.1) asm asm) (ld [2,3,4,5,6,7,8,9,10,11]<|aD (show fY _ (rd da.1 d.aY.aa.length 2 (d.aY.aa.map aF.cells)).holds from (bX 9 U (a_ C B (dh _ (a_ hd AB (by simp [ak.e_]))))))<|aL) U)<|dS (BI U rm)<|dP 2 [] mn ?_
 refine cx<|RK G<|ar<|Q1 hQ U U U ?_
 (rw [LG H hf (fun q=>D q)]; done)
end
section
open Go.RowKit
theorem JP (j:cS) (kA:OA) (kC:Nat) (az:List RA) (cA:OA) (cC:Nat) (bA:OA) (bC:Nat) (slA:OA) (slC:Nat) (drA:OA) (drC:Nat) (ha:List cD) (heA:OA) (heC:Nat) (faA:OA) (faC:Nat) (prA:OA) (prC:Nat) (hin:gX j az ha):
 dB Tryz.prog 37 [(vA (gh.cells (nt j kA kC cA cC bA bC slA slC drA drC heA heC faA faC prA prC)))] [(rd gd 3 2 fr),(rd kA j.Race.ao.aO.length 9 (j.Race.ao.aO.map au.cells)),(rd cA j.Race.ao.aj.length 2 (List.zipWith ax.cells j.Race.ao.aj az)),(dE (bg ax.e_ j.Race.ao.aj az)),(rd bA j.Race.ao.ab.length 4 (j.Race.ao.ab.map bK.cells)),(rd slA j.Race.aV.length 1 (j.Race.aV.map iC)),(rd drA j.Race.bV.length 1 (j.Race.bV.map iC)),(rd heA j.Race.av.length 1 (List.zipWith bW j.Race.av ha)),(dE (bg er j.Race.av ha)),(rd faA j.aS.length 4 (j.aS.map aZ.cells)),(rd prA j.aJ.length 5 (j.aJ.map br.cells))] (vI (dG j)):=by
 have GT:=hin.race
 have LA:=hin.race.line
 have Ps:=hin.race.g8
 have QS:=hin.race.has
 have Op:=hin.race.g7
 have MQ:=hin.nf
 have Ne:=hin.np
 refine bJ kr Tryz.func37 U U fun w0 Q hQ hN=>?_
 try dsimp only
 refine WS fun _ J6=>eJ U fun b2=>bI 1 U<|RK J6<|AW U<|aq fun _ J7=>WS fun _ J8=>bI 1 U<|rS (LP (cY.cells (vJ j.Race kA kC cA cC bA bC slA slC drA drC heA heC)) 0 U bU U U U)<|rS (CL (yb j.Race kA kC az cA cC bA bC slA slC drA drC ha heA heC asm) (bo [1,2,3,4,5,6,7,8,9]) U)<|bI 1 U<|RK J8<|WS fun _ J9=>rP 2 [] mn ?_
 refine RK J9<|ck U (aX fun A=>?_) (aW fun A=>?_)
 ·refine WS fun _ Kl=>rP 2 [] mn ?_
  refine RK Kl<|ar<|Q1 hQ U U U ?_
  exact cI (zC A).symm
 refine WK J7<|WS fun _ Kw=>rP 2 [] (mc 0 U mn) ?_
 refine rS (FU U) ?_
 refine cX (NJ j.aS faA faC (Value.func (.func 68) [].toArray [(vP b2)].toArray) (fun u8 u9=>(decide (¬ oY j.Race.ao.cf u9))) (dE [(cz b2 36 (gh.cells (nt j kA kC cA cC bA bC slA slC drA drC heA heC faA faC prA prC)))]) (by intro u8 u9 LD; exact k7 (fi:=[]) (ca:=[(vP b2)]) (j1 (Kq u8 u9 j kA kC cA cC bA bC slA slC drA drC heA heC faA faC prA prC b2 (by (obtain ⟨i_,_,K5⟩:=LD; exact hin.kind _ (aM K5)))) (bo [0]))) asm) (dM 10 rfl rfl<|aD (jZ (bo [0]))<|aL) rfl fun Lo Or=>?_
 obtain ⟨O8,Pl⟩:=Lo
 try dsimp only
 refine bI 1 U<|RK Kw<|aq fun _ b=>WS fun _ G=>rP 5 [] (mc 1 U mn) ?_
 refine bT (t:=25) U (aT fun Je=>?_) (aU fun Je=>?_)
 ·refine bI 24 U<|RK G<|aN U<|WS fun _ c=>rP 1 [] mn ?_
  refine RK c<|ar<|Q1 hQ U U U ?_
  exact cI (jN A (fun q=>by have AA:=q.nf; have O:=q.min_; have V:=q.tn; have W:=q.np; omega)).symm
 refine rP 5 [] mn ?_
 refine bT (t:=30) U (aT fun S=>?_) (aU fun S=>?_)
 ·refine bI 19 U<|RK G<|aN U<|WS fun _ e=>rP 1 [] mn ?_
  refine RK e<|ar<|Q1 hQ U U U ?_
  exact cI (jN A (Du S)).symm
 refine rP 2 [] (mc 1 U mn) ?_
 refine ew (xs:=[.tmp 32]) (cs:=[(vI j.iy)]) U dy j7 U U U U (by simp [Value.cells]) U U fun Hi=>?_
 refine rS (CL (dB.eq (ij 0 60 ([j.iy]) (some ⟨Hi,0,none⟩) 1 (by (simp; done))) cy) (aD (bx 0 U U (by simp [bP]) U)<|aL) U) ?_
 refine rP 3 [] mn ?_
 refine bT (t:=37) U (aX fun J3=>?_) (aW fun J3=>?_)
 ·refine bI 12 U<|RK G<|aN U<|WS fun _ f=>rP 1 [] mn ?_
  refine RK f<|ar<|Q1 hQ U U U ?_
  exact cI (jN A (fun q=>by have AA:=q.nf; have O:=q.min_; have V:=q.tn; have W:=q.np; omega)).symm
 refine rP 2 [] (mc 2 U mn) ?_
 refine ew (xs:=[.tmp 39]) (cs:=[(vI j.Dj)]) U dy j7 U U U U (by simp [Value.cells]) U U fun H1=>?_
 refine rS (CL (dB.eq (ij 0 100000 ([j.Dj]) (some ⟨H1,0,none⟩) 1 (by (simp; done))) cy) (aD (bx 0 U U (by simp [bP]) U)<|aL) U) ?_
 refine rP 3 [] mn ?_
 refine bT (t:=44) U (aX fun J4=>?_) (aW fun J4=>?_)
 ·refine bI 5 U<|RK G<|aN U<|WS fun _ g=>rP 1 [] mn ?_
  refine RK g<|ar<|Q1 hQ U U U ?_
  exact cI (jN A (fun q=>by have AA:=q.nf; have O:=q.min_; have V:=q.tn; have W:=q.np; omega)).symm
 refine rP 5 [] (mc 3 U mn) ?_
 refine RK G<|ck U (aT fun J5=>?_) (aU fun J5=>?_)
 ·refine WS fun _ h=>rP 1 [] mn ?_
  refine RK h<|ar<|Q1 hQ U U U ?_
  exact cI (jN A (fun q=>by have AA:=q.nf; have O:=q.min_; have V:=q.tn; have W:=q.np; omega)).symm
 refine WK b<|WS fun _ l=>bI 1 U<|RK l<|WS fun _ m=>bI 1 U<|RK m<|aq fun _ n=>Ab<|KK n<|aq fun _ C=>WS fun _ o=>rP 4 [] (mc 3 U mn) ?_
 refine RK o<|aH ?_
 have N:(0≤j.aJ.length)∧(oD j 0):=by exact ⟨Nat.zero_le _,xo⟩
 refine bS (ι:={z:Nat // (z≤j.aJ.length)∧(oD j z)}) [1,5,51,52] [2,3,4,5,6,7,8,9,10,11,12,13,14] U U (fun z=>[(6,(vI (pN j z.1))),(53,(vI (z.1:Int)))]) (fun z=>[]) (fun _=>rfl) (fun _=>rfl) (fun z=>j.aJ.length-z.1) ⟨0,N⟩ (bD U) (aR [2,3,4,5,6,7,8,9,10,11,12,13,14]) ?_
 clear N
 rintro ⟨k,⟨B,D⟩⟩ J28 P
 try dsimp only
 refine WS fun _ r=>rP 1 [] mn ?_
 refine RK r<|aq fun _ s=>bR U (aU fun J2=>?_) (aT fun J2=>?_)
 ·refine bQ<|ag<|ag<|aI<|KK C<|WS fun _ Di=>rP 2 [] mn ?_
  refine RK Di<|ar<|Q1 hQ U U U ?_
  exact cI (yJ A ⟨I,CB S,I,I,I,fun i p hi=>D i p (by have:=(bf.1 hi).1; omega) hi⟩).symm
 refine WK s<|aq fun _ R=>aH<|WS fun _ u=>?_
 obtain ⟨p,hp⟩:=aC j.aJ k I
 have LE:=bO br.cells hp
 refine rS (IA k U (ay 12 U) D_ dc I I)<|rS (jD k 0 (br.cells p) U bU (ay 12 U) LE U dc U U)<|AL U E7 fun PP=>eN U Jj U<|RK u<|WS fun _ AB=>rP 1 [] mn ?_
 have K8:=Mc D B
 refine rP 3 [] (mc 0 U mn) ?_
 refine ew (xs:=[.tmp 60]) (cs:=[(vI p.Id)]) U dy j7 U U U U (by simp [Value.cells]) U U fun IO=>?_
 refine rS (CL (dB.eq (ij ((pN j k)+1) 9999 ([p.Id]) (some ⟨IO,0,none⟩) 1 (by (simp; done))) cy) (aD (bx 0 U U (by simp [bP]) U)<|aL) U) ?_
 refine rP 1 [] mn ?_
 refine cG (t:=63) U (aU fun Y=>?_) (aT fun Y=>?_)
 ·refine bI 32 U<|RK AB<|aq fun _ Cx=>WS fun _ C0=>bI 1 U<|RK C0<|cq U<|WK Cx<|aq fun _ MI=>WS fun _ C1=>bI 2 U<|RK C1<|aN U<|WS fun _ C2=>bI 1 U<|RK C2<|bQ<|ag<|fG U<|ag<|ag<|aI<|KK C<|WS fun _ C3=>rP 2 [] mn ?_
  refine RK C3<|ar<|Q1 hQ U U U ?_
  exact cI (jN A (rZ hp (fun q=>by have q0:=wS q B; have AA:=q.id; have O:=q.jT; have V:=q.ek; have W:=q.fault; simp only [mD] at O; omega))).symm
 refine rP 7 [0,1] (mc 3 U (mc 1 U mn)) ?_
 refine ew (xs:=[.tmp 70]) (cs:=[(vI p.iQ)]) U dy j7 U U U U (by simp [Value.cells]) U U fun IR=>?_
 refine rS (CL (dB.eq (ij 0 ((j.Race.aV.length:Int)-1) ([p.iQ]) (some ⟨IR,0,none⟩) 1 (by (simp; done))) cy) (aD (bx 0 U U (by simp [bP]) U)<|aL) U) ?_
 refine rP 2 [] mn ?_
 refine cG (t:=74) U (aU fun Z=>?_) (aT fun Z=>?_)
 ·refine bI 21 U<|RK AB<|aq fun _ B9=>WS fun _ CC=>bI 1 U<|RK CC<|cq U<|WK B9<|aq fun _ L3=>WS fun _ Ci=>bI 2 U<|RK Ci<|aN U<|WS fun _ Ck=>bI 1 U<|RK Ck<|bQ<|ag<|fG U<|ag<|ag<|aI<|KK C<|WS fun _ Cp=>rP 2 [] mn ?_
  refine RK Cp<|ar<|Q1 hQ U U U ?_
  exact cI (jN A (rZ hp (fun q=>by have q0:=wS q B; have AA:=q.id; have O:=q.jT; have V:=q.ek; have W:=q.fault; simp only [mD] at O; omega))).symm
 refine rP 7 [0,1] (mc 4 U (mc 2 U mn)) ?_
 refine ew (xs:=[.tmp 81]) (cs:=[(vI p.jm)]) U dy j7 U U U U (by simp [Value.cells]) U U fun If=>?_
 refine rS (CL (dB.eq (ij 0 ((j.Race.av.length:Int)-1) ([p.jm]) (some ⟨If,0,none⟩) 1 (by (simp; done))) cy) (aD (bx 0 U U (by simp [bP]) U)<|aL) U) ?_
 refine rP 2 [] mn ?_
 refine cG (t:=85) U (aU fun a=>?_) (aT fun a=>?_)
 ·refine bI 10 U<|RK AB<|aq fun _ A6=>WS fun _ A7=>bI 1 U<|RK A7<|cq U<|WK A6<|aq fun _ L2=>WS fun _ A8=>bI 2 U<|RK A8<|aN U<|WS fun _ A9=>bI 1 U<|RK A9<|bQ<|ag<|fG U<|ag<|ag<|aI<|KK C<|WS fun _ B3=>rP 2 [] mn ?_
  refine RK B3<|ar<|Q1 hQ U U U ?_
  exact cI (jN A (rZ hp (fun q=>by have q0:=wS q B; have AA:=q.id; have O:=q.jT; have V:=q.ek; have W:=q.fault; simp only [mD] at O; omega))).symm
 refine rP 6 [0,1] (mc 5 U (mc 3 U mn)) ?_
 refine ew (xs:=[.tmp 91]) (cs:=[(vI p.jX)]) U dy j7 U U U U (by simp [Value.cells]) U U fun In=>?_
 refine rS (CL (dB.eq (ij 0 ((j.aS.length:Int)-1) ([p.jX]) (some ⟨In,0,none⟩) 1 (by (simp; done))) cy) (aD (bx 0 U U (by simp [bP]) U)<|aL) U) ?_
 refine bI 2 U<|RK AB<|aq fun _ L=>WS fun _ v=>rP 1 [] mn ?_
 refine RK v<|bR U (aU fun T=>?_) (aT fun T=>?_)
 ·refine WK L<|aq fun _ A2=>WS fun _ A3=>rP 2 [] mn ?_
  refine RK A3<|bR U (aW fun F=>?_) (aX fun F=>?_)
  ·refine WK A2<|aw<|eV 3 [] (mc 4 U mn) U<|aK<|aP<|KK R<|aw<|rP 2 [] mn ?_
   refine aK ?_
   have FS:(vI (pN j (k+1)))=(vI p.Id):=by exact cI (nM hp)
   have Fd:(vI (((k+1):Nat):Int))=(vI ((k:Int)+1)):=by exact cI I
   refine bu (P ⟨(k+1),(by exact absurd F T)⟩ _ _ _ U os (cP 4<|bw U FS<|bw U Fd<|dp.nil _) (aR [5,6,7,8,9,10,11,12,13,14,15,16,17]))
  refine WS fun _ A4=>bI 1 U<|RK A4<|bQ<|ag<|fG U<|ag<|ag<|aI<|KK C<|WS fun _ A5=>rP 2 [] mn ?_
  refine RK A5<|ar<|Q1 hQ U U U ?_
  exact cI (jN A (rZ hp (fun q=>by have q0:=wS q B; have AA:=q.id; have O:=q.jT; have V:=q.ek; have W:=q.fault; simp only [mD] at O; omega))).symm
 refine aq fun _ w=>dH cg [11,12] [] [] [0,1,2,3,4,5,6,7,8,9,10,11,12,13,14,15,16,17] [] U U U U U<|eS U (FA 0 U eU U)<|eS U (FA 10 U eU U)<|eS U (L1 (vS heA j.Race.av.length heC) 6 U bU U U)<|eS U (FA 2 U eU U)<|eS U (L1 (vI p.jm) 4 U bU U U) ?_
 have LT:=(d_ A).2
 obtain ⟨ht,K⟩:=aC j.Race.av ((p.jm).toNat) I
 obtain ⟨E,J⟩:=aC ha ((p.jm).toNat) I
 have GE:(List.zipWith bW j.Race.av ha)[(p.jm).toNat]? =some (bW ht E):=cv K J
 refine eS U (IA ((p.jm).toNat) U (ay 14 U) j8 dc I I)<|eS U (gD ((p.jm).toNat) 0 (vS E.1.1 ht.length E.1.2) U bU (ay 14 U) GE U dc U)<|eS U (FA 1 U eU U) ?_
 have Fn:=GT.ek _ _ _ K J
 have M2:=Fn.ly
 have NE:=(LT.ek ht (aM K)).1
 refine eS U (L1 (vI p.iQ) 4 U bU U U) ?_
 obtain ⟨d,hd⟩:=aC ht ((p.iQ).toNat) I
 obtain ⟨da,K0⟩:=aC E.2 ((p.iQ).toNat) I
 have K4:(List.zipWith ak.cells ht E.2)[(p.iQ).toNat]? =some (ak.cells d da):=cv hd K0
 refine eS U (IA ((p.iQ).toNat) U (show fY _ (rd E.1.1 ht.length 7 (List.zipWith ak.cells ht E.2)).holds from (bX 15 U (a_ K J bY))) mM dc I I) ?_
 have M:=pC (j:=j) (p:=p) K hd
 have Qh:=Fn.sig d (aM hd)
 refine eS U (jD ((p.iQ).toNat) 0 (aG.cells (aG.mk d.Out d.cJ d.Time (cL.mk d.aY.Start d.aY.gj (bE.mk da.1 d.aY.aa.length da.2)))) U bU (show fY _ (rd E.1.1 ht.length 7 (List.zipWith ak.cells ht E.2)).holds from (bX 15 U (a_ K J bY))) K4 U dc U U)<|eo U<|cp U fun T43 Do=>AL U BX fun Pi=>aK (Do _ _ (aR [1,2,3,4,5,6,7,8,9,10,11,12,13,14,15,16,17,18]) ?_)
 refine cp U fun T45 EQ=>eN U Ef U<|aK (EQ _ _ (aR [1,2,3,4,5,6,7,8,9,10,11,12,13,14,15,16,17,18]) ?_)
 refine fK U<|KK w<|aw<|eV 1 [] (mc 0 U mn) U<|rS (CL (ud d.Out d.cJ d.Time (cL.mk d.aY.Start d.aY.gj (bE.mk da.1 d.aY.aa.length da.2))) (aL) U)<|rP 1 [] mn ?_
 refine cG (t:=109) U (aU fun H=>?_) (aT fun H=>?_)
 ·refine bI 9 U<|RK L<|aq fun _ L0=>WS fun _ AO=>bI 2 U<|RK AO<|aN U<|WS fun _ A0=>bI 1 U<|RK A0<|bQ<|ag<|fG U<|ag<|ag<|aI<|KK C<|WS fun _ A1=>rP 2 [] mn ?_
  refine RK A1<|ar<|Q1 hQ U U U ?_
  exact cI (jN A (rZ hp (fun q=>by obtain ⟨d2,X,r1,r2⟩:=q.lY; rw [M] at X; cases X; first|exact H r1|omega))).symm
 refine rP 5 [0,1] (mc 0 U (mc 5 U mn)) ?_
 refine ew (xs:=[.tmp 114]) (cs:=[(vI p.At)]) U dy j7 U U U U (by simp [Value.cells]) U U fun I0=>?_
 refine rS (CL (dB.eq (ij d.aY.Start 86400000 ([p.At]) (some ⟨I0,0,none⟩) 1 (by (simp; done))) cy) (aD (bx 0 U U (by simp [bP]) U)<|aL) U) ?_
 refine bI 2 U<|RK L<|aq fun _ x=>WS fun _ y=>rP 2 [] mn ?_
 refine RK y<|bR U (aW fun F=>?_) (aX fun F=>?_)
 ·refine WK x<|aw<|eV 3 [] (mc 6 U mn) U<|aK<|aP<|KK R<|aw<|rP 2 [] mn ?_
  refine aK ?_
  have Eq:(vI (pN j (k+1)))=(vI p.Id):=by exact cI (nM hp)
  have FQ:(vI (((k+1):Nat):Int))=(vI ((k:Int)+1)):=by exact cI I
  refine bu (P ⟨(k+1),(by exact ⟨I,td D hp (Mp hp Y K8.1 Z a T M H F)⟩)⟩ _ _ _ U os (cP 4<|bw U Eq<|bw U FQ<|dp.nil _) (aR [7,8,9,10,11,12,13,14,15,16,17,18,19]))
 refine WS fun _ AC=>bI 1 U<|RK AC<|bQ<|ag<|fG U<|ag<|ag<|aI<|KK C<|WS fun _ AK=>rP 2 [] mn ?_
 refine RK AK<|ar<|Q1 hQ U U U ?_
 exact cI (jN A (rZ hp (fun q=>by obtain ⟨d2,X,r1,r2⟩:=q.lY; rw [M] at X; cases X; first|exact H r1|omega))).symm
theorem sv (j:cS) (kA:OA) (kC:Nat) (az:List RA) (cA:OA) (cC:Nat) (bA:OA) (bC:Nat) (slA:OA) (slC:Nat) (drA:OA) (drC:Nat) (ha:List cD) (heA:OA) (heC:Nat) (faA:OA) (faC:Nat) (prA:OA) (prC:Nat) (hin:gX j az ha):
 dB Tryz.prog 40 [(vA (gh.cells (nt j kA kC cA cC bA bC slA slC drA drC heA heC faA faC prA prC)))] [(rd gd 3 2 fr),(rd kA j.Race.ao.aO.length 9 (j.Race.ao.aO.map au.cells)),(rd cA j.Race.ao.aj.length 2 (List.zipWith ax.cells j.Race.ao.aj az)),(dE (bg ax.e_ j.Race.ao.aj az)),(rd bA j.Race.ao.ab.length 4 (j.Race.ao.ab.map bK.cells)),(rd slA j.Race.aV.length 1 (j.Race.aV.map iC)),(rd drA j.Race.bV.length 1 (j.Race.bV.map iC)),(rd heA j.Race.av.length 1 (List.zipWith bW j.Race.av ha)),(dE (bg er j.Race.av ha)),(rd faA j.aS.length 4 (j.aS.map aZ.cells)),(rd prA j.aJ.length 5 (j.aJ.map br.cells))] (vT [(vA (dg.cells (dg.mk (nt j kA kC cA cC bA bC slA slC drA drC heA heC faA faC prA prC)))),(vI (dG j))]):=by
 refine bJ kr Tryz.func40 U U fun E Q hQ hN=>?_
 try dsimp only
 refine WS fun _ A=>eJ U fun C=>AL U DH fun D=>bI 1 U<|RK A<|aq fun _ B=>cW cg 4 kr<|kv 1 [] (mc 1 U mn) U<|dS (SX (bp (xs:=[(0,.tmp 4)]) (cs:=(dg.cells (dg.mk (nt j kA kC cA cC bA bC slA slC drA drC heA heC faA faC prA prC)))) U U (bq UI U)) U U)<|kv 1 [] (mc 1 U mn) U<|dS (CL (JP j kA kC az cA cC bA bC slA slC drA drC ha heA heC faA faC prA prC hin) (bo [2,3,4,5,6,7,8,9,10,11,12]) U)<|cx<|eN U Er U<|rP 1 [] mn ?_
 refine RK B<|ar<|l5 hQ [0] (mc 0 U mn) U ?_
 rfl
end
section
open Go.RowKit
theorem Lp (l:List aZ) (lA:OA) (lC:Nat) (f:Value) (p:aZ→Bool) (X:aA) (hf: ∀ x0,x0∈l→D4 Tryz.prog f [.agg (aZ.cells x0).toArray] [X] (.bool (p x0))) (hlen:l.length≤1000000):
 dB Tryz.prog 123 [(vS lA l.length lC),f] [(rd lA l.length 4 (l.map aZ.cells)),X] (vI (sU p l)):=by
 refine bJ kr Tryz.func123 U U fun R Q hQ hN=>?_
 try dsimp only
 refine WS fun _ G=>bI 1 U<|RK G<|aq fun _ H=>WS fun _ AA=>rP 3 [] mn ?_
 refine RK AA<|aH ?_
 have B:(0≤l.length)∧((l.take 0).any p=false):=by simp
 refine bS (ι:={z:Nat // (z≤l.length)∧((l.take z).any p=false)}) [0,1,7] [0,1] U U (fun z=>[(8,(vI (z.1:Int)))]) (fun z=>[]) (fun _=>rfl) (fun _=>rfl) (fun z=>l.length-z.1) ⟨0,B⟩ (bD U) (aR [0,1]) ?_
 clear B
 rintro ⟨i,⟨N,A⟩⟩ J4 F
 try dsimp only
 refine WS fun _ J=>rP 1 [] mn ?_
 refine RK J<|aq fun _ K=>bR U (aU fun P=>?_) (aT fun P=>?_)
 ·refine bQ<|ag<|ag<|aI<|KK H<|WS fun _ E=>rP 1 [] mn ?_
  refine RK E<|ar<|Q1 hQ U U U ?_
  exact cI (qe I A).symm
 refine WK K<|aq fun _ L=>aH<|WS fun _ M=>bI 2 U<|RK M<|WS fun _ C=>rP 3 [] mn ?_
 obtain ⟨x,hx⟩:=aC l i I
 have O:=bO aZ.cells hx
 refine rS (IA i U (ay 0 U) C5 dc I I)<|rS (jD i 0 (aZ.cells x) U bU (ay 0 U) O U dc U U)<|rS (SX (qi U U U (hf x (aM hx)) (bo [1])) U U)<|RK C<|ck U (fun hp=>?_) (fun hp=>?_)
 ·refine WS fun _ D=>rP 2 [] mn ?_
  refine RK D<|ar<|Q1 hQ U U U ?_
  exact cI (uY hx hp A).symm
 refine cj<|aP<|KK L<|aw<|rP 2 [] mn ?_
 refine aK ?_
 refine bu (F ⟨(i+1),⟨I,ug hx A hp⟩⟩ _ _ _ U os (bD U) (aR [0,1]))
theorem CT (l:List aZ) (lA:OA) (lC:Nat) (f:Value) (p:aZ→Bool) (X:aA) (hf: ∀ x0,x0∈l→D4 Tryz.prog f [.agg (aZ.cells x0).toArray] [X] (.bool (p x0))) (hlen:l.length≤1000000):
 dB Tryz.prog 98 [(vS lA l.length lC),f] [(rd lA l.length 4 (l.map aZ.cells)),X] (vB (l.any p)):=by
 refine bJ kr Tryz.func98 U U fun C Q hQ hN=>?_
 try dsimp only
 refine WS fun _ A=>bI 1 U<|RK A<|WS fun _ B=>bI 2 U<|rS (CL (Lp l lA lC f p X (by exact hf) hlen) (bo [0,1]) U)<|rP 2 [] mn ?_
 refine RK B<|ar<|Q1 hQ U U U ?_
 exact cB sI
theorem P7 (f:aZ) (fm:List (Int×Bool)) (gm:Nat) (j:cS) (kA:OA) (kC:Nat) (az:List RA) (cA:OA) (cC:Nat) (bA:OA) (bC:Nat) (slA:OA) (slC:Nat) (drA:OA) (drC:Nat) (ha:List cD) (heA:OA) (heC:Nat) (faA:OA) (faC:Nat) (prA:OA) (prC:Nat) (d:ak) (sgA:OA) (sgC g1:Nat) (g2 g3:Nat) (hin:gX j az ha) (hok:dG j=0) (hfm:f∈j.aS) (hsl:d.aY.aa.length≤1000000):
 dB Tryz.prog 99 [(vA (aZ.cells f)),(vP g1),(vP g2),(vP g3)] [(ku iV gm (cU vB fm)),(rd kA j.Race.ao.aO.length 9 (j.Race.ao.aO.map au.cells)),(rd cA j.Race.ao.aj.length 2 (List.zipWith ax.cells j.Race.ao.aj az)),(dE (bg ax.e_ j.Race.ao.aj az)),(rd bA j.Race.ao.ab.length 4 (j.Race.ao.ab.map bK.cells)),(rd slA j.Race.aV.length 1 (j.Race.aV.map iC)),(rd drA j.Race.bV.length 1 (j.Race.bV.map iC)),(rd heA j.Race.av.length 1 (List.zipWith bW j.Race.av ha)),(dE (bg er j.Race.av ha)),(rd faA j.aS.length 4 (j.aS.map aZ.cells)),(rd prA j.aJ.length 5 (j.aJ.map br.cells)),(rd sgA d.aY.aa.length 2 (d.aY.aa.map aF.cells)),(cz g1 144 [(Value.map (some gm))]),(cz g2 97 (dg.cells (dg.mk (nt j kA kC cA cC bA bC slA slC drA drC heA heC faA faC prA prC)))),(cz g3 43 (aG.cells (aG.mk d.Out d.cJ d.Time (iN d.aY sgA sgC))))] (vB (((List.lookup (oV j.aS f) fm).getD false)&& !decide (hG j.Race.ao f d=0))):=by
 have L:=hin.race
 have AB:=hin.race.line
 have P:=hin.race.g8
 have R:=hin.race.has
 have M:=hin.race.g7
 have J:=hin.nf
 have K:=hin.np
 have D:=(eA hok).1
 have G:=(eA hok).2
 have H:=(d_ D).1
 have S:=(d_ D).2
 have F:=(eh H).2.head
 unfold eZ at F
 have C:=G.fault f hfm
 have O:0≤f.ig∧f.ig≤1000000:=by have N:=C.2.2; split at N<;>omega
 refine bJ kr Tryz.func99 U U fun AA Q hQ hN=>?_
 try dsimp only
 refine WS fun _ E=>eJ U fun T=>bI 1 U<|RK E<|aq fun _ B=>cW cg 15 kr<|kv 5 [0,1,2] (mr 13 U (mr 14 U (mc 0 U mn))) U<|dS (CL (Cd j.aS faA faC f asm) (bo [10]) U)<|dS (SX (wj (kV:=iV) (x:=(oV j.aS f)) (l:=fm) (f:=Value.bool) (z:=false) U U U CM (iJ qn) VM (by exact NF 1 U)) U U)<|dP 1 [] mn ?_
 refine hP (t:=13) U (fun A=>?_) (fun A=>?_)
 ·refine dP 7 [] mn ?_
  refine cx<|RK B<|ar<|Q1 hQ U U U ?_
  (rw [A,Bool.false_and]; done)
 refine kv 3 [0,1,2] (mr 14 U (mc 0 U (mr 15 U mn))) U<|dS (CL (AH j kA kC az cA cC bA bC slA slC drA drC ha heA heC faA faC prA prC f d sgA sgC hin (by exact C.1) asm hsl) (bo [2,3,4,5,6,7,8,9,10,11,12]) U)<|dS (BI U rm)<|dP 2 [] mn ?_
 refine cx<|RK B<|ar<|Q1 hQ U U U ?_
 (rw [A,Bool.true_and]; done)
end
section
open Go.RowKit
theorem NI (fm:List (Int×Bool)) (gm:Nat) (j:cS) (kA:OA) (kC:Nat) (az:List RA) (cA:OA) (cC:Nat) (bA:OA) (bC:Nat) (slA:OA) (slC:Nat) (drA:OA) (drC:Nat) (ha:List cD) (heA:OA) (heC:Nat) (faA:OA) (faC:Nat) (prA:OA) (prC g1 g2:Nat) (hin:gX j az ha) (hok:dG j=0):
 Pb Tryz.prog 97 [] [(vP g1),(vP g2)] [(ku iV gm (cU vB fm)),(rd kA j.Race.ao.aO.length 9 (j.Race.ao.aO.map au.cells)),(rd cA j.Race.ao.aj.length 2 (List.zipWith ax.cells j.Race.ao.aj az)),(dE (bg ax.e_ j.Race.ao.aj az)),(rd bA j.Race.ao.ab.length 4 (j.Race.ao.ab.map bK.cells)),(rd slA j.Race.aV.length 1 (j.Race.aV.map iC)),(rd drA j.Race.bV.length 1 (j.Race.bV.map iC)),(rd heA j.Race.av.length 1 (List.zipWith bW j.Race.av ha)),(dE (bg er j.Race.av ha)),(rd faA j.aS.length 4 (j.aS.map aZ.cells)),(rd prA j.aJ.length 5 (j.aJ.map br.cells)),(cz g1 97 (dg.cells (dg.mk (nt j kA kC cA cC bA bC slA slC drA drC heA heC faA faC prA prC)))),(cz g2 144 [(Value.map (some gm))])] ((0:Nat)) (Jb (hU j (lP j.aS fm))) (fun k=>k=j.Race.av.length):=by
 have Cx:=hin.race
 have Id:=hin.race.line
 have J8:=hin.race.g8
 have J9:=hin.race.has
 have J4:=hin.race.g7
 have In:=hin.nf
 have J3:=hin.np
 have Cp:=(eA hok).1
 have Kl:=(eA hok).2
 have IR:=(d_ Cp).1
 have If:=(d_ Cp).2
 have H1:=(eh IR).2.head
 unfold eZ at H1
 refine M8 kr Tryz.func97 U U fun l J Z A0 w0 Q hY Eq EQ hQ hN=>?_
 try dsimp only
 refine WS fun _ FS=>rP 6 [] (mr 12 U mn) ?_
 refine RK FS<|aH ?_
 have B:(0≤j.Race.av.length)∧(J 0 A0)∧(Fo A0 w0 A0):=by exact ⟨Nat.zero_le _,Eq,EQ⟩
 refine bS (ι:={z:Nat×aA // (z.1≤j.Race.av.length)∧(J z.1 z.2)∧(Fo A0 w0 z.2)}) [0,1,2,15,16] [1,2,3,4,5,6,7,8,9,10,11,12,13] U U (fun z=>[(17,(vI (z.1.1:Int)))]) (fun z=>[z.1.2]) (fun _=>rfl) (fun _=>rfl) (fun z=>j.Race.av.length-z.1.1) ⟨(0,A0),B⟩ (bD U) (aR [1,2,3,4,5,6,7,8,9,10,11,12,13,0]) ?_
 clear B
 rintro ⟨⟨h,A⟩,⟨X,F,G⟩⟩ J2 FQ
 try dsimp only at X F G
 try dsimp only
 refine WS fun _ Fd=>rP 1 [] mn ?_
 refine RK Fd<|aq fun _ Fn=>bR U (aU fun h5=>?_) (aT fun h5=>?_)
 ·refine bQ<|ag<|ag<|aI ?_
  refine hN _ _ _ (j0 (vs:=[]) trivial fun w hs=>PG 13 U (by show h=j.Race.av.length; omega) F G hs)
 refine WK Fn<|aq fun _ GE=>aH<|WS fun _ GT=>?_
 obtain ⟨ht,E⟩:=aC j.Race.av h I
 obtain ⟨C,D⟩:=aC ha h I
 have Ck:(List.zipWith bW j.Race.av ha)[h]? =some (bW ht C):=cv E D
 refine rS (IA h U (ay 7 U) j8 dc I I) ?_
 have Ci:=Cx.ek _ _ _ E D
 have I0:=Ci.ly
 have Je:=(If.ek ht (aM E)).1
 refine rS (gD h 0 (vS C.1.1 ht.length C.1.2) U bU (ay 7 U) Ck U dc U)<|rP 1 [] mn ?_
 refine RK GT<|WS fun _ Go=>mJ (kV:=iV) U U fun b9=>?_
 try dsimp only
 refine bI 1 U<|RK Go<|aq fun _ b=>WS fun _ e=>rP 3 [] mn ?_
 refine RK e<|aH ?_
 skip
 have B:(0≤ht.length):=by exact Nat.zero_le _
 refine bS (ι:={z:Nat // (z≤ht.length)}) [0,1,2,5,6,15,16,17,23] [1,2,3,4,5,6,7,8,9,10,11,12,13,14] U U (fun z=>[(24,(vI (z.1:Int)))]) (fun z=>[(ku iV b9 (cU vB (iu (lG j.Race.ao j.aS fm ht) z.1 0)))]) (fun _=>rfl) (fun _=>rfl) (fun z=>ht.length-z.1) ⟨0,B⟩ (bD U) (aR [1,2,3,4,5,6,7,8,9,10,11,12,13,14,0]) ?_
 clear B
 rintro ⟨q,IO⟩ J12 Y
 try dsimp only
 refine WS fun _ g=>rP 1 [] mn ?_
 refine RK g<|aq fun _ i=>ck U (aT fun Di=>?_) (aU fun Di=>?_)
 ·refine WK i<|aq fun _ m=>aH<|WS fun _ o=>bI 2 U<|RK o<|aw<|rP 2 [] mn ?_
  have A4:(eB (iu (lG j.Race.ao j.aS fm ht) q 0) (q:Int) true)=(iu (lG j.Race.ao j.aS fm ht) (q+1) 0):=by exact Iq
  refine iY (kV:=iV) (x:=(q:Int)) (C':=[_,_,_,_,_,_,_,_,_,_,_,_,_,_,(ku iV b9 (cU vB (iu (lG j.Race.ao j.aS fm ht) (q+1) 0)))]) 14 U U U U CM (iJ qn) U ((gR _ _ _ _).symm.trans (congrArg _ A4)) U<|aK<|aP<|KK m<|aw<|rP 2 [] mn ?_
  refine aK ?_
  have A5:(vI (((q+1):Nat):Int))=(vI ((q:Int)+1)):=by exact cI I
  refine bu (Y ⟨(q+1),(by first|omega|(simp only []; omega))⟩ _ _ _ U os (cP 9<|bw U A5<|dp.nil _) (aR [0,1,2,3,4,5,6,7,8,9,10,11,12,13,14]))
 refine bQ<|ag<|ag<|aI<|KK b<|aq fun _ p=>WS fun _ r=>rP 3 [] mn ?_
 refine RK r<|aH ?_
 rw [show (iu (lG j.Race.ao j.aS fm ht) q 0)=(iu (lG j.Race.ao j.aS fm ht) ht.length 0) from by rw [show q=ht.length by omega]]
 have B:(0≤ht.length):=by exact Nat.zero_le _
 refine bS (ι:={z:Nat // (z≤ht.length)}) [0,1,2,5,6,15,16,17,30,31] [0,1,2,3,4,5,6,7,8,9,10,11,12,13] U U (fun z=>[(32,(vI (z.1:Int)))]) (fun z=>[(ku iV b9 (cU vB (iu (lG j.Race.ao j.aS fm ht) ht.length z.1)))]) (fun _=>rfl) (fun _=>rfl) (fun z=>ht.length-z.1) ⟨0,B⟩ (bD U) (aR [0,1,2,3,4,5,6,7,8,9,10,11,12,13,14]) ?_
 clear B
 rintro ⟨q,C1⟩ J22 R
 try dsimp only
 refine WS fun _ s=>rP 1 [] mn ?_
 refine RK s<|aq fun _ t=>bR U (aU fun Dj=>?_) (aT fun Dj=>?_)
 ·refine bQ<|ag<|ag<|aI<|KK p<|WS fun _ y=>bI 1 U<|RK y<|aq fun _ AC=>WS fun _ AK=>rP 3 [] mn ?_
  refine RK AK<|aH ?_
  rw [show (iu (lG j.Race.ao j.aS fm ht) ht.length q)=(iu (lG j.Race.ao j.aS fm ht) ht.length ht.length) from by rw [show q=ht.length by omega]]
  refine eX 3 1 ?_
  have B:(0≤ht.length):=by exact Nat.zero_le _
  refine bS (ι:={z:Nat×(OA)×Nat // (z.1≤ht.length)}) [0,1,2,5,6,15,16,17,47] [1,2,3,4,5,6,7,8,9,10,11,12,13,14,15] U U (fun z=>[(10,(vS z.1.2.1 ((mh (lG j.Race.ao j.aS fm ht) z.1.1).length) z.1.2.2)),(48,(vI (z.1.1:Int)))]) (fun z=>[(own z.1.2.1 z.1.2.2 3 1 ((mh (lG j.Race.ao j.aS fm ht) z.1.1).map iC))]) (fun _=>rfl) (fun _=>rfl) (fun z=>ht.length-z.1.1) ⟨(0,none,0),B⟩ (bD U) (aR [1,2,3,4,5,6,7,8,9,10,11,12,13,14,15,0]) ?_
  clear B
  rintro ⟨⟨q,a,c⟩,M⟩ J37 S
  try dsimp only at M
  try dsimp only
  refine WS fun _ AO=>rP 1 [] mn ?_
  refine RK AO<|aq fun _ A1=>bR U (aU fun Do=>?_) (aT fun Do=>?_)
  ·refine bQ<|ag<|ag<|aI<|KK AC<|aq fun _ V=>?_
   rw [show (mh (lG j.Race.ao j.aS fm ht) q)=(mh (lG j.Race.ao j.aS fm ht) ht.length) from by rw [show q=ht.length by omega]]
   refine aw<|rP 2 [] mn ?_
   refine KB (k:=h) (k':=(h+1)) 13 15 U hY F G U U U ⟨_,_,_,Js E,U,U,U⟩ U U U U (fun B50 K AB=>?_) (fun B50 K AB=>?_)
   rotate_left 1
   ·refine rP 1 [] mn ?_
    refine RK V<|aN U<|ar ?_
    refine hQ _ _ _ (j0 (vs:=[]) trivial fun w hs=>F0 0 U K AB hs)
   refine bI 1 U<|RK V<|cq U<|cj<|aP<|KK GE<|aw<|rP 2 [] mn ?_
   refine aK ?_
   have B9:(vI (((h+1):Nat):Int))=(vI ((h:Int)+1)):=by exact cI I
   refine bu (FQ ⟨((h+1),B50),⟨I,K,AB⟩⟩ _ _ _ U os (cP 5<|bw U B9<|dp.nil _) (aR [1,2,3,4,5,6,7,8,9,10,11,12,13,0]))
  refine WK A1<|aq fun _ AA=>aH<|WS fun _ A2=>bI 2 U<|RK A2<|WS fun _ A3=>rP 2 [] mn ?_
  refine rS (SX (wj (kV:=iV) (x:=(q:Int)) (l:=(iu (lG j.Race.ao j.aS fm ht) ht.length ht.length)) (f:=Value.bool) (z:=false) U U U CM (iJ qn) VM (by exact ay 14 U)) U U)<|RK A3<|bR U (fun W=>?_) (fun W=>?_)
  ·refine cj<|aP<|KK AA<|aw<|rP 2 [] mn ?_
   refine aK ?_
   rw [show (mh (lG j.Race.ao j.aS fm ht) q)=(mh (lG j.Race.ao j.aS fm ht) (q+1)) from (sY (by rw [← zi (P:=(lG j.Race.ao j.aS fm ht)) (show q<ht.length by omega)]; simpa using W)).symm]
   have B3:(vI (((q+1):Nat):Int))=(vI ((q:Int)+1)):=by exact cI I
   refine bu (S ⟨((q+1),a,c),(by first|omega|(simp only []; omega))⟩ _ _ _ U os (cP 10<|bw U B3<|dp.nil _) (aR [0,1,2,3,4,5,6,7,8,9,10,11,12,13,14,15]))
  refine aw<|rP 2 [] mn ?_
  refine ew (xs:=[.tmp 55]) (cs:=[(vI (q:Int))]) U dy j7 U U U U (by simp [Value.cells]) U U fun J6=>?_
  refine ed (es2:=(List.map iC (mh (lG j.Race.ao j.aS fm ht) (q+1)))) (m':=(mh (lG j.Race.ao j.aS fm ht) (q+1)).length) 16 U U U te U U sm (bx (es:=List.map iC [(q:Int)]) 0 U U (by simp [bP]) U) (lU _) (by have:=qv (P:=(lG j.Race.ao j.aS fm ht)) (n:=q); omega) (by have:=qv (P:=(lG j.Race.ao j.aS fm ht)) (n:=q); simp only [maxLen]; omega) (by rw [wW (by rw [← zi (P:=(lG j.Race.ao j.aS fm ht)) (show q<ht.length by omega)]; exact W)]; simp) sm U fun C2 C3=>?_
  try dsimp only
  refine bI 1 U<|aK<|aP<|KK AA<|aw<|rP 2 [] mn ?_
  refine aK ?_
  have A9:(vI (((q+1):Nat):Int))=(vI ((q:Int)+1)):=by exact cI I
  refine bu (S ⟨((q+1),C2,C3),(by first|omega|(simp only []; omega))⟩ _ _ _ U os (cP 10<|bw U A9<|dp.nil _) (aR [1,2,3,4,5,6,7,8,9,10,11,12,13,14,15,16]))
 refine WK t<|aq fun _ T=>aH<|WS fun _ u=>rP 1 [] mn ?_
 obtain ⟨d,hd⟩:=aC ht q I
 obtain ⟨da,CC⟩:=aC C.2 q I
 have Hi:(List.zipWith ak.cells ht C.2)[q]? =some (ak.cells d da):=cv hd CC
 refine rS (IA q U (show fY _ (rd C.1.1 ht.length 7 (List.zipWith ak.cells ht C.2)).holds from (bX 8 U (a_ E D bY))) mM dc I I) ?_
 have Kw:=Ci.sig d (aM hd)
 refine rS (jD q 0 (aG.cells (aG.mk d.Out d.cJ d.Time (cL.mk d.aY.Start d.aY.gj (bE.mk da.1 d.aY.aa.length da.2)))) U bU (show fY _ (rd C.1.1 ht.length 7 (List.zipWith ak.cells ht C.2)).holds from (bX 8 U (a_ E D bY))) Hi U dc U U)<|AL U BX fun L=>bI 1 U<|eN U Ef U<|RK u<|WS fun _ v=>rP 3 [] (mr 12 U mn) ?_
 refine rS (FU U) ?_
 refine rS (CL (CT j.aS faA faC (Value.func (.func 99) [].toArray [(vP g2),(vP g1),(vP L)].toArray) (fun O=>(((List.lookup (oV j.aS O) fm).getD false)&& !decide (hG j.Race.ao O d=0))) (dE [(ku iV gm (cU vB fm)),(rd kA j.Race.ao.aO.length 9 (j.Race.ao.aO.map au.cells)),(rd cA j.Race.ao.aj.length 2 (List.zipWith ax.cells j.Race.ao.aj az)),(dE (bg ax.e_ j.Race.ao.aj az)),(rd bA j.Race.ao.ab.length 4 (j.Race.ao.ab.map bK.cells)),(rd slA j.Race.aV.length 1 (j.Race.aV.map iC)),(rd drA j.Race.bV.length 1 (j.Race.bV.map iC)),(rd heA j.Race.av.length 1 (List.zipWith bW j.Race.av ha)),(dE (bg er j.Race.av ha)),(rd faA j.aS.length 4 (j.aS.map aZ.cells)),(rd prA j.aJ.length 5 (j.aJ.map br.cells)),(rd da.1 d.aY.aa.length 2 (d.aY.aa.map aF.cells)),(cz g2 144 [(Value.map (some gm))]),(cz g1 97 (dg.cells (dg.mk (nt j kA kC cA cC bA bC slA slC drA drC heA heC faA faC prA prC)))),(cz L 43 (aG.cells (aG.mk d.Out d.cJ d.Time (cL.mk d.aY.Start d.aY.gj (bE.mk da.1 d.aY.aa.length da.2)))))]) (by intro O N; exact k7 (fi:=[]) (ca:=[(vP g2),(vP g1),(vP L)]) (j1 (P7 O fm gm j kA kC az cA cC bA bC slA slC drA drC ha heA heC faA faC prA prC d da.1 da.2 g2 g1 L (by first|assumption|exact N|omega) (by first|assumption|exact N|omega) (by first|assumption|exact N|omega) (by first|assumption|exact N|omega)) (bo [0,1,2,3,4,5,6,7,8,9,10,11,12,13,14]))) asm) (dM 10 U U<|aD (jZ (ld [1,2,3,4,5,6,7,8,9,10,11]<|aD (show fY _ (rd da.1 d.aY.aa.length 2 (d.aY.aa.map aF.cells)).holds from (bX 9 U (a_ E D (dh _ (a_ hd CC (by simp [ak.e_]))))))<|dM 13 U U<|dM 12 U U<|dM 0 U U<|aL))<|aL) U) ?_
 refine rP 1 [] mn ?_
 refine RK v<|bR U (fun H=>?_) (fun H=>?_)
 ·rw [Bool.not_eq_false'] at H
  refine cj<|aP<|KK T<|aw<|rP 2 [] mn ?_
  refine aK ?_
  rw [show (iu (lG j.Race.ao j.aS fm ht) ht.length q)=(iu (lG j.Race.ao j.aS fm ht) ht.length (q+1)) from Hb (by rw [F6 hd]; simpa using H)]
  have A8:(vI (((q+1):Nat):Int))=(vI ((q:Int)+1)):=by exact cI I
  refine bu (R ⟨(q+1),(by first|omega|(simp only []; omega))⟩ _ _ _ U os (cP 10<|bw U A8<|dp.nil _) (aR [1,2,3,4,5,6,7,8,9,10,11,12,13,14,15]))
 rw [Bool.not_eq_true'] at H
 refine aw<|rP 2 [] mn ?_
 have A6:(fz (iu (lG j.Race.ao j.aS fm ht) ht.length q) (q:Int))=(iu (lG j.Race.ao j.aS fm ht) ht.length (q+1)):=by exact Iw (by rw [F6 hd]; exact H)
 refine tG (kV:=iV) (x:=(q:Int)) (C':=[_,_,_,_,_,_,_,_,_,_,_,_,_,_,_,(ku iV b9 (cU vB (iu (lG j.Race.ao j.aS fm ht) ht.length (q+1))))]) 15 U U U U CM (iJ qn) U ((nU _ _ _).symm.trans (congrArg _ A6)) U<|aK<|aP<|KK T<|aw<|rP 2 [] mn ?_
 refine aK ?_
 have A7:(vI (((q+1):Nat):Int))=(vI ((q:Int)+1)):=by exact cI I
 refine bu (R ⟨(q+1),(by first|omega|(simp only []; omega))⟩ _ _ _ U os (cP 10<|bw U A7<|dp.nil _) (aR [1,2,3,4,5,6,7,8,9,10,11,12,13,14,15]))
end
section
open Go.RowKit
theorem Py (gm:Nat) (j:cS) (kA:OA) (kC:Nat) (cA:OA) (cC:Nat) (bA:OA) (bC:Nat) (slA:OA) (slC:Nat) (drA:OA) (drC:Nat) (heA:OA) (heC:Nat) (faA:OA) (faC:Nat) (prA:OA) (prC:Nat):
 nG Tryz.prog 64 [(vA (dg.cells (dg.mk (nt j kA kC cA cC bA bC slA slC drA drC heA heC faA faC prA prC)))),(Value.map (some gm))] [] (fun (x:Nat×Nat)=>(Value.func (.func 97) [].toArray [(Value.pointer (some ⟨x.1,0,none⟩)),(Value.pointer (some ⟨x.2,0,none⟩))].toArray)) (fun (x:Nat×Nat)=>True) (fun (x:Nat×Nat)=>[(cz x.1 97 (dg.cells (dg.mk (nt j kA kC cA cC bA bC slA slC drA drC heA heC faA faC prA prC)))),(cz x.2 144 [(Value.map (some gm))])]):=by
 refine eO kr Tryz.func64 U U fun E Q hQ hN=>?_
 try dsimp only
 refine WS fun _ A=>eJ U fun C=>wM U U fun D=>bI 1 U<|RK A<|WS fun _ B=>rS (FU U)<|rP 1 [] mn ?_
 refine RK B<|ar<|LX hQ (C,D) [1,0] [] mn U U U U ?_
 trivial
theorem ME (fm:List (Int×Bool)) (gm:Nat) (j:cS) (kA:OA) (kC:Nat) (az:List RA) (cA:OA) (cC:Nat) (bA:OA) (bC:Nat) (slA:OA) (slC:Nat) (drA:OA) (drC:Nat) (ha:List cD) (heA:OA) (heC:Nat) (faA:OA) (faC:Nat) (prA:OA) (prC g1 g2:Nat) (hin:gX j az ha) (hok:dG j=0):
 nG Tryz.prog 96 [(vS none 0 0),(Value.func (.func 97) [].toArray [(vP g1),(vP g2)].toArray)] [(ku iV gm (cU vB fm)),(rd kA j.Race.ao.aO.length 9 (j.Race.ao.aO.map au.cells)),(rd cA j.Race.ao.aj.length 2 (List.zipWith ax.cells j.Race.ao.aj az)),(dE (bg ax.e_ j.Race.ao.aj az)),(rd bA j.Race.ao.ab.length 4 (j.Race.ao.ab.map bK.cells)),(rd slA j.Race.aV.length 1 (j.Race.aV.map iC)),(rd drA j.Race.bV.length 1 (j.Race.bV.map iC)),(rd heA j.Race.av.length 1 (List.zipWith bW j.Race.av ha)),(dE (bg er j.Race.av ha)),(rd faA j.aS.length 4 (j.aS.map aZ.cells)),(rd prA j.aJ.length 5 (j.aJ.map br.cells)),(cz g1 97 (dg.cells (dg.mk (nt j kA kC cA cC bA bC slA slC drA drC heA heC faA faC prA prC)))),(cz g2 144 [(Value.map (some gm))])] (fun (x:(List RA)×(OA)×Nat)=>(vS x.2.1 ((hU j (lP j.aS fm)).length) x.2.2)) (fun (x:(List RA)×(OA)×Nat)=>x.1.length=(hU j (lP j.aS fm)).length) (fun (x:(List RA)×(OA)×Nat)=>[(own x.2.1 x.2.2 29 1 (List.zipWith tw (hU j (lP j.aS fm)) x.1)),(bM (bg F1 (hU j (lP j.aS fm)) x.1))]):=by
 have W:=hin.race
 have P:=hin.race.line
 have g:=hin.race.g8
 have m:=hin.race.has
 have X:=hin.race.g7
 have AA:=hin.nf
 have V:=hin.np
 have f:(hU j (lP j.aS fm)).length=j.Race.av.length:=by unfold hU; rw [List.length_map]
 refine eO kr Tryz.func96 U U fun s Q hQ hN=>?_
 try dsimp only
 refine WS fun _ K=>wM U U fun T=>bI 1 U<|RK K<|aq fun _ L=>WS fun _ M=>rP 1 [] mn ?_
 refine RK M<|aH<|jl 1 U (by exact fun _ h=>h)<|jl 3 U (by exact fun _ h=>h)<|jl 5 U (by exact fun _ h=>h)<|jl 7 U (by exact fun _ h=>h)<|jl 9 U (by exact fun _ h=>h)<|jl 11 U (by exact fun _ h=>h)<|jl 13 U (by exact fun _ h=>h)<|jl 15 U (by exact fun _ h=>h)<|jl 17 U (by exact fun _ h=>h)<|jl 19 U (by exact fun _ h=>h)<|jl 21 U (by exact fun _ h=>h)<|jl 23 U (by exact fun _ h=>h)<|jl 25 U (by exact fun _ h=>h)<|eX 29 1<|nN ?_
 refine JI (L0:=[(2,(vP T))]) (F:=[(ku iV gm (cU vB fm)).ro,(rd kA j.Race.ao.aO.length 9 (j.Race.ao.aO.map au.cells)).ro,(rd cA j.Race.ao.aj.length 2 (List.zipWith ax.cells j.Race.ao.aj az)).ro,(dE (bg ax.e_ j.Race.ao.aj az)).ro,(rd bA j.Race.ao.ab.length 4 (j.Race.ao.ab.map bK.cells)).ro,(rd slA j.Race.aV.length 1 (j.Race.aV.map iC)).ro,(rd drA j.Race.bV.length 1 (j.Race.bV.map iC)).ro,(rd heA j.Race.av.length 1 (List.zipWith bW j.Race.av ha)).ro,(dE (bg er j.Race.av ha)).ro,(rd faA j.aS.length 4 (j.aS.map aZ.cells)).ro,(rd prA j.aJ.length 5 (j.aJ.map br.cells)).ro,(cz g1 97 (dg.cells (dg.mk (nt j kA kC cA cC bA bC slA slC drA drC heA heC faA faC prA prC)))).ro,(cz g2 144 [(Value.map (some gm))]).ro]) (fun k (y:(List RA)×(OA)×Nat)=>(y.1.length=k)) (fun k y=>[(bM (bg F1 (List.take k (hU j (lP j.aS fm))) y.1)),(own y.2.1 y.2.2 29 1 (List.zipWith tw (List.take k (hU j (lP j.aS fm))) y.1)),(cz T 51 [(vS y.2.1 ((List.take k (hU j (lP j.aS fm))).length) y.2.2)]),(ku iV gm (cU vB fm)).ro,(rd kA j.Race.ao.aO.length 9 (j.Race.ao.aO.map au.cells)).ro,(rd cA j.Race.ao.aj.length 2 (List.zipWith ax.cells j.Race.ao.aj az)).ro,(dE (bg ax.e_ j.Race.ao.aj az)).ro,(rd bA j.Race.ao.ab.length 4 (j.Race.ao.ab.map bK.cells)).ro,(rd slA j.Race.aV.length 1 (j.Race.aV.map iC)).ro,(rd drA j.Race.bV.length 1 (j.Race.bV.map iC)).ro,(rd heA j.Race.av.length 1 (List.zipWith bW j.Race.av ha)).ro,(dE (bg er j.Race.av ha)).ro,(rd faA j.aS.length 4 (j.aS.map aZ.cells)).ro,(rd prA j.aJ.length 5 (j.aJ.map br.cells)).ro]) (fun _ (_:Unit)=>False) (fun _ _=>[]) [0,1,15,16,17,18,19,20,21,22,23,24,25,26] [14,13,12,11,10,9,8,7,6,5,4,3,2] (([]:List RA),none,0) rfl rfl (NI fm gm j kA kC az cA cC bA bC slA slC drA drC ha heA heC faA faC prA prC g1 g2 (by first|assumption|omega|(simp; done)) (by first|assumption|omega|(simp; done))) rfl rfl rfl (by exact rfl) (by simp only [List.forall_mem_cons,List.not_mem_nil,false_imp_iff,implies_true,and_true]; exact ⟨⟨_,aM (i:=0) rfl,(dI (cb _))⟩,⟨_,aM (i:=1) rfl,(dI (cb _))⟩,⟨_,aM (i:=2) rfl,(dI (cb _))⟩,⟨_,aM (i:=3) rfl,(dI (cb _))⟩,⟨_,aM (i:=4) rfl,(dI (cb _))⟩,⟨_,aM (i:=5) rfl,(dI (cb _))⟩,⟨_,aM (i:=6) rfl,(dI (cb _))⟩,⟨_,aM (i:=7) rfl,(dI (cb _))⟩,⟨_,aM (i:=8) rfl,(dI (cb _))⟩,⟨_,aM (i:=9) rfl,(dI (cb _))⟩,⟨_,aM (i:=10) rfl,(dI (cb _))⟩,⟨_,aM (i:=11) rfl,(dI (cb _))⟩,⟨_,aM (i:=12) rfl,(dI (cb _))⟩⟩) (by rintro k x R0 p ⟨_,_,_,_,rfl,_,_⟩; rfl) rfl (bD rfl) ?_ ?_ (fun _ _ _ h=>h.elim) (fun _ _ h=>h.elim)
 rotate_left 1
 ·rintro q k ⟨gz,a,c⟩ B C
  have D:=C
  try dsimp only at D
  try dsimp only
  rw [show (List.take k (hU j (lP j.aS fm)))=(hU j (lP j.aS fm)) from List.take_of_length_le (by have d:k=j.Race.av.length:=B; omega)]
  have O:gz.length=(hU j (lP j.aS fm)).length:=by have d:k=j.Race.av.length:=B; omega
  refine aP<|KK L<|WS fun _ G=>rP 2 [] (mc 16 U mn) ?_
  refine RK G<|ar ?_
  refine hQ _ _ _ (rj 0 U U<|j0 (vs:=[(vS a ((hU j (lP j.aS fm)).length) c)]) ⟨U,trivial⟩ fun w hs=>Qy (gz,a,c) [15,14] ?_ ?_ U U (by show List.all _ _=true; simp only [il,List.all_nil,xd,Bool.and_true]; rfl) hs)
  ·rfl
  ·exact O
 rintro k x R0 p ⟨gz,a,c⟩ l ra rb S t K5 Qr6 o hx AB N H Y Z
 obtain ⟨xa,xc,row,A,rfl,rfl,rfl⟩:=hx
 have D:=AB
 try dsimp only at D
 try dsimp only
 have n:=(bf.1 A).1
 have E:gz.length=(List.take k (hU j (lP j.aS fm))).length:=by rw [List.length_take]; omega
 have R:(List.take (k+1) (hU j (lP j.aS fm))).length=k+1:=by rw [List.length_take]; omega
 refine aw<|rP 1 [] mn ?_
 refine aK<|bu (N _ _ ?_)
 refine aH<|aw<|rP 2 [] (mc 3 U mn) ?_
 refine ew (xs:=[.tmp 9]) (cs:=[(vS xa row.length xc)]) U BA RB U U U U (by simp [Value.cells]) U U fun r=>?_
 refine ed (es2:=(List.zipWith tw (List.take (k+1) (hU j (lP j.aS fm))) (gz++[(xa,xc)]))) (m':=(List.take (k+1) (hU j (lP j.aS fm))).length) 3 rfl rfl rfl Ux rfl rfl (lO E).symm (bx (es:=List.zipWith tw [row] [(xa,xc)]) 0 rfl rfl (by intro e he; simp [tw] at he; subst he; rfl) rfl) (Nt _ _) I (by simp only [maxLen]; omega) (by rw [xP A]; exact GO E.symm) (by exact lO (by rw [R]; simp; omega)) rfl fun b J=>?_
 try dsimp only
 refine Qs (Y':=bg F1 (List.take (k+1) (hU j (lP j.aS fm))) (gz++[(xa,xc)])) 2 16 U U (by rw [xP A]; exact DI E.symm U) ?_
 refine VX U Va U U<|aK<|aP ?_
 exact H ((gz++[(xa,xc)]),b,J) _ _ (by (rw [List.length_append]; simp; omega)) (aR [2,0,3,4,5,6,7,8,9,10,11,12,13,14,15])
theorem Mr (fm:List (Int×Bool)) (gm:Nat) (j:cS) (kA:OA) (kC:Nat) (az:List RA) (cA:OA) (cC:Nat) (bA:OA) (bC:Nat) (slA:OA) (slC:Nat) (drA:OA) (drC:Nat) (ha:List cD) (heA:OA) (heC:Nat) (faA:OA) (faC:Nat) (prA:OA) (prC g1 g2:Nat) (hin:gX j az ha) (hok:dG j=0):
 nG Tryz.prog 63 [(Value.func (.func 97) [].toArray [(vP g1),(vP g2)].toArray)] [(ku iV gm (cU vB fm)),(rd kA j.Race.ao.aO.length 9 (j.Race.ao.aO.map au.cells)),(rd cA j.Race.ao.aj.length 2 (List.zipWith ax.cells j.Race.ao.aj az)),(dE (bg ax.e_ j.Race.ao.aj az)),(rd bA j.Race.ao.ab.length 4 (j.Race.ao.ab.map bK.cells)),(rd slA j.Race.aV.length 1 (j.Race.aV.map iC)),(rd drA j.Race.bV.length 1 (j.Race.bV.map iC)),(rd heA j.Race.av.length 1 (List.zipWith bW j.Race.av ha)),(dE (bg er j.Race.av ha)),(rd faA j.aS.length 4 (j.aS.map aZ.cells)),(rd prA j.aJ.length 5 (j.aJ.map br.cells)),(cz g1 97 (dg.cells (dg.mk (nt j kA kC cA cC bA bC slA slC drA drC heA heC faA faC prA prC)))),(cz g2 144 [(Value.map (some gm))])] (fun (x:(List RA)×(OA)×Nat)=>(vS x.2.1 ((hU j (lP j.aS fm)).length) x.2.2)) (fun (x:(List RA)×(OA)×Nat)=>x.1.length=(hU j (lP j.aS fm)).length) (fun (x:(List RA)×(OA)×Nat)=>[(own x.2.1 x.2.2 29 1 (List.zipWith tw (hU j (lP j.aS fm)) x.1)),(bM (bg F1 (hU j (lP j.aS fm)) x.1))]):=by
 refine eO kr Tryz.func63 U U fun AA Q hQ hN=>?_
 try dsimp only
 refine WS fun _ B=>bI 1 U<|RK B<|WS fun _ C=>rP 1 [] mn ?_
 refine cX (ME fm gm j kA kC az cA cC bA bC slA slC drA drC ha heA heC faA faC prA prC g1 g2 hin hok) (bo [0,1,2,3,4,5,6,7,8,9,10,11,12]) U fun H E=>?_
 obtain ⟨A,F,G⟩:=H
 try dsimp only
 have D:=E
 refine rP 1 [] mn ?_
 refine RK C<|ar ?_
 refine LX hQ (A,F,G) [0,1] [] mn U (by show List.all _ _=true; simp only [il,List.all_nil,xd,Bool.and_true]; rfl) U U ?_
 exact D
end
end Go.Proofs.YtkaenmjhfajbkaaGreatDoor
