/-
 The statement topRepaired_said, part 6 of 9: B3, B5, B6, Rc1, Frozen, MarkD, Marks, Follow, OpenM, V2, V1, V4, V3, V5, V6, V8, Wh2, Rc2, Rc3, Rc4, Rs3, Rs4, Rs5, Rs6, Rs7, RkB, RaB, RtB, Rp0, Rp1, Rp2.
 Conditions: none.
-/
import Derived.Test.YtgnlmfdknlbkkaaGreatDoorTz1
import Derived.Test.YtgnlmfdknlbkkaaGreatDoorTz2
import Derived.Test.YtgnlmfdknlbkkaaGreatDoorTz3
import Derived.Test.YtgnlmfdknlbkkaaGreatDoorTz4
import Derived.Test.YtgnlmfdknlbkkaaGreatDoorTz5
open List (lookup map mem_of_getElem? range replicate zipWith)
namespace Go.Proofs.YtgnlmfdknlbkkaaGreatDoor
set_option maxRecDepth 100000
set_option maxHeartbeats 4000000
set_option linter.unusedVariables false
variable {A M α:Type} {E:fJ} {c:Code} {Q:du} {D:iF} {L:dJ} {C C0 C1:List au} {X:au} {w w0:World} {K:Act→World→Prop} {S:BS} {k g i j:Nat} {fn:Func} {R:Ending→World→Prop} {rs bl fb:List Nat} {fs bs:List FM} {q:aI×Int} {t:aI} {v y:Int}
abbrev n4:= @Bool.and_true
abbrev om:= @List.all_nil
abbrev AAS:= @cond_true
abbrev AAy:= @List.map_replicate
abbrev ABR:= @List.length_replicate
abbrev ACU:= @Int.natCast_eq_zero
section
open Go.RowKit
theorem KY (i:Int) (s:cY) (ts:List ag) (tsA:OA) (tsC g1:Nat) (hst: ∀ x∈ts,bW x) (hlen:ts.length≤12):
 dh Tryz.prog 219 [(vI i),(vA (cY.cells s)),(vP g1)] [(l0 tsA ts),(cb g1 273 (eQ.cells (eQ.mk (aZ.mk (aX.mk tsA ts.length tsC)))))] (vB (!(decide (gv ts s)))):=by
 refine bj kr Tryz.func219 U U fun G Q hQ hN=>?_
 try dsimp only
 refine aU bT 2 U<|dV U fun E=>aq aj 4 ?_;refine mj bX [0,1,2,3,4,5,6] [7,8,9,10,11,12,13,14,15,16,17,18,19,20,21,22,23,24,25,26] [false,false,false,false,false,false,false] [] [(cb E 111 (cY.cells s)),(l0 tsA ts).ro,(cb g1 273 (eQ.cells (eQ.mk (aZ.mk (aX.mk tsA ts.length tsC))))).ro] [] kr (aB [0,1,2]) (aB [])<|eS U (FA 0 U eB U)<|eS U (FA 0 U eB U)<|eS U (Mz (vS tsA ts.length tsC) 2 U bP U U)<|eS U (LN U UL)<|eS U (BI U (vZ ⟨I,I⟩))<|eS U (FA 0 U eB U)<|eS U (L1 (vI s.bk) 0 U bP U U)<|dL U<|N1 7<|NO U U [8,9,10,11,12,13,14,15,16,17,18,19,20,21,22,23,24,25,26] fun T4 B=>dC (xs:=[.tmp 12]) (cs:=[(vI s.bk)]) U cO jU U U U U (by simp [Value.cells]) U U fun F=>RD B 1 U<|ML [14,15,16,17,18,19,20,21,22,23,24,25,26,27,28,29,30,31,5] kr kr U _ U U (aB [1,2,3]) ?_;refine dS (CL (dh.eq (q_ 0 ((ts.length:Int)-1) ([s.bk]) (some ⟨F,0,none⟩) 1 (by (simp;done))) cp) (aw (aM 0 U U (by simp [br]) U)<|aA) U) ?_;refine dP 2 [] mn ?_;refine iI (t:=16) U (aK fun A=>?_) (aJ fun A=>?_)
 ·refine iQ 9 U<|iQ 7 U<|cy<|cr aj 3 hQ U U ?_
  (refine cB ?_;rw [bg (FG I)];rfl)
 refine iQ 1 U<|dS (LP (aa.cells s.mO) 1 U bP U U U)<|dP 5 [0,1] (mr 3 U (mc 1 U mn)) ?_;obtain ⟨x,hx⟩:=ay ts ((s.bk).toNat) I;have C:=bx ag.cells hx;refine dS (IA ((s.bk).toNat) U (av 2 U) vD dc I I)<|dS (p9 ((((s.bk).toNat)*9)+1) U (av 2 U) (e6 I dc) eB U) ?_;have D:=(hst x (aF hx)).2.1;simp only [cQ] at D;exact dS (p9 ((((s.bk).toNat)*9)+1) U (av 2 U) (e6 I dc) eB U)<|dS (gF ((s.bk).toNat) 1 (vI x.jd.Lo) U bP (av 2 U) C U dc U)<|iQ 1 U<|dS (CL (zg s.mO 0 (x.jd.Lo-1)) (aA) U)<|iQ 3 U<|cy<|cr aj 3 hQ U U<|c7 (fun b=>vB (!b)) (gR.2 (D9 I hx).symm)
variable (ts:List ag) (tsA:OA) (tsC:Nat) (l:List cY) (lA:OA) (lC:Nat)
theorem HF (f:Value) (p:Int→cY→Bool) (X:au) (hf:∀ x0 x1,(∃ k:Nat,x0=(k:Int)∧l[k]? =some x1)→BV Tryz.prog f [.int .i64 x0,.agg (cY.cells x1).toArray] [X] (.bool (p x0 x1))) (hlen:l.length≤1000000):
 ld Tryz.prog 218 [(vS lA l.length lC),f] [(rd lA l.length 3 (l.map cY.cells)),X] (fun (x:(OA)×Nat)=>(vS x.1 ((Ot (fun jj yy=>p (jj:Int) yy) l).length) x.2)) (fun (x:(OA)×Nat)=>True) (fun (x:(OA)×Nat)=>[(own x.1 x.2 3 1 ((Ot (fun jj yy=>p (jj:Int) yy) l).map iC))]):=by
 refine cU kr Tryz.func218 U U fun L Q hQ hN=>?_
 try dsimp only
 refine aq bT 19 ?_;refine eC 3 1 ?_;have A:(0≤l.length):=by exact c4 _
 refine bw (ι:={z:Nat×(OA)×Nat // (z.1≤l.length)}) [0,1,8,9] [1,2] U U (fun z=>[(5,(vS z.1.2.1 ((vd (fun jj yy=>p (jj:Int) yy) l z.1.1).length) z.1.2.2)),(10,(vI (z.1.1:Int)))]) (fun z=>[(own z.1.2.1 z.1.2.2 3 1 ((vd (fun jj yy=>p (jj:Int) yy) l z.1.1).map iC))]) (fun _=>rfl) (fun _=>rfl) (fun z=>l.length-z.1.1) ⟨(0,none,0),A⟩ (aN U) (aB [1,2,0]) ?_;clear A;rintro ⟨⟨i,a,c⟩,B⟩ J5 C
 try dsimp only at B
 try dsimp only
 refine aq bT 6 ?_;refine bE U (aH fun K=>?_) (aG fun K=>?_)
 ·refine aU aY 1 U<|aq fz 4 ?_;rw [Rb (p:=fun (i:Nat) x=>p (i:Int) x) (show i=l.length by omega)];refine aq aj 5 ?_;refine LX hQ (a,c) [2] [] mn U U U U ?_;trivial
 refine aq aY 7 ?_;obtain ⟨x,hx⟩:=ay l i I;have H:=bx cY.cells hx;refine rS (IA i U (av 0 U) Ol dc I I)<|rS (k8 i 0 (cY.cells x) U bP (av 0 U) H U dc U U)<|AL U Io fun AA=>aU aj 1 U<|eM U Uu U<|dF aj 7 [] (mc 0 U mn) U<|rS (SX (pq U U U (hf (i:Int) x ⟨i,U,hx⟩) (aP [2])) U U)<|aq aj 2 ?_;refine bE U (fun hp=>?_) (fun hp=>?_)
 ·refine aq aY 4 ?_;rw [← Sn (p:=fun (i:Nat) x=>p (i:Int) x) hx hp];refine aq aj 3 ?_;have E:(vI (((i+1):Nat):Int))=(vI ((i:Int)+1)):=by exact cI I
  refine aL (C ⟨((i+1),a,c),(by first|omega|(simp only [];omega))⟩ _ _ _ U os (cx 5<|aQ U E<|cV.nil _) (aB [1,2,3]))
 refine aq aY 3 ?_;refine dC (xs:=[.tmp 20]) (cs:=[(vI (i:Int))]) U cO jU U U U U (by simp [Value.cells]) U U fun J=>?_;refine de (es2:=(map iC (vd (fun jj yy=>p (jj:Int) yy) l (i+1)))) (m':=(vd (fun jj yy=>p (jj:Int) yy) l (i+1)).length) 4 U U U pG U U sm (aM (es:=map iC [(i:Int)]) 0 U U (by simp [br]) U) (j_ _) (by have:=Ge (p:=fun (i:Nat) x=>p (i:Int) x) (l:=l) (n:=i);simp;omega) (by have:=Ge (p:=fun (i:Nat) x=>p (i:Int) x) (l:=l) (n:=i);simp only [maxLen];omega) (by rw [Qj hx hp];simp) sm U fun F G=>?_
 try dsimp only
 refine aq aj 8 ?_;have D:(vI (((i+1):Nat):Int))=(vI ((i:Int)+1)):=by exact cI I
 refine aL (C ⟨((i+1),F,G),(by first|omega|(simp only [];omega))⟩ _ _ _ U os (cx 5<|aQ U D<|cV.nil _) (aB [2,3,4]))
theorem F8 (hst:∀ x∈ts,bW x) (hlen:ts.length≤12) (hl:l.length≤4):
 dh Tryz.prog 191 [(vA (eQ.cells (eQ.mk (aZ.mk (aX.mk tsA ts.length tsC))))),(vS lA l.length lC)] [(rd tsA ts.length 9 (ts.map ag.cells)),(rd lA l.length 3 (l.map cY.cells))] (vB (decide (∀ s∈l,gv ts s))):=by
 refine bj kr Tryz.func191 U U fun H Q hQ hN=>?_
 try dsimp only
 refine aU bT 2 U<|dV U fun A=>aq aj 6 ?_;refine rS (FU U) ?_;refine cX (HF l lA lC (Value.func (.func 219) [].toArray [(vP A)].toArray) (fun C B=>(!(decide (gv ts B)))) (iU [(rd tsA ts.length 9 (ts.map ag.cells)),(cb A 273 (eQ.cells (eQ.mk (aZ.mk (aX.mk tsA ts.length tsC)))))]) (by intro C B _;exact kT (fi:=[]) (ca:=[(vP A)]) (jJ (KY C B ts tsA tsC A (by first|assumption|omega) (by first|assumption|omega)) (aP [0,1]))) I) (gM 2 U U<|aw (jO (aP [1,0]))<|aA) U fun E D=>?_;obtain ⟨F,G⟩:=E
 try dsimp only
 exact cr aj 6 hQ rfl rfl<|c7 Value.bool (decide_eq_decide.2 (by rw [show ∀ n:Nat,((n:Int)=0)↔n=0 from fun n=>by omega,Lb];simp only [m5,r0];exact ⟨fun h s hs=>by obtain ⟨k,hk⟩:=s3 hs;exact h k s hk,fun h k s hk=>h s (mem_of_getElem? hk)⟩))
theorem Hd (z:aa) (hz:nk z):
 dh Tryz.prog 194 [(vA (aa.cells z))] [] (vA (aa.cells (pR z))):=by
 unfold nk at hz;refine bj kr Tryz.func194 U U fun C Q hQ hN=>?_
 try dsimp only
 refine aU bT 2 U<|dV U fun A=>AL U dD fun B=>dF aj 6 [] (mc 1 U mn) U<|rS (NG U ⟨I,I⟩)<|dF aj 2 [] (mc 1 U mn) U<|rS (NG U ⟨I,I⟩)<|rS (SX (aW (xs:=[(0,.tmp 5),(1,.tmp 8)]) (cs:=(aa.cells (aa.mk (-z.Hi) (-z.Lo)))) U U (aV gQ U)) U U)<|eM U cK U<|aq aj 3 ?_;exact Gx hQ [0] (mc 0 U mn) U U
theorem Zx (s:cY) (hlen:ts.length≤1000000) (hside:∀ x∈ts,0≤x.gu∧x.gu≤255):
 dh Tryz.prog 149 [(vA (aZ.cells (aZ.mk (aX.mk tsA ts.length tsC)))),(vA (cY.cells s))] [(rd tsA ts.length 9 (ts.map ag.cells))] (vT [(vA (aa.cells (Vk ts s))),(vI (I_ ts s))]):=by
 refine bj kr Tryz.func149 U U fun O Q hQ hN=>?_
 try dsimp only
 refine aU bT 2 U<|dV U fun K=>dV U fun L=>AL U dD fun M=>dF aj 6 [] (mc 2 U mn) U<|rS (CL (Ji ts tsA tsC hlen hside) (aP [3]) U)<|aU aj 3 U<|AL U MZ fun N=>eM U Qp U<|aq aj 10 ?_;refine bY U (aK fun he=>?_) (aJ fun he=>?_)
 ·refine aU aY 2 U<|rS (SX (aW (xs:=[]) (cs:=(aa.cells (aa.mk 0 0))) U U (aV gQ U)) U U)<|aU aj 1 U<|o_ U cK U<|aq aj 4 ?_;refine mP hQ [0] (mc 1 U mn) U ?_
  (have e:=PC (s:=s) (Cn he).1;rw [e.1,e.2,(Cn he).2]<;>rfl)
 refine aq aY 5 ?_;have B:=HU he;have C:=jF B;have G:=ky B;refine ck aj 2 [0,1] (mc 0 U (mc 2 U mn)) ?_;refine dC (xs:=[.tmp 20]) (cs:=(cY.cells s)) U Ol Io U U U U (by simp [Value.cells,cY.aD]) U U fun D=>?_;refine rS (CL (dh.eq (F8 ts tsA tsC ([s]) (some ⟨D,0,none⟩) 1 asm asm (by (simp;done))) Hr) (gM 5 U U<|aw (aM 0 U U (by simp [cY.aD]) U)<|aA) U) ?_;refine aq aj 3 ?_;refine bY U (aK fun A=>?_) (aJ fun A=>?_)
 ·refine aU aY 2 U<|rS (SX (aW (xs:=[]) (cs:=(aa.cells (aa.mk 0 0))) U U (aV gQ U)) U U)<|D2 U cK U<|aq aj 4 ?_;refine mP hQ [0] (mc 2 U mn) U ?_
  (have e:=P8 B A;rw [e.1,e.2]<;>rfl)
 refine aq aY 4 ?_;have J:=A.1;have F:=sT C A;refine dF aj 3 [0,1] (mc 1 U (mc 3 U mn)) U<|rS (CL (M7 ts tsA tsC 0 s.bk asm asm I) (aP [5]) U)<|aU aj 3 U<|AL U dD fun H=>AL U dD fun AA=>o_ U cK U<|eM U cK U<|ck aj 6 [] (mc 1 U mn) ?_;refine rS (LP (aa.cells s.mO) 5 U bP U U U)<|dC (xs:=[.tmp 34]) (cs:=(aa.cells s.mO)) U iv dD U U U U (by simp [Value.cells,aa.aD]) U U fun E=>?_;refine rS (CL (dh.eq (rJ (eV ts (0:Int).toNat (s.bk-0).toNat) ([s.mO]) (some ⟨E,0,none⟩) 1 (by exact tq C I) (by intro z hz;simp only [bU] at hz;subst hz;exact F) sm) pw) (aw (aM 0 rfl rfl (by simp [aa.aD]) rfl)<|aA) rfl) ?_;refine MA U cK U<|aq aj 4 ?_;refine mP hQ [0] (mc 5 U mn) U ?_
 (have e:=zu B A;rw [e.1,e.2];unfold QT;rw [show (s.bk-0).toNat=s.bk.toNat by rw [Int.sub_zero]]<;>rfl)
theorem SR (p:cY) (q:cY) (hlen:ts.length≤1000000) (hside:∀ x∈ts,0≤x.gu∧x.gu≤255):
 dh Tryz.prog 150 [(vA (aZ.cells (aZ.mk (aX.mk tsA ts.length tsC)))),(vA (cY.cells p)),(vA (cY.cells q))] [(l0 tsA ts)] (vT [(vA (aa.cells (mx ts p q))),(vI (nB ts p q))]):=by
 refine bj kr Tryz.func150 U U fun g Q hQ hN=>?_
 try dsimp only
 refine aU bT 2 U<|dV U fun X=>dV U fun Y=>dV U fun Z=>AL U dD fun c=>dF aj 6 [] (mc 3 U mn) U<|rS (CL (Ji ts tsA tsC hlen hside) (aP [4]) U)<|aU aj 3 U<|AL U MZ fun d=>eM U Qp U<|aq aj 10 ?_;refine bY U (aK fun he=>?_) (aJ fun he=>?_)
 ·refine aU aY 2 U<|rS (SX (aW (xs:=[]) (cs:=(aa.cells (aa.mk 0 0))) U U (aV gQ U)) U U)<|aU aj 1 U<|o_ U cK U<|aq aj 4 ?_;refine mP hQ [0] (mc 1 U mn) U ?_
  (have e:=xS (a:=p) (b:=q) (Cn he).1;rw [e.1,e.2,(Cn he).2]<;>rfl)
 refine aq aY 5 ?_;have A:=HU he;have E:=jF A;have S:=ky A;refine ck aj 3 [0,1,2] (mc 0 U (mc 3 U (mc 2 U mn))) ?_;refine dC (xs:=[.tmp 22,.tmp 23]) (cs:=((cY.cells p)++(cY.cells q))) U Ol Io U U U U (by simp [Value.cells,cY.aD]) U U fun N=>?_;refine rS (CL (dh.eq (F8 ts tsA tsC ([p,q]) (some ⟨N,0,none⟩) 2 asm asm (by (simp;done))) H_) (gM 6 U U<|aw (aM 0 U U (by simp [cY.aD]) U)<|aA) U) ?_;refine aq aj 3 ?_;refine bY U (aK fun C=>?_) (aJ fun C=>?_)
 ·refine aU aY 2 U<|rS (SX (aW (xs:=[]) (cs:=(aa.cells (aa.mk 0 0))) U U (aV gQ U)) U U)<|D2 U cK U<|aq aj 4 ?_;refine mP hQ [0] (mc 2 U mn) U ?_
  (have e:=qG A C;rw [e.1,e.2]<;>rfl)
 refine aq aY 4 ?_;obtain ⟨hp,hq⟩:=C;have V:=hp.1;have W:=hq.1;have R:=sT E hp;have M:=sT E hq;have L:=Ds R;have B:=tq E (f:=(min p.bk q.bk).toNat) (k:=(max p.bk q.bk-min p.bk q.bk).toNat) I;refine dF aj 5 [0,1,2] (mc 1 U (mc 4 U (mc 3 U mn))) U<|rS (MN U)<|dF aj 4 [0,1] (mc 4 U (mc 3 U mn)) U<|rS (MX U)<|rS (CL (M7 ts tsA tsC (min p.bk q.bk) (max p.bk q.bk) asm asm I) (aP [6]) U)<|aU aj 3 U<|AL U dD fun T=>AL U dD fun AA=>o_ U cK U<|eM U cK U<|ck aj 12 [0,1] (mc 5 U (mc 6 U mn)) ?_;refine bE U (aH fun D=>?_) (aG fun D=>?_)
 ·refine aq aY 3 ?_;refine cT bX [6,7,8] [] [] [0,1,2,3,5,6,7,8] [] U U U U U<|eS U (LW 1 U bP U U)<|eS U (FA 1 U eB U)<|eS U (LP (aa.cells q.mO) 4 U bP U U U)<|eS U (FA 1 U eB U)<|eS U (LP (aa.cells p.mO) 5 U bP U U U)<|eS U (CL (Hd p.mO asm) (aA) U)<|eS U (AG U)<|dL U<|bR U fun T26 AB=>dC (xs:=[.tmp 52,.tmp 55]) (cs:=((aa.cells q.mO)++(aa.cells (pR p.mO)))) U iv dD U U U U (by simp [Value.cells,aa.aD]) U U fun P=>bG (AB _ _ (aB [1,2,3,4,6,7,8,9]) ?_);refine bR U fun T28 J=>?_;refine rS (CL (dh.eq (rJ (eV ts (min p.bk q.bk).toNat ((max p.bk q.bk)-(min p.bk q.bk)).toNat) ([q.mO,(pR p.mO)]) (some ⟨P,0,none⟩) 2 (by first|exact B|exact Ds B) (by intro z hz;simp only [bI,h_,AAr] at hz;rcases hz with rfl|rfl;exact M;exact L) sm) FX) (aw (aM 0 rfl rfl (by simp [aa.aD]) rfl)<|aA) rfl) ?_;refine bG (J _ _ (aB [1,2,3,4,6,7,8,9]) ?_);refine bR U fun T29 K=>MA U cK U<|bG (K _ _ (aB [1,2,3,4,6,7,8,9]) ?_);refine eI U<|aq jC 2 ?_;refine mP hQ [0] (mc 5 U mn) U ?_
  (have e:=mQ A ⟨hp,hq⟩;rw [e.1,e.2];unfold lq Ao;rw [c1 D]<;>rfl)
 refine dF aY 2 [] (mc 1 U mn) U<|rS (CL (Hd (eV ts (min p.bk q.bk).toNat ((max p.bk q.bk)-(min p.bk q.bk)).toNat) asm) (aA) U)<|o_ U cK U<|aq aj 3 ?_;refine cT bX [6,7,8] [] [] [0,1,2,3,5,6,7,8] [] U U U U U<|eS U (LW 1 U bP U U)<|eS U (FA 1 U eB U)<|eS U (LP (aa.cells q.mO) 4 U bP U U U)<|eS U (FA 1 U eB U)<|eS U (LP (aa.cells p.mO) 5 U bP U U U)<|eS U (CL (Hd p.mO asm) (aA) U)<|eS U (AG U)<|dL U<|bR U fun T21 F=>dC (xs:=[.tmp 52,.tmp 55]) (cs:=((aa.cells q.mO)++(aa.cells (pR p.mO)))) U iv dD U U U U (by simp [Value.cells,aa.aD]) U U fun O=>bG (F _ _ (aB [1,2,3,4,6,7,8,9]) ?_);refine bR U fun T23 G=>?_;refine rS (CL (dh.eq (rJ (pR (eV ts (min p.bk q.bk).toNat ((max p.bk q.bk)-(min p.bk q.bk)).toNat)) ([q.mO,(pR p.mO)]) (some ⟨O,0,none⟩) 2 (by first|exact B|exact Ds B) (by intro z hz;simp only [bI,h_,AAr] at hz;rcases hz with rfl|rfl;exact M;exact L) sm) FX) (aw (aM 0 rfl rfl (by simp [aa.aD]) rfl)<|aA) rfl) ?_;refine bG (G _ _ (aB [1,2,3,4,6,7,8,9]) ?_);refine bR U fun T24 H=>MA U cK U<|bG (H _ _ (aB [1,2,3,4,6,7,8,9]) ?_);refine eI U<|aq jC 2 ?_;refine mP hQ [0] (mc 5 U mn) U ?_
 (have e:=mQ A ⟨hp,hq⟩;rw [e.1,e.2];unfold lq Ao;rw [c0 D]<;>rfl)
theorem tT (s:cY) (hst:∀ x∈ts,bW x) (hlen:ts.length≤12):
 dh Tryz.prog 126 [(vA (aZ.cells (aZ.mk (aX.mk tsA ts.length tsC)))),(vA (cY.cells s))] [(l0 tsA ts)] (vB (decide (gv ts s))):=by
 refine bj kr Tryz.func126 U U fun F Q hQ hN=>?_
 try dsimp only
 refine aU bT 2 U<|dV U fun D=>dV U fun E=>aU aj 4 U<|cL bX 22 kr<|jY 6 [0,1] (mc 0 U (mc 1 U mn)) U<|dS (CL (qU s.bk 0 ((ts.length:Int)-1)) (aA) U)<|dP 1 [] mn ?_;refine iM (t:=12) U (aH fun A=>?_) (aG fun A=>?_)
 ·refine iQ 8 U<|iQ 6 U<|cy<|cr aj 3 hQ U U ?_
  (refine cB ?_;rw [bg (FG I)])
 refine iQ 1 U<|dS (LP (aa.cells s.mO) 0 U bP U U U)<|dP 4 [0,1] (mc 1 U (mc 0 U mn)) ?_;obtain ⟨x,hx⟩:=ay ts ((s.bk).toNat) I;have B:=bx ag.cells hx;refine dS (IA ((s.bk).toNat) U (av 2 U) vD dc I I)<|dS (p9 ((((s.bk).toNat)*9)+1) U (av 2 U) (e6 I dc) eB U) ?_;have C:=(hst x (aF hx)).2.1;simp only [cQ] at C;exact dS (p9 ((((s.bk).toNat)*9)+1) U (av 2 U) (e6 I dc) eB U)<|dS (gF ((s.bk).toNat) 1 (vI x.jd.Lo) U bP (av 2 U) B U dc U)<|iQ 1 U<|dS (CL (sb s.mO 0 (x.jd.Lo-1)) (aA) U)<|iQ 2 U<|cy<|cr aj 3 hQ U U<|cB (gR.2 (D9 I hx).symm)
theorem DC (f t:Int) (hst:∀ x∈ts,bW x) (hlen:ts.length≤12) (hf:0≤f∧f≤t∧t≤ts.length):
 dh Tryz.prog 208 [(vA (aZ.cells (aZ.mk (aX.mk tsA ts.length tsC)))),(vI f),(vI t)] [(rd tsA ts.length 9 (ts.map ag.cells))] (vT [(vA (aa.cells (eV ts f.toNat (t-f).toNat))),(vA (aa.cells (hE ts f.toNat (t-f).toNat)))]):=by
 refine bj kr Tryz.func208 U U fun X Q hQ hN=>?_
 try dsimp only
 refine aU bT 2 U<|dV U fun AA=>AL U dD fun V=>AL U dD fun W=>aU aj 4 U<|AL U dD fun P=>AL U dD fun R=>aq aj 10 ?_;have A:(0≤(t-f).toNat):=by exact c4 _
 have E:(vI (f+(0:Int)))=(vI f):=by exact cI I
 refine bw (ι:={z:Nat // (z≤(t-f).toNat)}) [1,2,3,6,7,8,9] [2,3,4,5] U U (fun z=>[(10,(vI (f+(z.1:Int))))]) (fun z=>[(cb R 38 (aa.cells (hE ts f.toNat z.1))),(cb P 38 (aa.cells (eV ts f.toNat z.1)))]) (fun _=>rfl) (fun _=>rfl) (fun z=>(t-f).toNat-z.1) ⟨0,A⟩ (aQ U E<|cV.nil _) (aB [2,3,4,5,0,1]) ?_;clear A;rintro ⟨k,K⟩ J11 B
 try dsimp only
 refine aq bT 8 ?_;refine bE U (aH fun J=>?_) (aG fun J=>?_)
 ·refine aU aY 1 U<|aq fz 3 ?_;refine cT bX [2,3] [] [] [2,3,4,5] [] U U U U U<|eS U (LW 3 U bP U U)<|eS U (LW 2 U bP U U)<|dL U<|bR U fun T23 C=>o_ U cK U<|bG (C _ _ (aB [2,3,4,5]) ?_);refine bR U fun T24 D=>eM U cK U<|bG (D _ _ (aB [2,3,4,5]) ?_);refine eI U<|aq jC 2 ?_;refine mP hQ [0,1] (mc 1 U (mc 0 U mn)) U ?_;obtain rfl:k=(t-f).toNat:=I;rfl
 refine ck aY 9 [] (mc 2 U mn) ?_;obtain ⟨x,hx⟩:=ay ts (f.toNat+k) I;have N:=bx ag.cells hx;refine rS (IA (f.toNat+k) U (av 3 U) vD dc I I)<|rS (k8 (f.toNat+k) 0 (ag.cells x) U bP (av 3 U) N U dc U U)<|AL U HY fun O=>eM U Tc U<|aq aj 4 ?_;have AB:=hst x (aF hx);have T:=nY hst f.toNat k;have S:=IJ hst f.toNat k;have L:=AB.2.1;have M:=AB.2.2.1;simp only [cQ] at L M;refine dF aj 12 [0,1,0,1] (mc 6 U (mc 0 U mn)) U<|rS (SX (aW (xs:=[(0,.tmp 28),(1,.tmp 34)]) (cs:=(aa.cells (aa.mk (((eV ts f.toNat k).Lo)+x.jd.Lo) (((eV ts f.toNat k).Hi)+x.jd.Hi)))) U U (aV gQ U)) U U)<|XM U cK U<|dF aj 15 [0,1,0,1] (mc 5 U (mc 0 U mn)) U<|rS (SX (aW (xs:=[(0,.tmp 41),(1,.tmp 47)]) (cs:=(aa.cells (aa.mk (((hE ts f.toNat k).Lo)+x.kU.Lo) (((hE ts f.toNat k).Hi)+x.kU.Hi)))) U U (aV gQ U)) U U)<|MA U cK U<|aq aj 3 ?_;have F:(aa.cells (aa.mk (((eV ts f.toNat k).Lo)+x.jd.Lo) (((eV ts f.toNat k).Hi)+x.jd.Hi)))=(aa.cells (eV ts f.toNat (k+1))):=by rw [rX hx];rfl
 rw [F];have G:(aa.cells (aa.mk (((hE ts f.toNat k).Lo)+x.kU.Lo) (((hE ts f.toNat k).Hi)+x.kU.Hi)))=(aa.cells (hE ts f.toNat (k+1))):=by rw [rH hx];rfl
 rw [G];refine aq aY 5 ?_;have H:(vI (f+(((k+1):Nat):Int)))=(vI ((f+(k:Int))+1)):=by exact cI I
 refine aL (B ⟨(k+1),(by first|omega|(simp only [];omega))⟩ _ _ _ U os (cx 7<|aQ U H<|cV.nil _) (aB [1,2,3,4,5,6]))
end
section
open Go.RowKit
variable (b:df) (l:bf) (kA:OA) (kC:Nat) (az:List RA) (cA:OA) (cC:Nat) (bA:OA) (bC:Nat)
theorem V9 (hin:dX l az):
 dh Tryz.prog 158 [(vA (bV.cells (kO l kA kC cA cC bA bC)))] (rr l kA az cA bA) (vB (decide (fg l))):=by
 have O:=hin.sQ;have N:=hin.sR;have L:=hin.mE;have M:=hin.sP;refine bj kr Tryz.func158 U U fun R Q hQ hN=>?_
 try dsimp only
 refine aU bT 2 U<|dV U fun P=>ck aj 7 [] (mc 0 U mn) ?_;refine dC (xs:=[.tmp 4]) (cs:=[(vI l.g7)]) U cO jU U U U U (by simp [Value.cells]) U U fun F=>?_;refine rS (CL (dh.eq (iA 1 5000 ([l.g7]) (some ⟨F,0,none⟩) 1 (by (simp;done))) cp) (aw (aM 0 U U (by simp [br]) U)<|aA) U) ?_;refine aq aj 1 ?_;refine cz (t:=7) U (aH fun AA=>?_) (aG fun AA=>?_)
 ·exact cr aj 39 hQ U U<|cB (bg (by unfold fg;omega)).symm
 refine ck aj 3 [] (mc 1 U mn) ?_;refine dC (xs:=[.tmp 10]) (cs:=[(vI (l.aC.length:Int))]) U cO jU U U U U (by simp [Value.cells]) U U fun G=>?_;refine rS (CL (dh.eq (iA 1 4 ([(l.aC.length:Int)]) (some ⟨G,0,none⟩) 1 (by (simp;done))) cp) (aw (aM 0 U U (by simp [br]) U)<|aA) U) ?_;refine aq aj 2 ?_;refine cz (t:=14) U (aH fun J=>?_) (aG fun J=>?_)
 ·exact cr aj 32 hQ U U<|cB (bg (by unfold fg;omega)).symm
 refine ck aj 3 [] (mc 2 U mn) ?_;refine dC (xs:=[.tmp 17]) (cs:=[(vI (l.ai.length:Int))]) U cO jU U U U U (by simp [Value.cells]) U U fun H=>?_;refine rS (CL (dh.eq (iA 1 6 ([(l.ai.length:Int)]) (some ⟨H,0,none⟩) 1 (by (simp;done))) cp) (aw (aM 0 U U (by simp [br]) U)<|aA) U) ?_;refine aq aj 2 ?_;refine cz (t:=21) U (aH fun K=>?_) (aG fun K=>?_)
 ·exact cr aj 25 hQ U U<|cB (bg (by unfold fg;omega)).symm
 refine ck aj 6 [] (mc 3 U mn) ?_;refine dC (xs:=[.tmp 27]) (cs:=[(vI l.b_)]) U cO jU U U U U (by simp [Value.cells]) U U fun A=>?_;refine rS (CL (dh.eq (iA 0 ((l.ai.length:Int)-1) ([l.b_]) (some ⟨A,0,none⟩) 1 (by (simp;done))) cp) (aw (aM 0 U U (by simp [br]) U)<|aA) U) ?_;refine aq aj 2 ?_;refine cz (t:=31) U (aH fun D=>?_) (aG fun D=>?_)
 ·exact cr aj 15 hQ U U<|cB (bg (by unfold fg;omega)).symm
 refine ck aj 2 [] (mc 4 U mn) ?_;refine dC (xs:=[.tmp 33]) (cs:=[(vI l.eZ)]) U cO jU U U U U (by simp [Value.cells]) U U fun B=>?_;refine rS (CL (dh.eq (iA 0 3 ([l.eZ]) (some ⟨B,0,none⟩) 1 (by (simp;done))) cp) (aw (aM 0 U U (by simp [br]) U)<|aA) U) ?_;refine aq aj 2 ?_;refine cz (t:=37) U (aH fun E=>?_) (aG fun E=>?_)
 ·exact cr aj 9 hQ U U<|cB (bg (by unfold fg;omega)).symm
 refine ck aj 2 [] (mc 5 U mn) ?_;refine dC (xs:=[.tmp 39]) (cs:=[(vI l.dp)]) U cO jU U U U U (by simp [Value.cells]) U U fun C=>?_;refine rS (CL (dh.eq (iA 0 3 ([l.dp]) (some ⟨C,0,none⟩) 1 (by (simp;done))) cp) (aw (aM 0 U U (by simp [br]) U)<|aA) U) ?_;exact cr aj 5 hQ U U<|cB (gR.2 (by unfold fg;omega))
theorem Wf (hin:dX l az):
 dh Tryz.prog 159 [(vA (bV.cells (kO l kA kC cA cC bA bC)))] (rr l kA az cA bA) (vB (decide (∀ c∈l.aC,fD c))):=by
 have F:=hin.sQ;have E:=hin.sR;have C:=hin.mE;have D:=hin.sP;refine bj kr Tryz.func159 U U fun AA Q hQ hN=>?_
 try dsimp only
 refine aU bT 2 U<|dV U fun H=>ck aj 7 [] (mc 0 U mn) ?_;refine rS (CL (DB l.aC az cA cC (Value.func (.func 161) [].toArray [].toArray) (fun m=>(!(decide (fD m)))) (iU (bB aS.lf l.aC az)) (by intro G m a B A;exact kT (fi:=[]) (ca:=[]) (YI l.aC az G m a (by exact B) (by exact A) (by exact hin.UP _ _ _ B A))) asm asm) (Sf 2 3 3 U U U U U U) U) ?_;exact cr aj 5 hQ U U<|cB (by rw [AAB,r0];exact HK)
theorem Vd (g1:Nat) (hin:dX l az) (htr:cD l.bQ=true):
 dh Tryz.prog 165 [(vA (df.cells b)),(vP g1)] ((rr l kA az cA bA)++[(cb g1 28 (bV.cells (kO l kA kC cA cC bA bC)))]) (vB (!(decide (lj l b)))):=by
 have G:=hin.sQ;have E:=hin.sR;have C:=hin.mE;have D:=hin.sP;have F:=hin.side;refine bj kr Tryz.func165 U U fun J Q hQ hN=>?_
 try dsimp only
 refine aU bT 2 U<|dV U fun H=>aU aj 6 U<|rS (LPR (aZ.cells (aZ.mk (aX.mk kA l.bQ.length kC))) 5 U bP U U U)<|aU aj 1 U<|rS (LP (cY.cells b.mz) 0 U bP U U U)<|rS (CL (Zx l.bQ kA kC b.mz asm asm) (aP [1]) U)<|aU aj 3 U<|AL U dD fun AA=>eM U cK U<|aq aj 8 ?_;refine bK (t:=16) U (aK fun A=>?_) (aJ fun A=>?_)
 ·refine cr aj 14 hQ U U ?_
  (refine cB ?_;rw [bg (fun h:lj l b=>A ((Je htr).2 h.1))];rfl)
 refine ck aj 6 [0,1] (mr 6 U (mc 1 U mn)) ?_;refine dC (xs:=[.tmp 22]) (cs:=[(vI b.kD)]) U cO jU U U U U (by simp [Value.cells]) U U fun B=>?_;refine rS (CL (dh.eq (iA 0 ((l.aC.length:Int)-1) ([b.kD]) (some ⟨B,0,none⟩) 1 (by (simp;done))) cp) (aw (aM 0 U U (by simp [br]) U)<|aA) U) ?_;refine cr aj 6 hQ U U ?_
 (refine cB ?_;refine c7 Bool.not (gR.2 ⟨fun h=>⟨(Je htr).1 A,I,I⟩,fun h=>by have:=h.2;omega⟩))
theorem VZ (hin:dX l az) (htr:cD l.bQ=true):
 dh Tryz.prog 163 [(vA (bV.cells (kO l kA kC cA cC bA bC)))] (rr l kA az cA bA) (vB (decide (∀ b∈l.ai,lj l b))):=by
 have F:=hin.sQ;have E:=hin.sR;have C:=hin.mE;have D:=hin.sP;refine bj kr Tryz.func163 U U fun G Q hQ hN=>?_
 try dsimp only
 refine aU bT 2 U<|dV U fun A=>ck aj 7 [] (mc 0 U mn) ?_;refine rS (FU U) ?_;refine rS (CL (DP l.ai bA bC (Value.func (.func 165) [].toArray [(vP A)].toArray) (fun B=>(!(decide (lj l B)))) (iU [(l0 kA l.bQ),(yS cA l.aC az),(iU (bB aS.lf l.aC az)),(xP bA l.ai),(cb A 28 (bV.cells (kO l kA kC cA cC bA bC)))]) (by intro B _;exact kT (fi:=[]) (ca:=[(vP A)]) (jJ (Vd B l kA kC az cA cC bA bC A (by first|assumption|omega) (by first|assumption|omega)) (aP [0,1,2,3,4]))) asm) (gM 4 U U<|aw (jO (aP [1,2,3,4,0]))<|aA) U) ?_;exact cr aj 5 hQ U U<|cB (by rw [AAB,r0];exact LB)
theorem Ju (n:Int) (hin:dX l az) (htr:cD l.bQ=true) (hbk:∀ b∈l.ai,lj l b) (hn:0≤n∧n<(l.ai.length:Int)):
 dh Tryz.prog 98 [(vA (bV.cells (kO l kA kC cA cC bA bC))),(vI n)] (rr l kA az cA bA) (vI (mM l n.toNat)):=by
 have AA:=hin.sQ;have G:=hin.sR;have E:=hin.mE;have F:=hin.sP;have H:=hin.side;refine bj kr Tryz.func98 U U fun M Q hQ hN=>?_
 try dsimp only
 refine aU bT 2 U<|dV U fun J=>ck aj 8 [] (mc 0 U mn) ?_;obtain ⟨x,hx⟩:=ay l.ai ((n).toNat) I;have C:=bx df.cells hx;refine rS (IA ((n).toNat) U (av 4 U) wx dc I I)<|rS (p9 (((n).toNat)*4) U (av 4 U) (e6 I dc) eB U)<|rS (k8 ((n).toNat) 0 (cY.cells x.mz) U bP (av 4 U) C U dc U U)<|AL U Io fun K=>eM U Uu U<|aU aj 5 U<|rS (LP (aZ.cells (aZ.mk (aX.mk kA l.bQ.length kC))) 1 U bP U U U)<|dF aj 1 [] (mc 0 U mn) U<|rS (CL (Zx l.bQ kA kC x.mz asm asm) (aP [2]) U)<|aU aj 3 U<|AL U dD fun L=>eM U cK U<|aq aj 10 ?_;refine bE U (aH fun A=>?_) (aG fun A=>?_)
 ·refine yR aY 10 hQ [] (mc 0 U mn) U U ?_
  (refine c7 (Value.int .i64) ?_;rw [show n.toNat=0 by omega] at hx ⊢;rw [ye hx,(zu htr (hbk _ (mem_of_getElem? hx)).1).2])
 refine cT bX [14] [] [] [1,2,3,4,5,6] [] U U U U U<|eS U (FA 0 U eB U)<|eS U (LP (aZ.cells (aZ.mk (aX.mk kA l.bQ.length kC))) 1 U bP U U U)<|eS U (FA 3 U eB U)<|eS U (L1 (vS bA l.ai.length bC) 1 U bP U U)<|eS U (MV U)<|eS U (BI U (vZ ⟨I,I⟩)) ?_;obtain ⟨y,hy⟩:=ay l.ai (((n-1)).toNat) I;have D:=bx df.cells hy;refine eS U (IA (((n-1)).toNat) U (av 5 U) wx dc I I)<|eS U (p9 ((((n-1)).toNat)*4) U (av 5 U) (e6 I dc) eB U)<|eS U (k8 (((n-1)).toNat) 0 (cY.cells y.mz) U bP (av 5 U) D U dc U U)<|eS U (LW 0 U bP U U)<|eS U (CL (SR l.bQ kA kC y.mz x.mz asm asm) (aP [2]) U)<|eS U (MV U)<|eS U (EX U)<|eS U (EX U)<|dL U<|bR U fun T9 B=>eM U cK U<|bG (B _ _ (aB [1,2,3,4,5,6]) ?_);refine eI U<|yR jC 9 hQ [] (mc 0 U mn) U U ?_
 (refine c7 (Value.int .i64) ?_;rw [Em I hx (by rw [show n.toNat-1=(n-1).toNat by omega];exact hy),(mQ htr ⟨(hbk _ (mem_of_getElem? hy)).1,(hbk _ (mem_of_getElem? hx)).1⟩).2])
theorem VY (hin:dX l az) (htr:cD l.bQ=true) (hbk:∀ b∈l.ai,lj l b):
 dh Tryz.prog 166 [(vA (bV.cells (kO l kA kC cA cC bA bC)))] (rr l kA az cA bA) (vB (decide (∀ i,i<l.ai.length→1≤mM l i))):=by
 have K:=hin.sQ;have J:=hin.sR;have H:=hin.mE;have AA:=hin.sP;refine bj kr Tryz.func166 U U fun M Q hQ hN=>?_
 try dsimp only
 refine aU bT 2 U<|dV U fun L=>ck aj 13 [] (mc 0 U mn) ?_;have A:(0≤l.ai.length)∧(∀ j,j<0→1≤mM l j):=by exact ⟨c4 _,fun j hj=>absurd hj (s4 _)⟩
 refine bw (ι:={z:Nat // (z≤l.ai.length)∧(∀ j,j<z→1≤mM l j)}) [1,6] [0,1,2,3,4] U U (fun z=>[(7,(vI (z.1:Int)))]) (fun z=>[]) (fun _=>rfl) (fun _=>rfl) (fun z=>l.ai.length-z.1) ⟨0,A⟩ (aN U) (aB [0,1,2,3,4]) ?_;clear A;rintro ⟨i,⟨F,B⟩⟩ J5 E
 try dsimp only
 refine aq bT 6 ?_;refine bE U (aH fun G=>?_) (aG fun G=>?_)
 ·exact aU aY 1 U<|cr fz 8 hQ U U<|cB (cR (fun j hj=>B j I)).symm
 refine dF aY 14 [] (mc 0 U mn) U<|rS (CL (Ju l kA kC az cA cC bA bC (i:Int) hin htr hbk I) (aP [1,2,3,4]) U)<|aq aj 3 ?_;refine bY U (aG fun C=>?_) (aH fun C=>?_)
 ·exact cr aY 6 hQ U U<|cB (bg (fun h=>by have:=h i I;simp only [AAP] at C;omega)).symm
 refine aq aY 7 ?_;have D:(vI (((i+1):Nat):Int))=(vI ((i:Int)+1)):=by exact cI I
 refine aL (E ⟨(i+1),⟨I,fun j hj=>by rcases r4 j i with q|q;exact B j q;(obtain rfl:j=i:=by omega);simp only [AAP] at C;omega⟩⟩ _ _ _ rfl os (cV.cons rfl<|cV.cons rfl<|aQ rfl D<|cV.nil _) (aB [0,1,2,3,4]))
end
section
open Go.RowKit
theorem UR:
 dh Tryz.prog 112 [] [] (vA ((iy.cells (iy.mk (Value.func (.func 158) [].toArray [].toArray)))++(iy.cells (iy.mk (Value.func (.func 159) [].toArray [].toArray)))++(iy.cells (iy.mk (Value.func (.func 163) [].toArray [].toArray)))++(iy.cells (iy.mk (Value.func (.func 166) [].toArray [].toArray))))):=by
 refine bj kr Tryz.func112 U U fun B Q hQ hN=>?_
 try dsimp only
 refine aU bT 2 U<|AL U Yg fun A=>aU aj 4 U<|rS (SX (aW (xs:=[(0,.func 158)]) (cs:=(iy.cells (iy.mk (Value.func (.func 158) [].toArray [].toArray)))) U U (aV Jq U)) U U)<|rS (SX (aW (xs:=[(0,.func 159)]) (cs:=(iy.cells (iy.mk (Value.func (.func 159) [].toArray [].toArray)))) U U (aV Jq U)) U U)<|rS (SX (aW (xs:=[(0,.func 163)]) (cs:=(iy.cells (iy.mk (Value.func (.func 163) [].toArray [].toArray)))) U U (aV Jq U)) U U)<|rS (SX (aW (xs:=[(0,.func 166)]) (cs:=(iy.cells (iy.mk (Value.func (.func 166) [].toArray [].toArray)))) U U (aV Jq U)) U U)<|rS (SX (aW (xs:=[(0,.tmp 1),(1,.tmp 2),(2,.tmp 3),(3,.tmp 4)]) (cs:=((iy.cells (iy.mk (Value.func (.func 158) [].toArray [].toArray)))++(iy.cells (iy.mk (Value.func (.func 159) [].toArray [].toArray)))++(iy.cells (iy.mk (Value.func (.func 163) [].toArray [].toArray)))++(iy.cells (iy.mk (Value.func (.func 166) [].toArray [].toArray))))) U U (aV Yx U)) U U)<|eM U Xk U<|aq aj 3 ?_;exact Gx hQ [0] (mc 0 U mn) U U
variable (l:bf) (kA:OA) (kC:Nat) (az:List RA) (cA:OA) (cC:Nat) (bA:OA) (bC:Nat) (s:aR)
theorem v_ (hin:dX l az):
 dh Tryz.prog 70 [(vA (bV.cells (kO l kA kC cA cC bA bC)))] (rr l kA az cA bA) (vI (dU l)):=by
 have AA:=hin.sQ;have S:=hin.sR;have P:=hin.mE;have R:=hin.sP;have T:=hin.side;refine bj kr Tryz.func70 U U fun W Q hQ hN=>?_
 try dsimp only
 refine aU bT 2 U<|dV U fun V=>aU aj 7 U<|rS (LP (aZ.cells (aZ.mk (aX.mk kA l.bQ.length kC))) 0 U bP U U U)<|rS (CL (w6 l.bQ kA kC asm asm) (aP [1]) U)<|aq aj 9 ?_;refine bY U (aK fun B=>?_) (aJ fun B=>?_)
 ·refine cr aY 7 hQ U U ?_
  (refine cI ?_;rw [(Cn B).2,Cv (Cn B).1])
 refine aq aY 5 ?_;have A:=HU B;refine rS (CL UR (aA) U)<|aU aj 4 U<|iX 5<|eh fun R9 J=>aU bT 2 U<|rS (SX (cm (r:= .bool true) U U U hH) U U)<|aU aj 10 U<|rS (SX (q6 (vs:=(iy.cells (iy.mk (Value.func (.func 158) [].toArray [].toArray)))) 0 U U U Jw bP U dc U) U U)<|AL U JB fun L=>eM U IW U<|dF aj 7 [0,1] (mc 0 U (mc 1 U mn)) U<|rS (CL (V9 l kA kC az cA cC bA bC hin) (aP [2,3,4,5]) U)<|aq aj 3 ?_;refine bY U (aK fun F=>?_) (aJ fun F=>?_)
 ·exact cr aY 6 hQ U U<|cI (tL A fun h=>absurd h.head asm).symm
 refine aU aY 4 U<|rS (SX (cm (r:= .int .i64 1) U U U (jq ⟨dc,dc⟩)) U U)<|aU aj 2 U<|KK J<|eh fun R18 C=>aU bT 2 U<|rS (SX (cm (r:= .bool true) U U U hH) U U)<|aU aj 10 U<|rS (SX (q6 (vs:=(iy.cells (iy.mk (Value.func (.func 159) [].toArray [].toArray)))) 1 U U U Jw bP U dc U) U U)<|AL U JB fun M=>eM U IW U<|dF aj 7 [0,1] (mc 0 U (mc 2 U mn)) U<|rS (CL (Wf l kA kC az cA cC bA bC hin) (aP [3,4,5,6]) U)<|aq aj 3 ?_;refine bY U (aK fun G=>?_) (aJ fun G=>?_)
 ·exact cr aY 6 hQ U U<|cI (tL A fun h=>absurd h.clock asm).symm
 refine aU aY 4 U<|rS (SX (cm (r:= .int .i64 2) U U U (jq ⟨dc,dc⟩)) U U)<|aU aj 2 U<|KK C<|eh fun R27 D=>aU bT 2 U<|rS (SX (cm (r:= .bool true) U U U hH) U U)<|aU aj 10 U<|rS (SX (q6 (vs:=(iy.cells (iy.mk (Value.func (.func 163) [].toArray [].toArray)))) 2 U U U Jw bP U dc U) U U)<|AL U JB fun N=>eM U IW U<|dF aj 7 [0,1] (mc 0 U (mc 3 U mn)) U<|rS (CL (VZ l kA kC az cA cC bA bC hin asm) (aP [4,5,6,7]) U)<|aq aj 3 ?_;refine bY U (aK fun H=>?_) (aJ fun H=>?_)
 ·exact cr aY 6 hQ U U<|cI (tL A fun h=>absurd h.vJ asm).symm
 refine aU aY 4 U<|rS (SX (cm (r:= .int .i64 3) U U U (jq ⟨dc,dc⟩)) U U)<|aU aj 2 U<|KK D<|eh fun R36 E=>aU bT 2 U<|rS (SX (cm (r:= .bool true) U U U hH) U U)<|aU aj 10 U<|rS (SX (q6 (vs:=(iy.cells (iy.mk (Value.func (.func 166) [].toArray [].toArray)))) 3 U U U Jw bP U dc U) U U)<|AL U JB fun O=>eM U IW U<|dF aj 7 [0,1] (mc 0 U (mc 4 U mn)) U<|rS (CL (VY l kA kC az cA cC bA bC hin asm asm) (aP [5,6,7,8]) U)<|aq aj 3 ?_;refine bY U (aK fun AB=>?_) (aJ fun AB=>?_)
 ·exact cr aY 6 hQ U U<|cI (tL A fun h=>absurd h.Um asm).symm
 exact aU aY 4 U<|rS (SX (cm (r:= .int .i64 4) U U U (jq ⟨dc,dc⟩)) U U)<|aU aj 2 U<|KK E<|eh fun R45 K=>aU bT 2 U<|rS (SX (cm (r:= .bool false) U U U hH) U U)<|aU aj 5 U<|cr fz 8 hQ U U<|cI (z5 A (CM asm asm asm asm)).symm
theorem FQ (lo hi:Int) (f:Value) (p:Int→Bool) (X:au) (r:Int) (hf: ∀ x0,0≤x0∧x0<hi→BV Tryz.prog f [.int .i64 x0] [X] (.bool (p x0))) (hb:0≤lo∧lo≤r∧r≤hi∧hi≤100000000) (hno: ∀ x,lo≤x→x<r→p x=false) (hyes: ∀ x,r≤x→x<hi→p x=true):
 dh Tryz.prog 256 [(vI lo),(vI hi),f] [X] (vI r):=by
 refine bj kr Tryz.func256 U U fun G Q hQ hN=>?_
 try dsimp only
 refine aq bT 7 ?_;have A:(lo≤lo∧lo≤r)∧(r≤hi∧hi≤hi):=by omega
 refine bw (ι:={z:Int×Int // (lo≤z.1∧z.1≤r)∧(r≤z.2∧z.2≤hi)}) [2] [0] U U (fun z=>[(0,(vI z.1.1)),(1,(vI z.1.2))]) (fun z=>[]) (fun _=>rfl) (fun _=>rfl) (fun z=>(z.1.2-z.1.1).toNat) ⟨(lo,hi),A⟩ (aN U) (aB [0]) ?_;clear A;rintro ⟨⟨a,b⟩,⟨B,C⟩⟩ J3 D
 try dsimp only at B C
 try dsimp only
 refine aq bT 8 ?_;refine bE U (aH fun F=>?_) (aG fun F=>?_)
 ·exact aU aY 1 U<|cr fz 9 hQ U U<|cI I
 refine aU aY 9 U<|rS (BI U (sx I I I))<|aU aj 8 U<|rS (SX (pq U U U (hf (a+((b-a)/2)) I) (aP [0])) U U)<|aq aj 2 ?_;refine bY U (fun hp=>?_) (fun hp=>?_)
 ·refine aq aY 5 ?_;refine aL (D ⟨(a,(a+((b-a)/2))),(by dsimp only;rcases AAe (a+(b-a)/2) r with q|q;(have E:=hno _ I q;(rw [E] at hp;cases hp));(have E:=hyes _ q I;(refine ⟨⟨I,I⟩,I,I⟩)))⟩ _ _ _ rfl (by simp only [];omega) (aN rfl) (aB [0]))
 refine aq aY 6 ?_;refine aL (D ⟨(((a+((b-a)/2))+1),b),(by dsimp only;rcases AAe (a+(b-a)/2) r with q|q;(have E:=hno _ I q;(refine ⟨⟨I,I⟩,I,I⟩));(have E:=hyes _ q I;(rw [E] at hp;cases hp)))⟩ _ _ _ rfl (by simp only [];omega) (aN rfl) (aB [0]))
theorem N7 (u:Int) (c:aS) (sA:OA) (sC g1:Nat) (s:aR) (g2:Nat) (hc:fD c) (hu:0≤u∧u≤90000000):
 dh Tryz.prog 257 [(vI u),(vP g1),(vP g2)] [(qK sA c.bo),(cb g1 109 (dE.cells (dE.mk c.dI (aX.mk sA c.bo.length sC)))),(cb g2 85 (aR.cells s))] (vB (decide (s.Read≤u+(jm c u).Hi))):=by
 have A:=tv hc hu;refine bj kr Tryz.func257 U U fun B Q hQ hN=>?_
 try dsimp only
 refine aU bT 6 U<|cL bX 10 kr<|jY 3 [] (mr 1 U mn) U<|dS (CL (Ir c sA sC u hc hu) (aP [0]) U)<|dS (SX (oY (v:=(vI ((jm c u).Hi))) U U eB PS U) U U)<|dP 5 [] (mr 2 U mn) ?_;refine cy ?_;exact cr aj 3 hQ U U U
theorem OC (u:Int) (c:aS) (sA:OA) (sC g1:Nat) (s:aR) (g2:Nat) (hc:fD c) (hu:0≤u∧u≤90000000):
 dh Tryz.prog 259 [(vI u),(vP g1),(vP g2)] [(qK sA c.bo),(cb g1 109 (dE.cells (dE.mk c.dI (aX.mk sA c.bo.length sC)))),(cb g2 85 (aR.cells s))] (vB (decide (s.Read<u+(jm c u).Lo))):=by
 have A:=tv hc hu;refine bj kr Tryz.func259 U U fun B Q hQ hN=>?_
 try dsimp only
 refine aU bT 6 U<|cL bX 10 kr<|jY 3 [] (mr 1 U mn) U<|dS (CL (Ir c sA sC u hc hu) (aP [0]) U)<|dS (SX (oY (v:=(vI ((jm c u).Lo))) U U eB Dk U) U U)<|dP 5 [] (mr 2 U mn) ?_;refine cy ?_;exact cr aj 3 hQ U U U
theorem DH (hin:dX l az) (hok:nz l) (hs:(0≤s.fR∧s.fR≤(l.ai.length:Int)-1)∧0≤s.Read∧s.Read≤86400000):
 dh Tryz.prog 235 [(vA (bV.cells (kO l kA kC cA cC bA bC))),(vA (aR.cells s))] (rr l kA az cA bA) (vA (aa.cells (dw l s))):=by
 have S:=hin.sQ;have O:=hin.sR;have M:=hin.mE;have N:=hin.sP;refine bj kr Tryz.func235 U U fun W Q hQ hN=>?_
 try dsimp only
 refine aU bT 2 U<|dV U fun AA=>dV U fun D=>AL U dD fun V=>aq aj 3 ?_;refine cT bX [11,12] [] [] [0,1,2,3,4,5,6] [] U U U U U<|eS U (FA 2 U eB U)<|eS U (L1 (vS cA l.aC.length cC) 2 U bP U U)<|eS U (FA 3 U eB U)<|eS U (L1 (vS bA l.ai.length bC) 2 U bP U U)<|eS U (FA 0 U eB U)<|eS U (L1 (vI s.fR) 1 U bP U U) ?_;obtain ⟨y,hy⟩:=ay l.ai ((s.fR).toNat) I;have L:=bx df.cells hy;refine eS U (IA ((s.fR).toNat) U (av 6 U) wx dc I I)<|eS U (p9 ((((s.fR).toNat)*4)+3) U (av 6 U) (e6 I dc) eB U)<|eS U (gF ((s.fR).toNat) 3 (vI y.kD) U bP (av 6 U) L U dc U) ?_;have T:=(hok.vJ _ (aF hy)).2;obtain ⟨x,hx⟩:=ay l.aC ((y.kD).toNat) I;obtain ⟨xa,F⟩:=ay az ((y.kD).toNat) I;have K:(zipWith aS.cells l.aC az)[(y.kD).toNat]? =some (aS.cells x xa):=cE hx F;refine eS U (IA ((y.kD).toNat) U (av 4 U) xq dc I I)<|eS U (k8 ((y.kD).toNat) 0 (dE.cells (dE.mk x.dI (aX.mk xa.1 x.bo.length xa.2))) U bP (av 4 U) K U dc U U)<|dL U<|bR U fun T6 AB=>AL U zJ fun E=>bG (AB _ _ (aB [1,2,3,4,5,6,7]) ?_);refine bR U fun T8 J=>eM U CQ U<|bG (J _ _ (aB [1,2,3,4,5,6,7]) ?_);refine eI U<|aq jC 3 ?_;have A:=hok.clock _ (aF hx);have R:=jG (p:=iT x s.Read) (n:=86400001);have P:=jG (p:=iS x s.Read) (n:=86400001);refine rS (FU U) ?_;refine rS (CL (FQ 0 86400001 (Value.func (.func 257) [].toArray [(vP E),(vP D)].toArray) (fun B=>(decide (s.Read≤B+(jm x B).Hi))) (iU [(qK xa.1 x.bo),(cb E 109 (dE.cells (dE.mk x.dI (aX.mk xa.1 x.bo.length xa.2)))),(cb D 85 (aR.cells s))]) (gT (iT x s.Read) 86400001) (by intro B _;exact kT (fi:=[]) (ca:=[(vP E),(vP D)]) (jJ (N7 B x xa.1 xa.2 E s D (by first|assumption|omega) (by first|assumption|omega)) (Sf 0 1 2 U U U U U U))) I (by intro z G hz;exact (mC A G I).1 hz) (by intro z hz H;exact (mC A I H).2.1 hz)) (aw (jO (aw (show ig _ (qK xa.1 x.bo).holds from (ct 6 U (bq hx F (by simp [aS.lf]))))<|gM 0 U U<|gM 2 U U<|aA))<|aA) U) ?_;refine rS (FU U) ?_;refine rS (CL (FQ 0 86400001 (Value.func (.func 259) [].toArray [(vP E),(vP D)].toArray) (fun C=>(decide (s.Read<C+(jm x C).Lo))) (iU [(qK xa.1 x.bo),(cb E 109 (dE.cells (dE.mk x.dI (aX.mk xa.1 x.bo.length xa.2)))),(cb D 85 (aR.cells s))]) (gT (iS x s.Read) 86400001) (by intro C _;exact kT (fi:=[]) (ca:=[(vP E),(vP D)]) (jJ (OC C x xa.1 xa.2 E s D (by first|assumption|omega) (by first|assumption|omega)) (Sf 0 1 2 U U U U U U))) I (by intro z G hz;exact (mC A G I).2.2.1 hz) (by intro z hz H;exact (mC A I H).2.2.2 hz)) (aw (jO (aw (show ig _ (qK xa.1 x.bo).holds from (ct 6 U (bq hx F (by simp [aS.lf]))))<|gM 0 U U<|gM 2 U U<|aA))<|aA) U) ?_;refine aU aj 1 U<|rS (SX (aW (xs:=[(0,.tmp 18),(1,.tmp 21)]) (cs:=(aa.cells (aa.mk (gT (iT x s.Read) 86400001) ((gT (iS x s.Read) 86400001)-1)))) U U (aV gQ U)) U U)<|o_ U cK U<|aq aj 3 ?_;refine Gx hQ [0] (mc 1 U mn) U ?_;unfold dw ET;rw [zk hy hx]
theorem S7 (n:Int) (hin:dX l az):
 dh Tryz.prog 50 [(vA (bV.cells (kO l kA kC cA cC bA bC))),(vI n)] (rr l kA az cA bA) (vT [(vI (tM l n)),(vI (pk l n))]):=by
 have J:=hin.sQ;have AA:=hin.sR;have G:=hin.mE;have H:=hin.sP;refine bj kr Tryz.func50 U U fun N Q hQ hN=>?_
 try dsimp only
 refine aU bT 2 U<|dV U fun M=>dF aj 8 [] (mc 0 U mn) U<|rS (CL (v_ l kA kC az cA cC bA bC hin) (aP [1,2,3,4]) U)<|aq aj 9 ?_;refine bY U (aK fun A=>?_) (aJ fun A=>?_)
 ·refine aq aY 8 ?_;refine Q2 hQ U U U U ?_
  first|(have e:=xV (i:=n) A;rw [e.1,e.2]<;>rfl)|(have e:=wi (i:=n) A I;rw [e.1,e.2]<;>rfl)|(have e:=xj (i:=n) A I;rw [e.1,e.2]<;>rfl)
 refine aq aY 6 ?_;obtain ⟨E,B⟩:=er A;have D:=B.head;unfold fg at D;refine ck aj 4 [] (mc 0 U mn) ?_;refine dC (xs:=[.tmp 16]) (cs:=[(vI n)]) U cO jU U U U U (by simp [Value.cells]) U U fun F=>?_;refine rS (CL (dh.eq (iA 0 ((l.ai.length:Int)-1) ([n]) (some ⟨F,0,none⟩) 1 sd) cp) (aw (aM 0 U U (by simp [br]) U)<|aA) U) ?_;refine aq aj 3 ?_;refine bY U (aK fun C=>?_) (aJ fun C=>?_)
 ·refine aq aY 7 ?_;refine Q2 hQ U U U U ?_
  first|(have e:=xV (i:=n) A;rw [e.1,e.2]<;>rfl)|(have e:=wi (i:=n) A I;rw [e.1,e.2]<;>rfl)|(have e:=xj (i:=n) A I;rw [e.1,e.2]<;>rfl)
 refine aU aY 3 U<|cL bX 9 kr<|dP 2 [] (mc 1 U mn) ?_;refine dS (CL (Ju l kA kC az cA cC bA bC n hin sd (by exact B.vJ) sd) (aP [2,3,4,5]) U) ?_;have K:=BY E B.vJ n.toNat;have L:=B.Um n.toNat I;refine dS (BI U (nt ⟨I,I⟩))<|dP 2 [] (mc 1 U mn) ?_;refine dS (CL (Iv (1000*(mM l n.toNat)) l.g7 sd sd) (aA) U) ?_;refine iQ 2 U<|cy<|aq aj 3 ?_;refine Q2 hQ U U U U ?_
 first|(have e:=xV (i:=n) A;rw [e.1,e.2]<;>rfl)|(have e:=wi (i:=n) A I;rw [e.1,e.2]<;>rfl)|(have e:=xj (i:=n) A I;rw [e.1,e.2]<;>rfl)
end
section
open Go.RowKit
theorem OM (n lo hi:Int) (g1 g2:Nat):
 dh Tryz.prog 114 [(vI n),(vP g1),(vP g2)] [(cb g1 3 [(vI lo)]),(cb g2 3 [(vI hi)])] (vB (decide (n<lo∨hi<n))):=by
 refine bj kr Tryz.func114 U U fun B Q hQ hN=>?_
 try dsimp only
 refine ck bT 11 [] (mr 0 U mn) ?_;refine bK (t:=8) U (aG fun A=>?_) (aH fun A=>?_)
 ·exact cr aj 8 hQ U U<|cB (cR I).symm
 exact yR aj 8 hQ [] (mr 1 U mn) U U<|cB (gR.2 I)
theorem mX (lo hi:Int) (l:List Int) (lA:OA) (lC:Nat) (hlen:l.length≤1000000):
 dh Tryz.prog 72 [(vI lo),(vI hi),(vS lA l.length lC)] [(jx lA l)] (vB (oJ lo hi l)):=by
 refine bj kr Tryz.func72 U U fun D Q hQ hN=>?_
 try dsimp only
 refine aU bT 2 U<|sK U U fun A=>sK U U fun B=>aq aj 6 ?_;refine rS (FU U) ?_;refine rS (CL (pE l lA lC (Value.func (.func 114) [].toArray [(vP A),(vP B)].toArray) (fun C=>(decide (C<lo∨hi<C))) (iU [(cb A 3 [(vI lo)]),(cb B 3 [(vI hi)])]) (by intro C _;exact kT (fi:=[]) (ca:=[(vP A),(vP B)]) (jJ (OM C lo hi A B) (aP [0,1]))) hlen) (gM 2 U U<|aw (jO (aP [1,0]))<|aA) U) ?_;exact cr aj 5 hQ U U U
theorem IS (s:aa):
 dh Tryz.prog 76 [(vA (aa.cells s))] [] (vB (decide (ir s))):=by
 refine bj kr Tryz.func76 U U fun D Q hQ hN=>?_
 try dsimp only
 refine aU bT 2 U<|dV U fun C=>ck aj 9 [] (mc 0 U mn) ?_;refine dC (xs:=[.tmp 4,.tmp 6]) (cs:=[(vI s.Lo),(vI s.Hi)]) U cO jU U U U U (by simp [Value.cells]) U U fun A=>?_;refine rS (CL (dh.eq (mX 1 600000 ([s.Lo,s.Hi]) (some ⟨A,0,none⟩) 2 (by (simp;done))) qT) (aw (aM 0 U U (by simp [br]) U)<|aA) U) ?_;refine aq aj 1 ?_;refine cz (t:=9) U (aH fun B=>?_) (aG fun B=>?_)
 ·refine cr aj 10 hQ U U ?_;simp only [ir];exact cB (bg I).symm
 refine yR aj 10 hQ [] (mc 1 U mn) U U ?_;simp only [ir];exact cB (gR.2 I)
variable (d:ak) (sgA:OA) (sgC:Nat)
theorem MQ:
 dh Tryz.prog 300 [(vA (aO.cells (aO.mk d.Out d.cZ d.Time (jP d.bp sgA sgC))))] [(ke sgA d.bp.ab)] (vB (decide (oi d.bp))):=by
 refine bj kr Tryz.func300 U U fun D Q hQ hN=>?_
 try dsimp only
 refine aU bT 2 U<|dV U fun C=>ck aj 10 [] (mc 0 U mn) ?_;refine cz (t:=7) U (aH fun A=>?_) (aG fun A=>?_)
 ·refine cr aj 16 hQ U U ?_;simp only [oi];exact cB (bg I).symm
 refine ck aj 6 [] (mc 0 U mn) ?_;refine cz (t:=13) U (aH fun B=>?_) (aG fun B=>?_)
 ·refine cr aj 10 hQ U U ?_;simp only [oi];exact cB (bg I).symm
 refine yR aj 10 hQ [] (mc 0 U mn) U U ?_;simp only [oi];exact cB (gR.2 I)
theorem W5:
 dh Tryz.prog 298 [(vA (aO.cells (aO.mk d.Out d.cZ d.Time (jP d.bp sgA sgC))))] [(ke sgA d.bp.ab)] (vB d.Out):=by
 refine bj kr Tryz.func298 U U fun B Q hQ hN=>?_
 try dsimp only
 refine aq bT 2 ?_;refine dV U fun A=>yR aj 11 hQ [] (mc 0 U mn) U U ?_;rfl
theorem Zp:
 dh Tryz.prog 301 [(vA (aO.cells (aO.mk d.Out d.cZ d.Time (jP d.bp sgA sgC))))] [(ke sgA d.bp.ab)] (vB d.cZ):=by
 refine bj kr Tryz.func301 U U fun B Q hQ hN=>?_
 try dsimp only
 refine aq bT 2 ?_;refine dV U fun A=>yR aj 11 hQ [] (mc 0 U mn) U U ?_;rfl
theorem Zd:
 dh Tryz.prog 303 [(vA (aO.cells (aO.mk d.Out d.cZ d.Time (jP d.bp sgA sgC))))] [(ke sgA d.bp.ab)] (vB true):=by
 refine bj kr Tryz.func303 U U fun B Q hQ hN=>?_
 try dsimp only
 refine aU bT 2 U<|dV U fun A=>cr aj 9 hQ U U ?_;rfl
end
section
open Go.RowKit
structure O9 (S:BS) (w0:World) (X:au) (C0:List au) (w:World) (S':BS):Prop where
 st:St S w0 (X::C0) w
 w_: ∀ b,S'.w b↔ ∃ A∈C0,A.wf b
theorem GC {A B:au} (h:Gu A B):Gu A.ro B:=fun b C D=>⟨fun h=>h,(h b C D).2⟩
theorem Ee (i:Nat) (hn:decide (i::(range C.length).filter fun k=>k != i).Nodup=true) (hC:kQ C (i::(range C.length).filter fun k=>k != i)=X::C0) (h:∀ w S',O9 E.S E.w0 X C0 w S'→WJ ⟨E.P,E.r,E.n,S',w⟩ c Q D L (X.ro::C0)):WJ E c Q D L C:=fun a w hf hs=>by
 have F:=St.kQ _ hn hC hs;obtain ⟨G,H⟩:=AAT.1 F.sep;refine h w ⟨fun b=> ∃ A∈C0,A.wf b,fun _=>True⟩ ⟨F,fun b=>Iff.rfl⟩ a w hf ⟨ed.refl _ _,fun A hA=>?_,List.Pairwise.cons (fun B hB=>GC (G B hB)) H,fun A hA b hb=>?_,fun A hA b hb=> .inr trivial⟩
 ·rcases bI.1 hA with rfl|hA
  ·exact F.holds X (bZ ..)
  ·exact F.holds A (dk _ hA)
 ·rcases bI.1 hA with rfl|hA
  ·exact hb.elim
  ·exact .inr ⟨A,hA,hb⟩
theorem DK {S':BS} {C2:List au} (hz:O9 E.S E.w0 X C0 w S') (is:List Nat) (hn:decide is.Nodup=true) (hC:kQ C2 is=C1) (hwr:C1.all (·.wr)=true) (h:KJ E K D L (X::C1)):KJ ⟨E.P,E.r,E.n,S',w⟩ K D L C2:=fun a w' hf hs=>by
 have F:=St.kQ is hn hC hs;have C:=hz.st;obtain ⟨J,M⟩:=AAT.1 C.sep;have AA: ∀ b,X.fP b→ ¬ S'.w b:=fun b hb hw=>by
  obtain ⟨A,hA,hw⟩:=(hz.w_ b).1 hw;exact (J A hA b hb (A.l7 b hw)).2 hw
 have G: ∀ b,S'.w b→E.w0.heap.size≤b∨E.S.w b:=fun b hb=>by
  obtain ⟨A,hA,hw⟩:=(hz.w_ b).1 hb;exact C.own A (dk _ hA) b hw
 have H: ∀ A∈C1,∀ b,A.fP b→w.heap.size≤b∨S'.w b:=fun A hA b hb=>F.own A hA b (A.whole (dg.1 hwr A hA) b hb);refine h a w' hf ⟨?_,fun A hA=>?_,List.Pairwise.cons (fun B hB b hb hb'=>?_) F.sep,fun A hA b hb=>?_,fun A hA b hb=>?_⟩
 ·refine ⟨F.keeps.os.trans C.keeps.os,F.keeps.tape.trans C.keeps.tape,F.keeps.output.trans C.keeps.output,c6 C.keeps.size F.keeps.size,fun k hk hn'=>?_⟩;refine (F.keeps.block k (ABN hk C.keeps.size) fun hw=>?_).trans (C.keeps.block k hk hn');rcases G k hw with q|q
  ·omega
  ·exact hn' q
 ·rcases bI.1 hA with rfl|hA
  ·have hh:=C.holds A (bZ ..);exact A.qS w w' (fun b hb=>F.keeps.block b (A.lt w hh b hb) (AA b hb)) hh
  ·exact F.holds A hA
 ·exfalso;have hl:=X.lt w (C.holds X (bZ ..)) b hb;rcases H B hB b hb' with q|q
  ·omega
  ·exact AA b hb q
 ·rcases bI.1 hA with rfl|hA
  ·exact C.own A (bZ ..) b hb
  ·rcases F.own A hA b hb with q|q
   ·exact .inl (c6 C.keeps.size q)
   ·exact G b q
 ·rcases bI.1 hA with rfl|hA
  ·exact C.seen A (bZ ..) b hb
  ·rcases H A hA b hb with q|q
   ·exact .inl (c6 C.keeps.size q)
   ·obtain ⟨B,hB,hw⟩:=(hz.w_ b).1 q;exact C.seen B (dk _ hB) b (B.l7 b hw)
/-- put back, as it was -/
theorem Lj {f:M→A→List au} {ms:List M} {asl:List A} {m:M} {a:A} (hm:ms[k]? =some m) (ha:asl[k]? =some a) (hf:f m a=[X]) (h:St S w0 (X::bD (fF f ms asl k)::C) w):St S w0 (bD (bB f ms asl)::C) w:=by
 have B:St S w0 (bD (fF f ms asl k)::X::C) w:=h.perm (List.Perm.swap _ _ _);have D:St S w0 ((f m a++fF f ms asl k)++C) w:=by
  rw [hf];exact B.iJ.perm (v5 (a:=X) (l₁:=fF f ms asl k) (l₂:=C))
 exact kM (kN hm ha).symm D.tied
theorem Ph {f:M→A→List au} {ms:List M} {asl:List A} {m:M} {a:A} (i j:Nat) (hm:ms[k]? =some m) (ha:asl[k]? =some a) (hf:f m a=[X]) (hn:decide (j::i::(range C.length).filter fun k=>k != i&&k != j).Nodup=true) (hC:kQ C (j::i::(range C.length).filter fun k=>k != i&&k != j)=X::bD (fF f ms asl k)::C1) (h:KJ E K D L (bD (bB f ms asl)::C1)):KJ E K D L C:=fun a w hf' hs=>h a w hf' (Lj hm ha hf (St.kQ _ hn hC hs))
theorem Bz {f:M→A→List au} {ms:List M} {asl:List A} {m:M} {a:A} (hl:ms.length=asl.length) (hf:f m a=[X]):bB f ms asl++[X]=bB f (ms++[m]) (asl++[a]):=by
 rw [lF hl,← hf];simp [bB]
theorem BN {f:M→A→List au} {ms:List M} {asl:List A} {m:M} {a:A} (i j:Nat) (hf:f m a=[X]) (hn:decide (j::i::(range C.length).filter fun k=>k != i&&k != j).Nodup=true) (hC:kQ C (j::i::(range C.length).filter fun k=>k != i&&k != j)=X::bD (bB f ms asl)::C1) (h:KJ E K D L (bD (bB f (m::ms) (a::asl))::C1)):KJ E K D L C:=fun b w hf' hs=>by
 have B:=St.kQ _ hn hC hs;have F:St E.S E.w0 (bD (bB f ms asl)::X::C1) w:=B.perm (List.Perm.swap _ _ _);have G:St E.S E.w0 (bB f (m::ms) (a::asl)++C1) w:=by
  show St E.S E.w0 ((f m a++bB f ms asl)++C1) w
  rw [hf];exact F.iJ.perm (v5 (a:=X) (l₁:=bB f ms asl) (l₂:=C1))
 exact h b w hf' G.tied
end
section
open Go.RowKit
abbrev nR (r:Nat):au:=jT r (.deferred (some []))
theorem RV (rs:List Nat):(bD (rs.map nR)).wr=true:=by
 show (rs.map nR).all (·.wr)=true
 rw [dg];intro X hX;obtain ⟨r,_,rfl⟩:=cu.1 hX;rfl
theorem zc {ι:Type} (Di:ι→iF) (Li:ι→dJ) (Ci:ι→List au) (μ:ι→Nat) (x0:ι) (hD:D=Di x0) (h0:cV L (Li x0)) (hC:∀ w,St E.S E.w0 C w→St E.S E.w0 (Ci x0) w) (round:∀ x (J:Act→World→Prop),(∀ y D' L' C',D'=Di y→μ y<μ x→cV L' (Li y)→(∀ w,St E.S E.w0 C' w→St E.S E.w0 (Ci y) w)→KJ E J D' L' C')→WJ E c (Exit.then J Q) (Di x) (Li x) (Ci x)):WJ E (.loop c) Q D L C:=by
 intro a w hf hs;subst hD;have H: ∃ x,Fr E.n (Di x) (Li x) a∧St E.S E.w0 (Ci x) w:=⟨x0,hf.sub h0,hC w hs⟩;clear hf hs;have key: ∀ (m:Nat) (a:Act) (w:World),(∃ x,μ x=m∧Fr E.n (Di x) (Li x) a∧St E.S E.w0 (Ci x) w)→(Code.loop c).wpIn (Fw E.r) 0 E.P Q a w:=by
  intro m a w hx;refine wpIn_loop (fun a w=> ∃ x,Fr E.n (Di x) (Li x) a∧St E.S E.w0 (Ci x) w) (fun a w=>leastOf fun k=> ∃ x,μ x=k∧Fr E.n (Di x) (Li x) a∧St E.S E.w0 (Ci x) w) (by obtain ⟨x,_,h⟩:=hx;exact ⟨x,h⟩) ?_;intro a w hx;have F: ∃ k,∃ x,μ x=k∧Fr E.n (Di x) (Li x) a∧St E.S E.w0 (Ci x) w:=by obtain ⟨x,h⟩:=hx;exact ⟨_,x,rfl,h⟩
  obtain ⟨x,K,AA,M⟩:=(leastOf_spec F).1;refine round x _ ?_ a w AA M;intro y D' L' C' hD G A B a' w' hf' hs';subst hD;refine ⟨⟨y,hf'.sub A,B _ hs'⟩,?_⟩;rw [← K];exact ACY ((leastOf_spec ⟨_,y,U,hf'.sub A,B _ hs'⟩).2 _ ⟨y,U,hf'.sub A,B _ hs'⟩) G
 obtain ⟨x,h⟩:=H;exact key _ a w ⟨x,U,h⟩
theorem St.ZZ {X:List au} {A:au} (h:St S w0 (A::bD X::C) w):St S w0 (bD (A::X)::C) w:=by
 have B:St S w0 (bD X::A::C) w:=h.perm (List.Perm.swap _ _ _);have D:St S w0 ((A::X)++C) w:=B.iJ.perm (v5 (a:=A) (l₁:=X) (l₂:=C));exact D.tied
theorem Oq {X:List au} {A:au} (i j:Nat) (hn:decide (j::i::(range C.length).filter fun k=>k != i&&k != j).Nodup=true) (hC:kQ C (j::i::(range C.length).filter fun k=>k != i&&k != j)=A::bD X::C1) (h:KJ E K D L (bD (A::X)::C1)):KJ E K D L C:=fun a w hf hs=>h a w hf ((St.kQ _ hn hC hs).ZZ)
theorem GI (h:KJ E K D L (bD []::C)):KJ E K D L C:=fun a w hf hs=>h a w hf hs.VT
theorem UY (C1 C2:List au) (h:KJ E K D L (bD C1::C2)):KJ E K D L (C1++C2):=fun a w hf hs=>h a w hf (St.tied hs)
theorem RX (i:Nat) (hn:decide (i::(range C.length).filter fun k=>k != i).Nodup=true) (hC:kQ C (i::(range C.length).filter fun k=>k != i)=bD (rs.map nR)::C1) (h:LJ E fn R D L C1):LJ E fn R (rs.map jB++D) L C:=by
 have key: ∀ rs:List Nat,LJ E fn R (rs.map jB++D) L (bD (rs.map nR)::C1):=by
  intro rs
  induction rs with
  |nil=>exact fun a w hf hs=>h a w hf (hs.take (ABJ _ _))
  |cons r rs ih=>
   have A:LJ E fn R (jB r::(rs.map jB++D)) L (nR r::bD (rs.map nR)::C1):=nF 0 rfl rfl (fun a w hf hs=>ih a w hf (hs.take (ABJ _ _)));intro a w hf hs;refine A a w hf ?_;have B:St E.S E.w0 ((nR r::rs.map nR)++C1) w:=St.iJ (C1:=nR r::rs.map nR) hs;have F:St E.S E.w0 (rs.map nR++(nR r::C1)) w:=B.perm (v5 (a:=nR r) (l₁:=rs.map nR) (l₂:=C1)).symm;exact F.tied.perm (List.Perm.swap _ _ _)
 exact fun a w hf hs=>key rs a w hf (St.kQ _ hn hC hs)
theorem N8 (i:Nat) (hn:decide (i::(range C.length).filter fun k=>k != i).Nodup=true) (hC:kQ C (i::(range C.length).filter fun k=>k != i)=bD (rs.map nR)::C1) (h:LJ E fn R [] L C1):LJ E fn R (rs.map jB) L C:=by
 have:=RX (D:=[]) i hn hC h
 rwa [AAJ] at this
end
section
open Go.RowKit
theorem Jf (fs:List FM) (fb:List Nat):(bD (bB oM fs fb)).wr=true:=by
 show (bB oM fs fb).all (·.wr)=true
 rw [dg];intro X hX;obtain ⟨k,m,a,_,_,h⟩:=lx hX;simp only [oM,bU] at h;subst h;rfl
theorem UH (fs:List TM) (fb:List Nat):(bD (bB r_ fs fb)).wr=true:=by
 show (bB r_ fs fb).all (·.wr)=true
 rw [dg];intro X hX;obtain ⟨k,m,a,_,_,h⟩:=lx hX;simp only [r_,bU] at h;subst h;rfl
end
section
def dM (bl:List Nat) (n:Nat):List (Option Nat):=bl.map some++replicate (n-bl.length) none
def iY (bl:List Nat) (n:Nat):List (Option Nat):=replicate (n-bl.length) none++bl.map some
theorem oZ {n:Nat} (h:bl.length≤n):(dM bl n).length=n:=by simp [dM];omega
theorem Ce {n:Nat} (h:bl.length≤n):(iY bl n).length=n:=by simp [iY];omega
theorem xW {n:Nat}:replicate n none=dM [] n:=by simp [dM]
theorem Le {n:Nat}:replicate n none=iY [] n:=by simp [iY]
theorem CG {n:Nat} (h:bl.length=n):dM bl n=bl.map some:=by simp [dM,h]
theorem Ls {n:Nat} (h:bl.length=n):iY bl n=bl.map some:=by simp [iY,h]
theorem og {n:Nat} (h:bl[k]? =some g):(dM bl n)[k]? =some (some g):=by
 have hk:=(aT.1 h).1;unfold dM;rw [v3 (by simpa using hk),gO,h];rfl
theorem w9 {n:Nat} (h:bl[i]? =some g) (hk:k=n-bl.length+i):(iY bl n)[k]? =some (some g):=by
 subst hk;unfold iY;rw [k_ sm,gO,ABR,Nat.add_sub_cancel_left,h];rfl
theorem uH {n:Nat} (hk:k=bl.length) (h:bl.length<n):(dM bl n).set k (some g)=dM (bl++[g]) n:=by
 subst hk;unfold dM;rw [AAu _ _ sm];have e:n-bl.length=(n-(bl++[g]).length)+1:=by simp;omega
 rw [e,List.replicate_succ];simp
theorem Lm {n:Nat} (hk:k+1+bl.length=n):(iY bl n).set k (some g)=iY (g::bl) n:=by
 unfold iY;have e:n-bl.length=k+1:=by omega
 have A:n-(g::bl).length=k:=by simp;omega
 rw [e,A,List.set_append_left _ _ sm,ABx,AAu _ _ sm];simp
theorem sH {l:List (Option Nat)} (h:l[k]? =some (some g)):(l.map oC)[k]? =some (oC (some g)):=by rw [gO,h];rfl
theorem CZ {l:List α} {x:α} (h:k=l.length):(l++[x])[k]? =some x:=by subst h;simp
theorem QK {l:List α} {x y:α} (h:l[k]? =some y):(l++[x])[k]? =some y:=by rw [v3 (aT.1 h).1];exact h
structure sB (w:cw) (fs:List FM):Prop where
 all: ∀ (b:Nat) m,fs[b]? =some m→wT m (sv w b)∧(m.map (·.1)).Nodup
structure je (w:cw) (k:Nat) (bs:List FM):Prop where
 all: ∀ (i:Nat) m,bs[i]? =some m→yu m (back w (k+i))∧(m.map (·.1)).Nodup
variable {w:cw} {b:Nat} {mb m left:List (aI×Int)} {o:Int×aa} {os:List (Int×aa)} {p:aI×Int}
theorem sB.first:sB w [[(⟨0,0⟩,w.Start)]]:=⟨fun b m h=>by
 match b with
 |0=>simp at h;subst h;exact ⟨Mf,sm⟩
 |n+1=>simp at h⟩
theorem sB.add (h:sB w fs) (hl:fs.length=b+1) (hmb:fs[b]? =some mb) (hm:Ah w b m) (hd:lg w b mb m left) (h0:left=[]):sB w (fs++[m]):=⟨fun i x hx=>by
 rcases r4 i fs.length with q|q
 ·rw [v3 q] at hx;exact h.all i x hx
 ·rw [k_ q] at hx;have hi:i-fs.length=0:=by
   rcases AB7 (i-fs.length) with z|z
   ·exact z
   ·rw [AAo (by simp;omega)] at hx;cases hx
  rw [hi] at hx;simp at hx;subst hx;obtain rfl:i=b+1:=by omega
  have A:=h.all b mb hmb;exact ⟨Qy A.2 A.1 hm.snd (hd.fin h0),hm.keys⟩⟩
theorem sB.ok (h:sB w fs) (hl:fs.length=w.n+1):yC w fs:=⟨hl,fun b m hm=>(h.all b m hm).1,fun b m hm=>(h.all b m hm).2⟩
theorem je.none_:je w b []:=⟨fun i m h=>by simp at h⟩
theorem je.last (hb:w.n≤b):je w b [[(⟨0,0⟩,w.hP)]]:=⟨fun i m h=>by
 match i with
 |0=>simp at h;subst h;exact ⟨OD I,sm⟩
 |n+1=>simp at h⟩
theorem je.add (h:je w (b+1) bs) (hb:b<w.n) (hmb:bs[0]? =some mb) (hm:yL w b m) (hd:kR w b mb m left) (h0:left=[]):je w b (m::bs):=⟨fun i x hx=>by
 match i with
 |0=>
  simp at hx;subst hx;have A:=h.all 0 mb hmb;exact ⟨Nw hb A.2 A.1 hm.snd hm.zero (hd.fin h0),hm.keys⟩
 |n+1=>
  have:=h.all n x (by simpa using hx);rw [show b+1+n=b+(n+1) by omega] at this;exact this⟩
theorem je.ok (h:je w 0 bs) (hl:bs.length=w.n+1):vH w bs:=⟨hl,fun b m hm=>by have:=(h.all b m hm).1;rwa [AAk] at this,fun b m hm=>(h.all b m hm).2⟩
/-- on the way through one entry's options -/
structure o6 (w:cw) (b:Nat) (mb left m:List (aI×Int)) (p:aI×Int) (os:List (Int×aa)):Prop where
 on:Ah w b m
 vQ:lg w b mb m left
 done:j8 w b m p os
structure pj (w:cw) (b:Nat) (mb left m:List (aI×Int)) (p:aI×Int) (os:List (Int×aa)):Prop where
 on:yL w b m
 vQ:kR w b mb m left
 done:j9 w b m p os
theorem o6.start (h:Ah w b m) (h2:lg w b mb m left):o6 w b mb left m p []:=⟨h,h2,fun o ho=>by cases ho⟩
theorem pj.start (h:yL w b m) (h2:kR w b mb m left):pj w b mb left m p []:=⟨h,h2,fun o ho=>by cases ho⟩
theorem LD (h:(m.lookup q.1).isSome=false∨q.2<(m.lookup q.1).getD 0):rq m q=d_ m q.1 q.2:=by
 unfold rq;cases e:m.lookup q.1 with
 |none=>rfl
 |some v=>rw [e] at h;simp at h;simp only;rw [c0 h]
theorem Ho (h:(m.lookup q.1).isSome=true) (h2:¬ q.2<(m.lookup q.1).getD 0):rq m q=m:=by
 unfold rq;cases e:m.lookup q.1 with
 |none=>rw [e] at h;cases h
 |some v=>rw [e] at h2;simp only [ABa] at h2;simp only;rw [c1 h2]
theorem Mj (h:(m.lookup q.1).isSome=false∨(m.lookup q.1).getD 0<q.2):rm m q=d_ m q.1 q.2:=by
 unfold rm;cases e:m.lookup q.1 with
 |none=>rfl
 |some v=>rw [e] at h;simp at h;simp only;rw [c0 h]
theorem GQ (h:(m.lookup q.1).isSome=true) (h2:¬ (m.lookup q.1).getD 0<q.2):rm m q=m:=by
 unfold rm;cases e:m.lookup q.1 with
 |none=>rw [e] at h;cases h
 |some v=>rw [e] at h2;simp only [ABa] at h2;simp only;rw [c1 h2]
theorem DW (hy:w.sJ[b]? =some y) (h:max (v+y) o.2.Lo≤min o.2.Hi w.hP):oG w b (t,v) o=some (dY t (gU o.1),max (v+y) o.2.Lo):=by
 have e:=pB hy;subst e;exact NB h
theorem QJ (hy:w.sJ[b]? =some y) (h:¬ max (v+y) o.2.Lo≤min o.2.Hi w.hP):oG w b (t,v) o=none:=by
 have e:=pB hy;subst e;exact Rh h
theorem DZ (hy:w.sJ[b]? =some y) (h:o.2.Lo≤min v o.2.Hi):rh w b (t,v) o=some (dY t (gU o.1),min v o.2.Hi-y):=by
 have e:=pB hy;subst e;exact Nd h
theorem o6.set (h:o6 w b mb left m p os) (hp:p∈sv w b) (ho:o∈kW w b) (he:oG w b p o=some q) (hs:(m.lookup q.1).isSome=false∨q.2<(m.lookup q.1).getD 0):o6 w b mb left (d_ m q.1 q.2) p (os++[o]):=by
 rw [← LD hs];exact ⟨h.on.add hp ho he,h.vQ.lower yl,h.done.Ob he⟩
theorem o6.qS (h:o6 w b mb left m p os) (he:oG w b p o=some q) (hs:(m.lookup q.1).isSome=true) (h2:¬ q.2<(m.lookup q.1).getD 0):o6 w b mb left m p (os++[o]):=by
 have:=h.done.Ob he;rw [Ho hs h2] at this;exact ⟨h.on,h.vQ,this⟩
theorem o6.skip (h:o6 w b mb left m p os) (he:oG w b p o=none):o6 w b mb left m p (os++[o]):=⟨h.on,h.vQ,h.done.none_ he⟩
theorem pj.set (hb:b<w.n) (h:pj w b mb left m p os) (hp:p∈back w (b+1)) (ho:o∈kW w b) (he:rh w b p o=some q) (hs:(m.lookup q.1).isSome=false∨(m.lookup q.1).getD 0<q.2):pj w b mb left (d_ m q.1 q.2) p (os++[o]):=by
 rw [← Mj hs];exact ⟨h.on.add hb hp ho he,h.vQ.upper sS,h.done.Ob he⟩
theorem pj.qS (h:pj w b mb left m p os) (he:rh w b p o=some q) (hs:(m.lookup q.1).isSome=true) (h2:¬ (m.lookup q.1).getD 0<q.2):pj w b mb left m p (os++[o]):=by
 have:=h.done.Ob he;rw [GQ hs h2] at this;exact ⟨h.on,h.vQ,this⟩
theorem pj.skip (h:pj w b mb left m p os) (he:rh w b p o=none):pj w b mb left m p (os++[o]):=⟨h.on,h.vQ,h.done.none_ he⟩
theorem o6.next (hn:(left.map (·.1)).Nodup) (hm:(t,v)∈left) (h:o6 w b mb left m (t,v) os) (ho:∀ o∈kW w b,o∈os):lg w b mb m (cJ left t):=h.vQ.next hn hm h.done ho
theorem pj.next (hn:(left.map (·.1)).Nodup) (hm:(t,v)∈left) (h:pj w b mb left m (t,v) os) (ho:∀ o∈kW w b,o∈os):kR w b mb m (cJ left t):=h.vQ.next hn hm h.done ho
theorem sB.mem (h:sB w fs) (hm:fs[b]? =some mb) (hp:p∈mb):p∈sv w b:=(h.all b mb hm).1.1 _ _ ((gj (h.all b mb hm).2).1 hp)
theorem je.aaw (h:je w k bs) (hk:k=b+1) (hm:bs[0]? =some mb) (hp:p∈mb):p∈back w (b+1):=by
 subst hk;exact (h.all 0 mb hm).1.1 _ _ ((gj (h.all 0 mb hm).2).1 hp)
theorem je.end_ (h:je w k bs) (hj:bs.length=0) (hk:j=b) (hb:w.n≤b):je w j ([(⟨0,0⟩,w.hP)]::bs):=by
 subst hk;rw [kq hj];exact je.last hb
theorem je.more (h:je w k bs) (hk:k=b+1) (hj:j=b) (hb:b<w.n) (hmb:bs[0]? =some mb) (hm:yL w b m) (hd:kR w b mb m left) (h0:left=[]):je w j (m::bs):=by
 subst hk hj;exact h.add hb hmb hm hd h0
end
section
open Go.RowKit
theorem kf {a:OA} {c e sz n:Nat} {es:List (List Value)} (h:es.length=n):Pf (own a c e sz es) (rd a n sz es):=by subst h;exact S3
theorem te {L:List au}:Pf (bD L) (iU L):=⟨fun w h=>h.1,fun b h=>h⟩
theorem JG {b:Nat} (h:fb.length=b):bB r_ (replicate b ([]:TM)) fb++[iu iV g (bS e_ [])]=bB r_ (replicate (b+1) ([]:TM)) (fb++[g]):=by
 rw [ABx];exact Bz (by rw [ABR];exact h.symm) U
theorem YL {ms:List α} {n:Nat} (h:fb.length=n) (h2:ms.length=n):map oC (dM fb n)=zipWith gY ms fb:=by
 rw [CG h];exact (Dy I).symm
theorem pY {l:bf} {r:c_} {x:aR} (hx:r.ab[i]? =some x) (h:¬ j3 l r.ab i x): ¬ gp l r:=fun q=>h (q.sig i x hx)
end
section
open Go.RowKit
theorem vo (ln:bV) (ri:dA) (e:List Int) (tms:List TM) (e_A:OA) (e_C:Nat) (tb:List Nat) (t_A:OA) (t_C:Nat) (fA:OA) (fN fC:Nat) (bA:OA) (bN bC:Nat) (gw b:Nat) (g1 g2:Nat) (hb:b<tms.length) (htb:tb.length=tms.length):
 GM Tryz.prog 260 [] [(vP g1),(vP g2)] [(jx e_A e),(rd t_A tms.length 1 (zipWith gY tms tb)),(iU (bB r_ tms tb)),(cb gw 343 (cj.cells (cj.mk ln ri (aX.mk e_A e.length e_C) (aX.mk t_A tms.length t_C) (aX.mk fA fN fC) (aX.mk bA bN bC)))),(cb g1 301 [(vP gw)]),(cb g2 3 [(vI (b:Int))])] ([]:List (Int×aa)) (fun ys x ys'=> ∃ o,o∈kW (cS ln ri e tms) b∧x=TP o∧ys'=ys++[o]) (fun ys=> ∀ o∈kW (cS ln ri e tms) b,o∈ys):=by
 refine vW kr Tryz.func260 U U fun l J Z A0 T Q hY P O hQ hN=>?_
 try dsimp only
 refine aU bT 2 U<|cL bX 12 kr<|jY 2 [] (mr 5 U mn) U<|dS (SX (bO U U) U U)<|jY 4 [0,1] (mr 4 U (mr 5 U mn)) U<|dS (SX (bO U U) U U)<|dP 3 [] (mr 4 U mn) ?_;refine dS (SX (aW (xs:=[(0,.tmp 11),(1,.tmp 16)]) (cs:=(aa.cells (aa.mk ri.Start ri.hP))) U U (aV gQ U)) U U)<|cy<|l_ (k:=([]:List (Int×aa))) (k':=(([]:List (Int×aa))++[((-1),(aa.mk ri.Start ri.hP))])) 0 (by first|exact hsz|exact c9 _) hY P O U U U (by exact ⟨(-1,⟨ri.Start,ri.hP⟩),bZ ..,U,U⟩) U U (fun B3 M L=>?_) (fun B3 M L=>?_);rotate_left 1
 ·refine aq aj 5 ?_;refine hQ _ _ _ (g4 (vs:=[]) trivial fun w hs=>ti 0 U M L hs)
 refine aU aj 7 U<|cL bX 7 kr<|jY 1 [] (mr 5 U mn) U<|dS (SX (bO U U) U U)<|dP 3 [0,1] (mr 4 U (mr 6 U mn)) ?_;obtain ⟨x,hx⟩:=ay tms b I;obtain ⟨xa,K⟩:=ay tb b I;have S:(zipWith gY tms tb)[b]? =some (gY x xa):=cE hx K;refine dS (IA b U (av 2 U) zN dc I I)<|dS (gF b 0 (Value.map (some xa)) U bP (av 2 U) S U dc U)<|cy<|ku (kV:=iV) (m:=bS e_ x) 3 U U rY U ⟨⟨(iu iV xa (bS e_ x)),(bq hx K (by simp [r_])),U⟩,fun h=>h⟩ (show ig _ (iu iV xa (bS e_ x)).holds from ct 3 U (bq hx K (by simp [r_]))) U fun V=>?_
 try dsimp only
 refine aq aj 3 ?_;have G:(∀ o∈x,o∈x∨o∈(([]:List (Int×aa))++[((-1),(aa.mk ri.Start ri.hP))]))∧(∀ o∈x,o∈x)∧(J (([]:List (Int×aa))++[((-1),(aa.mk ri.Start ri.hP))]) B3)∧(Fo A0 T B3)∧((-1,(⟨ri.Start,ri.hP⟩:aa))∈(([]:List (Int×aa))++[((-1),(aa.mk ri.Start ri.hP))])):=by exact ⟨fun o ho=> .inl ho,fun o ho=>ho,asm,asm,sm⟩
 refine bw (ι:={z:TM×(List (Int×aa))×au // (∀ o∈x,o∈z.1∨o∈z.2.1)∧(∀ o∈z.1,o∈x)∧(J z.2.1 z.2.2)∧(Fo A0 T z.2.2)∧((-1,(⟨ri.Start,ri.hP⟩:aa))∈z.2.1)}) [0,1,2,27] [2,3,4,6,7] U U (fun z=>[]) (fun z=>[(Bp iV V xa (bS e_ x) (bS e_ z.1.1) none),z.1.2.2]) (fun _=>rfl) (fun _=>rfl) (fun z=>z.1.1.length) ⟨(x,(([]:List (Int×aa))++[((-1),(aa.mk ri.Start ri.hP))]),B3),G⟩ (cV.nil _) (aB [2,3,4,6,7,0,1]) ?_;clear G;rintro ⟨⟨left,ys,A⟩,⟨B,C,D,E,F⟩⟩ J8 R
 try dsimp only at B C D E F
 try dsimp only
 refine aq bT 2 ?_;refine jH (eE nZ).inj (f:=e_) 5 U U U U (fun N=>?_) (fun i z hm hn=>?_)
 ·refine aU aj 6 U<|aq fz 1 ?_;refine hN _ _ _ (g4 (vs:=[]) trivial fun w hs=>KN 6 U (by exact LQ hx B N F) D E hs)
 try dsimp only
 refine aU aj 10 U<|rS (SX (jK 5 U U U) U U)<|aU aj 2 U<|AL U dD fun AA=>aU aj 1 U<|eM U cK U<|ck aj 7 [] (mc 0 U mn) ?_;refine l_ (k:=ys) (k':=(ys++[(i,z)])) 7 (by first|exact hsz|exact c9 _) hY D E U U U (by exact ⟨(i,z),(zI hx).2 (.inr (C _ hm)),U,U⟩) U U (fun B15 AB H=>?_) (fun B15 AB H=>?_);rotate_left 1
 ·refine aq aj 5 ?_;refine hQ _ _ _ (g4 (vs:=[]) trivial fun w hs=>ti 7 U AB H hs)
 refine aq aj 6 ?_;refine iH 6 U fZ U ?_;refine aL (R ⟨((cJ left i),(ys++[(i,z)]),B15),⟨KX hn hm B,oe C,asm,asm,by simp [F]⟩⟩ _ _ _ U (e9 hm) (aN U) (aB [1,2,3,4,5,6,7]))
theorem xT (gw b:Nat):
 ld Tryz.prog 238 [(vP gw),(vI (b:Int))] [] (fun (x:Nat×Nat)=>(Value.func (.func 260) [].toArray [(Value.pointer (some ⟨x.1,0,none⟩)),(Value.pointer (some ⟨x.2,0,none⟩))].toArray)) (fun (x:Nat×Nat)=>True) (fun (x:Nat×Nat)=>[(cb x.1 301 [(vP gw)]),(cb x.2 3 [(vI (b:Int))])]):=by
 refine cU kr Tryz.func238 U U fun C Q hQ hN=>?_
 try dsimp only
 refine aU bT 2 U<|sK U U fun A=>sK U U fun B=>aU aj 5 U<|rS (FU U)<|aq aj 4 ?_;refine LX hQ (A,B) [1,0] [] mn U U U U ?_;trivial
theorem Oz (gw b:Nat):
 ld Tryz.prog 213 [(vP gw),(vI (b:Int))] [] (fun (x:Nat×Nat)=>(Value.func (.func 237) [].toArray [(Value.pointer (some ⟨x.1,0,none⟩)),(Value.pointer (some ⟨x.2,0,none⟩))].toArray)) (fun (x:Nat×Nat)=>True) (fun (x:Nat×Nat)=>[(cb x.1 301 [(vP gw)]),(cb x.2 3 [(vI (b:Int))])]):=by
 refine cU kr Tryz.func213 U U fun C Q hQ hN=>?_
 try dsimp only
 refine aU bT 2 U<|sK U U fun A=>sK U U fun B=>aU aj 5 U<|rS (FU U)<|aq aj 4 ?_;refine LX hQ (A,B) [1,0] [] mn U U U U ?_;trivial
end
section
open Go.RowKit
theorem qV:xo Tryz.prog 348 eN:=S8 Ut (fun x y w=>U4 9998 x y w) (fun x y h=>by cases x;cases y;simp [aI.cells] at h;simp [h]) (fun x=>by simp [aI.cells,Instr.sameBits]) (fun x w=>⟨_,rfl,fun p hp=>by
 simp only [bI,h_,AAr] at hp;rcases hp with rfl|rfl
 ·exact ⟨⟨_,dR bP U w⟩,_,nZ⟩
 ·exact ⟨⟨_,dR bP U w⟩,_,nZ⟩⟩)
theorem Oa (s:Int):
 dh Tryz.prog 241 [(vI s)] [] (vA (aI.cells (gU s))):=by
 refine bj kr Tryz.func241 U U fun C Q hQ hN=>?_
 try dsimp only
 refine aU bT 2 U<|AL U wV fun B=>aq aj 9 ?_;refine bY U (aG fun A=>?_) (aH fun A=>?_)
 ·refine aU aY 2 U<|rS (SX (aW (xs:=[(1,.const (vI 1))]) (cs:=(aI.cells (aI.mk 0 1))) U U (aV EY U)) U U)<|eM U u3 U<|aq aj 3 ?_;refine Gx hQ [0] (mc 0 U mn) U ?_;unfold gU;first|rw [c0 A]|rw [c1 A]
 refine aU aY 4 U<|rS (SX (aW (xs:=[(0,.const (vI 1))]) (cs:=(aI.cells (aI.mk 1 0))) U U (aV EY U)) U U)<|eM U u3 U<|aq aj 3 ?_;refine Gx hQ [0] (mc 0 U mn) U ?_;unfold gU;first|rw [c0 A]|rw [c1 A]
theorem yX (x:aI) (y:aI) (hx:(0≤x.right∧x.right≤1000)∧0≤x.fH∧x.fH≤1000) (hy:(0≤y.right∧y.right≤1000)∧0≤y.fH∧y.fH≤1000):
 dh Tryz.prog 240 [(vA (aI.cells x)),(vA (aI.cells y))] [] (vA (aI.cells (dY x y))):=by
 refine bj kr Tryz.func240 U U fun D Q hQ hN=>?_
 try dsimp only
 refine aU bT 2 U<|dV U fun A=>dV U fun B=>AL U wV fun C=>dF aj 14 [0,1,0,1] (mc 2 U (mc 1 U mn)) U<|rS (SX (aW (xs:=[(0,.tmp 9),(1,.tmp 14)]) (cs:=(aI.cells (aI.mk (x.right+y.right) (x.fH+y.fH)))) U U (aV EY U)) U U)<|eM U u3 U<|aq aj 3 ?_;exact Gx hQ [0] (mc 0 U mn) U U
theorem Ud (ln:bV) (ri:dA) (e:List Int) (tms:List TM) (e_A:OA) (e_C:Nat) (tb:List Nat) (t_A:OA) (t_C:Nat) (fs:List FM) (bs:List FM) (fb:List Nat) (f_A:OA) (f_C:Nat) (bb:List Nat) (b_A:OA) (b_C gw:Nat) (x:aI) (hx:(0≤x.right∧x.right≤1000)∧0≤x.fH∧x.fH≤1000) (hn:ri.ab.n≤1000):
 dh Tryz.prog 239 [(vP gw),(vA (aI.cells x))] [(jx e_A e),(rd t_A tms.length 1 (zipWith gY tms tb)),(iU (bB r_ tms tb)),(rd f_A fs.length 1 (zipWith gY fs fb)),(iU (bB oM fs fb)),(rd b_A bs.length 1 (zipWith gY bs bb)),(iU (bB oM bs bb)),(cb gw 343 (cj.cells (cj.mk ln ri (aX.mk e_A e.length e_C) (aX.mk t_A tms.length t_C) (aX.mk f_A fs.length f_C) (aX.mk b_A bs.length b_C))))] (vB (oF (cS ln ri e tms) x)):=by
 refine bj kr Tryz.func239 U U fun C Q hQ hN=>?_
 try dsimp only
 refine aU bT 2 U<|dV U fun B=>aU aj 4 U<|cL bX 26 kr<|jY 3 [] (mc 0 U mn) U<|dS (SX (bO U U) U U)<|dP 5 [] (mr 8 U mn) ?_;refine iM (t:=13) U (aH fun A=>?_) (aG fun A=>?_)
 ·exact iQ 17 U<|cy<|cr aj 3 hQ U U<|cB (bg (fun h=>A h.1)).symm
 exact iQ 1 U<|dS (SX (bO U U) U U)<|jY 8 [0,1] (mr 8 U (mc 0 U mn)) U<|dS (SX (bO U U) U U)<|jY 6 [] (mr 8 U mn) U<|cy<|cr aj 3 hQ U U<|cB (gR.2 ⟨fun h=>⟨A,h⟩,fun h=>h.2⟩)
end
section
open Go.RowKit
theorem Me (ln:bV) (ri:dA) (e:List Int) (tms:List TM) (e_A:OA) (e_C:Nat) (tb:List Nat) (t_A:OA) (t_C:Nat) (fs:List FM) (bs:List FM) (fb:List Nat) (f_A:OA) (f_C:Nat) (bb:List Nat) (b_A:OA) (b_C gw:Nat) (b g1 g2:Nat) (mf:FM) (mb:FM) (hb:b<e.length) (hw:Lx (cS ln ri e tms)) (htb:tb.length=tms.length) (hfw:yC (cS ln ri e tms) fs) (hfb:fb.length=fs.length) (hbw:vH (cS ln ri e tms) bs) (hbb:bb.length=bs.length) (hsg:ri.ab.n≤1000) (hm1:fs[b]? =some mf) (hm2:bs[b+1]? =some mb):
 GM Tryz.prog 237 [] [(vP g1),(vP g2)] [(jx e_A e),(rd t_A tms.length 1 (zipWith gY tms tb)),(iU (bB r_ tms tb)),(rd f_A fs.length 1 (zipWith gY fs fb)),(iU (bB oM fs fb)),(rd b_A bs.length 1 (zipWith gY bs bb)),(iU (bB oM bs bb)),(cb gw 343 (cj.cells (cj.mk ln ri (aX.mk e_A e.length e_C) (aX.mk t_A tms.length t_C) (aX.mk f_A fs.length f_C) (aX.mk b_A bs.length b_C)))),(cb g1 301 [(vP gw)]),(cb g2 3 [(vI (b:Int))])] ([]:List (Int×aa)) (fun ys x ys'=> ∃ q,q∈sI (cS ln ri e tms) b mf mb∧x=TP q∧ys'=ys++[q]) (fun ys=> ∀ q∈sI (cS ln ri e tms) b mf mb,q∈ys):=by
 have Go:e.length≤6:=hw.n;have G3:tms.length=e.length:=hw.times;have Es:fs.length=e.length+1:=hfw.len;have Eq:bs.length=e.length+1:=hbw.len;refine vW kr Tryz.func237 U U fun l J Z A0 w0 Q hY Ci B9 hQ hN=>?_
 try dsimp only
 refine aU bT 2 U<|sK U U fun b2=>ck aj 6 [0,1] (mr 10 U (mr 11 U mn)) ?_;refine cX (xT gw b) (aA) U fun y4 G4=>?_;obtain ⟨BD,BP⟩:=y4
 try dsimp only
 refine aq aj 3 ?_;refine iw 4 U (by exact fun _ h=>h)<|iw 6 U (by exact fun _ h=>h)<|iw 8 U (by exact fun _ h=>h)<|iw 14 U (by exact fun _ h=>h) ?_;refine o5 (L0:=[(0,(Value.func (.yield l) #[] #[])),(1,(vP g1)),(2,(vP g2)),(3,(vP b2))]) (F:=[(jx e_A e).ro,(rd t_A tms.length 1 (zipWith gY tms tb)).ro,(iU (bB r_ tms tb)).ro,(cb gw 343 (cj.cells (cj.mk ln ri (aX.mk e_A e.length e_C) (aX.mk t_A tms.length t_C) (aX.mk f_A fs.length f_C) (aX.mk b_A bs.length b_C)))).ro,(cb BD 301 [(vP gw)]),(cb BP 3 [(vI (b:Int))])]) (fun k (y:(List (Int×aa))×au)=>(nu (cS ln ri e tms) b mf mb k y.1)∧(J y.1 y.2)∧(Fo A0 w0 y.2)) (fun k y=>[(cb b2 345 [(Value.func (.yield l) #[] #[])]),y.2,(jx e_A e).ro,(rd t_A tms.length 1 (zipWith gY tms tb)).ro,(iU (bB r_ tms tb)).ro,(rd f_A fs.length 1 (zipWith gY fs fb)).ro,(iU (bB oM fs fb)).ro,(rd b_A bs.length 1 (zipWith gY bs bb)).ro,(iU (bB oM bs bb)).ro,(cb gw 343 (cj.cells (cj.mk ln ri (aX.mk e_A e.length e_C) (aX.mk t_A tms.length t_C) (aX.mk f_A fs.length f_C) (aX.mk b_A bs.length b_C)))).ro,(cb g1 301 [(vP gw)]).ro,(cb g2 3 [(vI (b:Int))]).ro]) (fun c (z:au)=>(c= .ret∧(Z z)∧(Fo A0 w0 z))) (fun _ z=>[(cb b2 345 [(Value.func (.yield l) #[] #[])]),z,(jx e_A e).ro,(rd t_A tms.length 1 (zipWith gY tms tb)).ro,(iU (bB r_ tms tb)).ro,(rd f_A fs.length 1 (zipWith gY fs fb)).ro,(iU (bB oM fs fb)).ro,(rd b_A bs.length 1 (zipWith gY bs bb)).ro,(iU (bB oM bs bb)).ro,(cb gw 343 (cj.cells (cj.mk ln ri (aX.mk e_A e.length e_C) (aX.mk t_A tms.length t_C) (aX.mk f_A fs.length f_C) (aX.mk b_A bs.length b_C)))).ro,(cb g1 301 [(vP gw)]).ro,(cb g2 3 [(vI (b:Int))]).ro]) [6,7,8,9,10,11,12,13,14,15,16,17] [3,2,1,0,4,5] (([]:List (Int×aa)),A0) rfl rfl (vo ln ri e tms e_A e_C tb t_A t_C f_A fs.length f_C b_A bs.length b_C gw b BD BP I I) rfl rfl rfl (by exact ⟨nu.nil,Ci,B9⟩) (by simp only [AAI,h_,AAs,AAv,ABC];exact ⟨⟨_,aF (i:=0) rfl,(dj (bM _))⟩,⟨_,aF (i:=1) rfl,(dj (bM _))⟩,⟨_,aF (i:=2) rfl,(dj (bM _))⟩,⟨_,aF (i:=3) rfl,(dj (bM _))⟩,⟨_,aF (i:=4) rfl,(bM _)⟩,⟨_,aF (i:=5) rfl,(bM _)⟩⟩) (by rintro k x k2 ⟨o,_,rfl,_⟩;rfl) rfl (aN rfl) ?_ ?_ ?_ ?_;rotate_left 1
 ·rintro IO k ⟨ys,A⟩ A5 s;obtain ⟨W,X,Y⟩:=s
  try dsimp only at W X Y
  try dsimp only
  refine aq jC 1 ?_;refine hN _ _ _ (nF 0 U U<|g4 (vs:=[]) trivial fun w hs=>KN 8 U (by exact nu.fin W A5) X Y hs)
 ·rintro IR id A A8;simp at A8
 ·rintro Id A A9;obtain ⟨hc,C0,C1⟩:=A9
  try dsimp only
  refine hQ _ _ _ (nF 0 U U<|g4 (vs:=[]) trivial fun w hs=>ti 8 U C0 C1 hs)
 rintro k x k2 ⟨ys,A⟩ lr ra rb S w1 K8 Qr9 C2 hx r Ck A1 Dn Bt;obtain ⟨o,ho,rfl,rfl⟩:=hx;obtain ⟨W,X,Y⟩:=r
 try dsimp only at W X Y
 try dsimp only
 refine aU bT 6 U<|AL U dD fun Do=>eM U cK U<|aq aj 1 ?_;refine j7 (fun _ _ h=>h) (aB [1,0,2,3,4,5,6,7,8,9,10,11,12,13])<|aL (Ck _ _ ?_);refine aU bT 2 U<|cL bX 7 kr<|jY 1 [] (mr 12 U mn) U<|dS (SX (bO U U) U U)<|dP 3 [0,1] (mr 11 U (mr 13 U mn)) ?_;obtain ⟨ga,g⟩:=ay fb b I;have A6:(zipWith gY fs fb)[b]? =some (gY mf ga):=cE hm1 g;refine dS (IA b U (av 7 U) pQ dc I I)<|dS (gF b 0 (Value.map (some ga)) U bP (av 7 U) A6 U dc U)<|cy<|ku (kV:=eN) (m:=bS iV mf) 8 U U qP U ⟨⟨(iu eN ga (bS iV mf)),(bq hm1 g (by simp [oM])),U⟩,fun h=>h⟩ (show ig _ (iu eN ga (bS iV mf)).holds from ct 8 U (bq hm1 g (by simp [oM]))) U fun DR=>?_
 try dsimp only
 refine aq aj 3 ?_;have C:(∀ p∈mf,p∈mf)∧(pJ (cS ln ri e tms) b mf mb o mf ys)∧(nu (cS ln ri e tms) b mf mb k ys)∧(J ys A)∧(Fo A0 w0 A):=by exact ⟨fun p hp=>hp,pJ.start,W,X,Y⟩
 refine bw (ι:={z:FM×(List (Int×aa))×au // (∀ p∈z.1,p∈mf)∧(pJ (cS ln ri e tms) b mf mb o z.1 z.2.1)∧(nu (cS ln ri e tms) b mf mb k z.2.1)∧(J z.2.1 z.2.2)∧(Fo A0 w0 z.2.2)}) [0,1,2,3,4,5,23] [1,2,3,5,6,7,8,9,10,11,12,13,14] U U (fun z=>[]) (fun z=>[(Bp eN DR ga (bS iV mf) (bS iV z.1.1) none),z.1.2.2]) (fun _=>rfl) (fun _=>rfl) (fun z=>z.1.1.length) ⟨(mf,ys,A),C⟩ (cV.nil _) (aB [1,2,3,5,6,7,8,9,10,11,12,13,14,0,4]) ?_;clear C;rintro ⟨⟨left,ys,A⟩,⟨K,M,N,O,P⟩⟩ J15 Ap
 try dsimp only at K M N O P
 try dsimp only
 refine aq bT 2 ?_;refine jH qV.inj (f:=iV) 13 U U U U (fun B3=>?_) (fun t v hm hn=>?_)
 ·refine aU aj 6 U<|aq fz 2 ?_;exact A1 (ys,A) _ _ (by exact ⟨nu.next N M B3,O,P⟩) (aB [0,2,14,3,4,5,6,7,8,9,10,11,12])
 try dsimp only
 refine aU aj 10 U<|rS (SX (jK 13 U U U) U U)<|aU aj 2 U<|AL U wV fun D0=>eM U u3 U<|aU aj 4 U<|cL bX 8 kr<|jY 1 [] (mr 12 U mn) U<|dS (SX (bO U U) U U)<|dP 4 [0,1] (mr 11 U (mr 13 U mn)) ?_;obtain ⟨gb,j⟩:=ay bb (b+1) I;have A7:(zipWith gY bs bb)[(b+1)]? =some (gY mb gb):=cE hm2 j;refine dS (IA (b+1) U (av 9 U) pQ dc I I)<|dS (gF (b+1) 0 (Value.map (some gb)) U bP (av 9 U) A7 U dc U)<|cy<|ku (kV:=eN) (m:=bS iV mb) 10 U U qP U ⟨⟨(iu eN gb (bS iV mb)),(bq hm2 j (by simp [oM])),U⟩,fun h=>h⟩ (show ig _ (iu eN gb (bS iV mb)).holds from ct 10 U (bq hm2 j (by simp [oM]))) U fun Di=>?_
 try dsimp only
 refine aq aj 3 ?_;have C:(∀ p∈mb,p∈mb)∧(pf (cS ln ri e tms) b mb o (t,v) mb ys)∧(pJ (cS ln ri e tms) b mf mb o left ys)∧(nu (cS ln ri e tms) b mf mb k ys)∧(J ys A)∧(Fo A0 w0 A):=by exact ⟨fun p hp=>hp,pf.start,M,N,O,P⟩
 refine bw (ι:={z:FM×(List (Int×aa))×au // (∀ p∈z.1,p∈mb)∧(pf (cS ln ri e tms) b mb o (t,v) z.1 z.2.1)∧(pJ (cS ln ri e tms) b mf mb o left z.2.1)∧(nu (cS ln ri e tms) b mf mb k z.2.1)∧(J z.2.1 z.2.2)∧(Fo A0 w0 z.2.2)}) [0,1,2,3,4,5,6,7,23,37] [1,2,3,4,5,6,7,8,9,10,11,12,13,14,15] U U (fun z=>[]) (fun z=>[(Bp eN Di gb (bS iV mb) (bS iV z.1.1) none),z.1.2.2]) (fun _=>rfl) (fun _=>rfl) (fun z=>z.1.1.length) ⟨(mb,ys,A),C⟩ (cV.nil _) (aB [1,2,3,4,5,6,7,8,9,10,11,12,13,14,15,0,16]) ?_;clear C;rintro ⟨⟨l2,R,A2⟩,⟨B,D,E,G,H,AB⟩⟩ J23 AA
 try dsimp only at B D E G H AB
 try dsimp only
 refine aq bT 2 ?_;refine jH qV.inj (f:=iV) 15 U U U U (fun B7=>?_) (fun u z L AC=>?_)
 ·refine aU aj 6 U<|aq fz 2 ?_;refine iH 14 U fZ U ?_;refine aL (Ap ⟨((cJ left t),R,A2),⟨oe K,pJ.next hn hm E D B7,G,H,AB⟩⟩ _ _ _ U (e9 hm) (aN U) (aB [1,2,3,4,5,6,7,8,9,10,11,12,13,14,16]))
 try dsimp only
 refine aU aj 10 U<|rS (SX (jK 15 U U U) U U)<|aU aj 2 U<|AL U wV fun EQ=>eM U u3 U<|aq aj 4 ?_;refine cT bX [17,18] [] [] [0,1,2,3,4,5,6,7,8,9,10,11,12,13,14,15,16,17] [] U U U U U<|eS U (MV U)<|eS U (ZI 13 U bP U)<|eS U (SX (bO U U) U U)<|eS U (FA 10 U eB U)<|eS U (Mz (vS e_A e.length e_C) 12 U bP U U)<|eS U (ZI 14 U bP U) ?_;obtain ⟨y,hy⟩:=ay e b I;have C3:=bx iC hy;refine eS U (IA b U (av 5 U) cO dc I I)<|eS U (gF b 0 (vI y) U bP (av 5 U) C3 U dc U) ?_;have FS:=hw.least y (aF hy);have Cx:=OP hw _ _ (hfw.mem hm1 (K _ hm));have Cp:=M4 hw (hbw.mem hm2 (B _ L));have Fd:=yj o.1;have Fn:=hw.opt ho;dsimp only at Cx Cp;refine eS U (BI U (jq ⟨I,I⟩))<|eS U (FA 0 U eB U)<|eS U (L1 (vI o.2.Lo) 3 U bP U U)<|eS U (MX U)<|eS U (MV U)<|eS U (FA 1 U eB U)<|eS U (L1 (vI o.2.Hi) 3 U bP U U)<|eS U (MN U)<|eS U (SX (aW (xs:=[(0,.tmp 54),(1,.tmp 58)]) (cs:=(aa.cells (aa.mk (max (v+y) o.2.Lo) (min z o.2.Hi)))) U U (aV gQ U)) U U)<|dL U<|bR U fun T30 A3=>AL U dD fun EU=>bG (A3 _ _ (aB [1,2,3,4,5,6,7,8,9,10,11,12,13,14,15,16,17,18]) ?_);refine bR U fun T32 A4=>eM U cK U<|bG (A4 _ _ (aB [1,2,3,4,5,6,7,8,9,10,11,12,13,14,15,16,17,18]) ?_);refine eI U<|aU jC 2 U<|cL bX 19 kr<|dP 6 [] (mc 0 U mn) ?_;refine iM (t:=65) U (aH fun a=>?_) (aG fun a=>?_)
 ·refine iQ 3 U<|iQ 10 U<|cy<|aq aj 8 ?_;refine iH 17 U fZ U ?_;refine aL (AA ⟨((cJ l2 u),R,A2),⟨oe B,pf.skip AC L D (by exact Kv hy a),E,G,H,AB⟩⟩ _ _ _ U (e9 L) (aN U) (aB [2,3,4,5,6,7,8,9,10,11,12,13,14,15,16,17,18]))
 refine dP 3 [0,1,2] (mr 14 U (mc 2 U (mc 1 U mn))) ?_;have GT:(0≤(dY t u).right∧(dY t u).right≤1000)∧0≤(dY t u).fH∧(dY t u).fH≤1000:=by simp only [dY];omega
 have GE:(0≤(dY (dY t u) (gU o.1)).right∧(dY (dY t u) (gU o.1)).right≤1000)∧0≤(dY (dY t u) (gU o.1)).fH∧(dY (dY t u) (gU o.1)).fH≤1000:=by simp only [dY];omega
 refine dS (CL (yX t u I I) (aA) U)<|iQ 1 U<|dS (CL (Oa o.1) (aA) U)<|dS (CL (yX (dY t u) (gU o.1) asm I) (aA) U)<|dS (CL (Ud ln ri e tms e_A e_C tb t_A t_C fs bs fb f_A f_C bb b_A b_C gw (dY (dY t u) (gU o.1)) asm hsg) (aP [6,7,8,9,10,11,12,13]) U)<|dP 2 [] mn ?_;refine iM (t:=75) U (fun d=>?_) (fun d=>?_)
 ·refine iQ 3 U<|cy<|aq aj 8 ?_;refine iH 17 U fZ U ?_;refine aL (AA ⟨((cJ l2 u),R,A2),⟨oe B,pf.skip AC L D (by exact Lc d),E,G,H,AB⟩⟩ _ _ _ U (e9 L) (aN U) (aB [2,3,4,5,6,7,8,9,10,11,12,13,14,15,16,17,18]))
 refine dP 3 [0,1] (mc 5 U (mc 0 U mn)) ?_;refine cy<|l_ (k:=R) (k':=(R++[(o.1,(aa.mk (max (v+y) o.2.Lo) (min z o.2.Hi)))])) 18 (by first|exact C2|exact c9 _) hY H AB U U U (by exact ⟨(o.1,_),kj.2 ⟨o,ho,(t,v),K _ hm,(u,z),B _ L,(EV hy a d)⟩,U,U⟩) U U (fun B34 V T=>?_) (fun B34 V T=>?_);rotate_left 1
 ·refine aq aj 6 ?_;exact Bt B34 _ _ (by exact ⟨U,V,T⟩) (aB [3,5,18,6,7,8,9,10,11,12,13,14,15])
 refine aq aj 7 ?_;refine iH 17 U fZ U ?_;refine aL (AA ⟨((cJ l2 u),(R++[(o.1,(aa.mk (max (v+y) o.2.Lo) (min z o.2.Hi)))]),B34),⟨oe B,pf.Z_ AC L D (EV hy a d),E.app,G.app,V,T⟩⟩ _ _ _ U (e9 L) (aN U) (aB [2,3,4,5,6,7,8,9,10,11,12,13,14,15,16,17,18]))
end
section
open Go.RowKit
theorem xU (ln:bV) (ri:dA) (e:List Int) (tms:List TM) (e_A:OA) (e_C:Nat) (tb:List Nat) (t_A:OA) (t_C:Nat) (fs:List FM) (bs:List FM) (fb:List Nat) (f_A:OA) (f_C:Nat) (bb:List Nat) (b_A:OA) (b_C gw:Nat) (hw:Lx (cS ln ri e tms)) (hsg:ri.ab.n≤1000) (hn:ln.ai.n=e.length) (hfw:yC (cS ln ri e tms) fs) (hfb:fb.length=fs.length):
 ld Tryz.prog 214 [(vP gw)] [(rd e_A e.length 1 (e.map iC)),(rd t_A tms.length 1 (zipWith gY tms tb)),(iU (bB r_ tms tb)),(rd f_A fs.length 1 (zipWith gY fs fb)),(iU (bB oM fs fb)),(rd b_A bs.length 1 (zipWith gY bs bb)),(iU (bB oM bs bb)),(cb gw 343 (cj.cells (cj.mk ln ri (aX.mk e_A e.length e_C) (aX.mk t_A tms.length t_C) (aX.mk f_A fs.length f_C) (aX.mk b_A bs.length b_C))))] (fun (x:(OA)×Nat)=>(vS x.1 ((n8 (cS ln ri e tms)).length) x.2)) (fun (x:(OA)×Nat)=>True) (fun (x:(OA)×Nat)=>[(own x.1 x.2 3 1 ((n8 (cS ln ri e tms)).map iC))]):=by
 have V:e.length≤6:=hw.n;have AA:fs.length=e.length+1:=hfw.len;refine cU kr Tryz.func214 U U fun W Q hQ hN=>?_
 try dsimp only
 refine aU bT 14 U<|rS (SX (bO U U) U U)<|ck aj 9 [] (mr 7 U mn) ?_;refine eC 3 1 ?_;have A:(0≤e.length+1):=by exact c4 _
 refine bw (ι:={z:Nat×(OA)×Nat // (z.1≤e.length+1)}) [0,12] [1,2,3,4,5,6,7,8] U U (fun z=>[(3,(vS z.1.2.1 ((mq (cS ln ri e tms) z.1.1).length) z.1.2.2)),(13,(vI (z.1.1:Int)))]) (fun z=>[(own z.1.2.1 z.1.2.2 3 1 ((mq (cS ln ri e tms) z.1.1).map iC))]) (fun _=>rfl) (fun _=>rfl) (fun z=>e.length+1-z.1.1) ⟨(0,none,0),A⟩ (aN U) (aB [1,2,3,4,5,6,7,8,0]) ?_;clear A;rintro ⟨⟨n,a,c⟩,F⟩ J5 H
 try dsimp only at F
 try dsimp only
 refine aq bT 6 ?_;refine bE U (aH fun T=>?_) (aG fun T=>?_)
 ·refine aU aY 1 U<|aq fz 4 ?_;rw [show mq (cS ln ri e tms) n=n8 (cS ln ri e tms) by (obtain rfl:n=e.length+1:=by omega);rfl];refine aq aj 5 ?_;refine LX hQ (a,c) [8] [] mn U U U U ?_;trivial
 refine aU aY 13 U<|rS (SX (bO U U) U U)<|ck aj 3 [] (mr 7 U mn) ?_;obtain ⟨m,B⟩:=ay fs n I;obtain ⟨ma,hm0a⟩:=ay fb n I;have hm0m:(zipWith gY fs fb)[n]? =some (gY m ma):=cE B hm0a;refine rS (IA n U (av 3 U) pQ dc I I)<|rS (gF n 0 (Value.map (some ma)) U bP (av 3 U) hm0m U dc U)<|ku (kV:=eN) (m:=bS iV m) 4 U U qP U ⟨⟨(iu eN ma (bS iV m)),(bq B hm0a (by simp [oM])),U⟩,fun h=>h⟩ (show ig _ (iu eN ma (bS iV m)).holds from ct 4 U (bq B hm0a (by simp [oM]))) U fun P=>?_
 try dsimp only
 refine aq aj 3 ?_;have A:(∀ p∈m,p∈m)∧(∀ p∈m,p∈m∨oF (cS ln ri e tms) p.1=false):=by exact ⟨fun p hp=>hp,fun p hp=> .inl hp⟩
 refine bw (ι:={z:FM // (∀ p∈z,p∈m)∧(∀ p∈m,p∈z∨oF (cS ln ri e tms) p.1=false)}) [0,3,4,12,13,23] [1,2,3,4,5,6,7,8,9] U U (fun z=>[]) (fun z=>[(Bp eN P ma (bS iV m) (bS iV z.1) none)]) (fun _=>rfl) (fun _=>rfl) (fun z=>z.1.length) ⟨m,A⟩ (cV.nil _) (aB [1,2,3,4,5,6,7,8,9,0]) ?_;clear A;rintro ⟨left,⟨C,D⟩⟩ J13 G
 try dsimp only
 refine aq bT 2 ?_;refine jH qV.inj (f:=iV) 9 U U U U (fun M=>?_) (fun t v hm N=>?_)
 ·refine aU aj 6 U<|aq fz 7 ?_;rw [← Kc (w:=(cS ln ri e tms)) (k:=n) ((FT (hfw.min _ _ B) (hfw.keys _ _ B)).symm.trans (O0 D M))];have AB:(vI (((n+1):Nat):Int))=(vI ((n:Int)+1)):=by exact cI I
  refine aL (H ⟨((n+1),a,c),(by first|omega|(simp only [];omega))⟩ _ _ _ U os (cx 3<|aQ U AB<|cV.nil _) (aB [0,1,2,3,4,5,6,7,8]))
 try dsimp only
 refine aU aj 10 U<|rS (SX (jK 9 U U U) U U)<|aU aj 1 U<|AL U wV fun R=>eM U u3 U<|ck aj 6 [] (mc 0 U mn) ?_;have O:=OP hw _ _ (hfw.mem B (C _ hm));dsimp only at O;refine rS (CL (Ud ln ri e tms e_A e_C tb t_A t_C fs bs fb f_A f_C bb b_A b_C gw t I hsg) (aP [1,2,3,4,5,6,7,8]) U)<|aq aj 2 ?_;refine bE U (fun E=>?_) (fun E=>?_)
 ·refine aq aY 2 ?_;refine iH 10 U fZ U ?_;refine aL (G ⟨(cJ left t),⟨oe C,M1 N hm D (by first|exact E|simpa using E)⟩⟩ _ _ _ U (e9 hm) (aN U) (aB [1,2,3,4,5,6,7,8,9,10]))
 refine aq aY 4 ?_;refine dC (xs:=[.tmp 32]) (cs:=[(vI (n:Int))]) U cO jU U U U U (by simp [Value.cells]) U U fun S=>?_;have hy:mR (cS ln ri e tms) (sv (cS ln ri e tms) n)=true:=(FT (hfw.min _ _ B) (hfw.keys _ _ B)).symm.trans (Rl (C _ hm) E);refine de (es2:=(map iC (mq (cS ln ri e tms) (n+1)))) (m':=(mq (cS ln ri e tms) (n+1)).length) 10 U U U pG U U sm (aM (es:=map iC [(n:Int)]) 0 U U (by simp [br]) U) (j_ _) (by have:=vf (w:=(cS ln ri e tms)) (k:=n);first|omega|(simp;omega)) (by have:=vf (w:=(cS ln ri e tms)) (k:=n);simp only [maxLen];omega) (by rw [Ha hy];simp) sm U fun K L=>?_
 try dsimp only
 refine aU aj 4 U<|aq fz 7 ?_;have J:(vI (((n+1):Nat):Int))=(vI ((n:Int)+1)):=by exact cI I
 refine aL (H ⟨((n+1),K,L),(by first|omega|(simp only [];omega))⟩ _ _ _ U os (cx 3<|aQ U J<|cV.nil _) (aB [2,3,4,5,6,7,8,9,10]))
end
section
open Go.RowKit
theorem Eh (ln:bV) (ri:dA) (e:List Int) (tms:List TM) (e_A:OA) (e_C:Nat) (tb:List Nat) (t_A:OA) (t_C gw:Nat) (hw:Lx (cS ln ri e tms)) (hn:ln.ai.n=e.length) (htb:tb.length=tms.length):
 IE Tryz.prog 236 [(vP gw)] [(rd e_A e.length 1 (e.map iC)),(rd t_A tms.length 1 (zipWith gY tms tb)),(iU (bB r_ tms tb))] (cb gw 343 (cj.cells (cj.mk ln ri (aX.mk e_A e.length e_C) (aX.mk t_A tms.length t_C) (aX.mk none 0 0) (aX.mk none 0 0)))) (fun (x:(List FM)×(List Nat)×(OA)×Nat×(List FM)×(List Nat)×(OA)×Nat)=>(vT [])) (fun (x:(List FM)×(List Nat)×(OA)×Nat×(List FM)×(List Nat)×(OA)×Nat)=>yC (cS ln ri e tms) x.1∧vH (cS ln ri e tms) x.2.2.2.2.1∧x.2.1.length=x.1.length∧x.2.2.2.2.2.1.length=x.2.2.2.2.1.length) (fun (x:(List FM)×(List Nat)×(OA)×Nat×(List FM)×(List Nat)×(OA)×Nat)=>(bD [(cb gw 343 (cj.cells (cj.mk ln ri (aX.mk e_A e.length e_C) (aX.mk t_A tms.length t_C) (aX.mk x.2.2.1 x.1.length x.2.2.2.1) (aX.mk x.2.2.2.2.2.2.1 x.2.2.2.2.1.length x.2.2.2.2.2.2.2)))),(own x.2.2.1 x.2.2.2.1 346 1 (zipWith gY x.1 x.2.1)),(bD (bB oM x.1 x.2.1)),(own x.2.2.2.2.2.2.1 x.2.2.2.2.2.2.2 346 1 (zipWith gY x.2.2.2.2.1 x.2.2.2.2.2.1)),(bD (bB oM x.2.2.2.2.1 x.2.2.2.2.2.1))])):=by
 have UP:e.length≤6:=hw.n;have UV:tms.length=e.length:=hw.times;refine qq kr Tryz.func236 U U fun w0 Q hQ hN=>?_
 try dsimp only
 refine aU bT 2 U<|sK U U fun W=>dF aj 5 [] (mc 0 U mn) U<|rS (SX (bO U U) U U)<|ck aj 7 [] (mc 1 U mn) ?_;refine nV (ι:={z:(OA)×(OA) // True}) [0,1,2] [0,2,3,4] U U (fun z=>[]) (fun z=>[(own z.1.1 (ln.ai.n+1) 346 1 (map oC (replicate (ln.ai.n+1) (none:Option Nat)))),(own z.1.2 (ln.ai.n+1) 346 1 (map oC (replicate (ln.ai.n+1) (none:Option Nat)))),(cb gw 343 (cj.cells (cj.mk ln ri (aX.mk e_A e.length e_C) (aX.mk t_A tms.length t_C) (aX.mk z.1.1 (ln.ai.n+1) (ln.ai.n+1)) (aX.mk z.1.2 (ln.ai.n+1) (ln.ai.n+1)))))]) (fun _=>rfl) (fun _=>rfl) ?_ fun K4 Bv=>?_
 ·rintro ⟨⟨fA,bA⟩,_⟩
  try dsimp only
  refine Ee 6 U U fun wz Sz hz=>?_;have T2:(replicate (ln.ai.n+1) (none:Option Nat)).length=(ln.ai.n+1):=ABR
  try dsimp only
  refine nV (ι:={z:Nat // True}) [0,1,2] [0,1,2,3,4,6] U U (fun z=>[]) (fun z=>[(bD (bB oM [[((aI.mk 0 0),ri.Start)]] [z.1])),(own fA (ln.ai.n+1) 346 1 (map oC (dM [z.1] (ln.ai.n+1))))]) (fun _=>rfl) (fun _=>rfl) ?_ fun K5 NE=>?_
  ·rintro ⟨ga,_⟩
   try dsimp only
   refine aq aY 8 ?_;refine mo ?_;have C:(0≤ln.ai.n)∧(([[((aI.mk 0 0),ri.Start)]]).length=0+1)∧(([ga]).length=0+1)∧(sB (cS ln ri e tms) ([[((aI.mk 0 0),ri.Start)]])):=by exact ⟨c4 _,rfl,rfl,sB.first⟩
   refine zc (ι:={z:Nat×(List FM)×(List Nat)×(List Nat) // (z.1≤ln.ai.n)∧(z.2.1.length=z.1+1)∧(z.2.2.1.length=z.1+1)∧(sB (cS ln ri e tms) z.2.1)}) (fun z=>z.1.2.2.2.map jB) (fun z=>[(0,(vP gw)),(1,(vP W)),(2,(vI (ln.ai.n:Int))),(52,(vI (ln.ai.n:Int))),(53,(vI (z.1.1:Int)))]) (fun z=>[(bD (z.1.2.2.2.map nR)),(cb gw 343 (cj.cells (cj.mk ln ri (aX.mk e_A e.length e_C) (aX.mk t_A tms.length t_C) (aX.mk fA (ln.ai.n+1) (ln.ai.n+1)) (aX.mk bA (ln.ai.n+1) (ln.ai.n+1))))).ro,(cb W 301 [(vP gw)]),(rd e_A e.length 1 (e.map iC)).ro,(rd t_A tms.length 1 (zipWith gY tms tb)).ro,(iU (bB r_ tms tb)).ro,(own bA (ln.ai.n+1) 346 1 (map oC (replicate (ln.ai.n+1) (none:Option Nat)))),(bD (bB oM z.1.2.1 z.1.2.2.1)),(own fA (ln.ai.n+1) 346 1 (map oC (dM z.1.2.2.1 (ln.ai.n+1))))]) (fun z=>ln.ai.n-z.1.1) ⟨(0,[[((aI.mk 0 0),ri.Start)]],[ga],([]:List Nat)),C⟩ U (aN U) (aB [0,1,2,3,4,5,6,7,8]) ?_;clear C;rintro ⟨⟨b,fs,fb,L2⟩,⟨DR,Ap,Di,M⟩⟩ J8 M9
   try dsimp only at DR Ap Di M
   try dsimp only
   have T4:(dM fb (ln.ai.n+1)).length=(ln.ai.n+1):=oZ I;refine aq bT 6 ?_;refine bY U (aG fun M2=>?_) (aH fun M2=>?_)
   ·refine aU aY 7 U<|AL U jU fun r=>IV U Gy U U<|aq aj 3 ?_;refine cT bX [6,8] [6] [0] [0,1,2,3,4,5,6,7,8] [0,1,2,3,4,5,6,7,8,9] U U U U U<|eS U (Fk 3 U bP U)<|eS U (SX (bO U U) U U)<|eS U (FA 12 U eB U)<|eS U (Mz (vS fA (ln.ai.n+1) (ln.ai.n+1)) 2 U bP U U)<|eS U (Fk 0 U bP U)<|eS U (BI U (jq ⟨I,I⟩)) ?_;obtain ⟨R0,La⟩:=ay (dM fb (ln.ai.n+1)) (b+1) I;have hx17m:(map oC (dM fb (ln.ai.n+1)))[(b+1)]? =some (oC R0):=by rw [gO,La];rfl
    refine fS U (IA (b+1) U (ao (n:=(ln.ai.n+1)) 9 U sq) pQ dc I I) ?_;refine dL U<|gr U fun T18 IR=>lv (kV:=eN) U U fun B=>?_
    try dsimp only
    refine bG (IR _ _ (aB [1,2,3,4,5,6,7,8,9]) (aB [1,2,3,4,5,6,7,8,9,10]) ?_);refine bR U fun T20 Id=>?_;have J6:((dM fb (ln.ai.n+1)).set (b+1) (some B))=(dM (fb++[B]) (ln.ai.n+1)):=by exact uH I I
    refine ej (k:=(b+1)) (o:=0) (vs:=[(Value.map (some B))]) (es':=(map oC (dM (fb++[B]) (ln.ai.n+1)))) (C':=[_,_,_,_,_,_,_,_,_,_,(own fA (ln.ai.n+1) 346 1 (map oC (dM (fb++[B]) (ln.ai.n+1))))]) 10 U U U Nl U U U U hx17m U dc (by exact (AAl (f:=oC) (l:=(dM fb (ln.ai.n+1))) (i:=(b+1)) (a:=(some B))).symm.trans (c7 _ J6)) U<|bG (Id _ _ (aB [1,2,3,4,5,6,7,8,9]) ?_);refine eI U<|aq jC 2 ?_;have Op:(dM (fb++[B]) (ln.ai.n+1)).length=(ln.ai.n+1):=oZ (by simp;omega);obtain ⟨mb,N⟩:=ay fs b I;obtain ⟨ga,Y⟩:=ay fb b I;refine B4 9 N Y U U U ?_
    try dsimp only
    refine cL bX 7 kr<|jY 1 [] (mc 6 U mn) U<|dS (SX (bO U U) U U)<|dP 3 [0,1] (mr 5 U (mc 3 U mn)) ?_;have K8:(map oC (dM (fb++[B]) (ln.ai.n+1)))[b]? =some (oC (some ga)):=sH (og (QK Y));refine dS (IA b U (ao (n:=(ln.ai.n+1)) 11 U sq) pQ dc I I) ?_;refine dS (gF b 0 (Value.map (some ga)) U bP (ao (n:=(dM (fb++[B]) (ln.ai.n+1)).length) 11 U sm) K8 U dc U)<|cy<|yb 0 U U qP U U fun A6=>?_
    try dsimp only
    refine aq aj 3 ?_;have C:(∀ p∈mb,p∈mb)∧(Ah (cS ln ri e tms) b ([]:FM))∧(lg (cS ln ri e tms) b mb ([]:FM) mb):=by exact ⟨fun p hp=>hp,Ah.start,lg.start⟩
    refine zc (ι:={z:FM×FM×(List Nat) // (∀ p∈z.1,p∈mb)∧(Ah (cS ln ri e tms) b z.2.1)∧(lg (cS ln ri e tms) b mb z.2.1 z.1)}) (fun z=>z.1.2.2.map jB) (fun z=>[(0,(vP gw)),(1,(vP W)),(2,(vI (ln.ai.n:Int))),(3,(vP r)),(52,(vI (ln.ai.n:Int))),(53,(vI (b:Int))),(71,(vP A6))]) (fun z=>[(CS eN A6 ga (bS iV mb) (bS iV z.1.1) none),(bD (fF oM fs fb b)),(iu eN B (bS iV z.1.2.1)),(cb r 3 [(vI (b:Int))]),(bD (z.1.2.2.map nR)),(cb gw 343 (cj.cells (cj.mk ln ri (aX.mk e_A e.length e_C) (aX.mk t_A tms.length t_C) (aX.mk fA (ln.ai.n+1) (ln.ai.n+1)) (aX.mk bA (ln.ai.n+1) (ln.ai.n+1))))).ro,(cb W 301 [(vP gw)]),(rd e_A e.length 1 (e.map iC)).ro,(rd t_A tms.length 1 (zipWith gY tms tb)).ro,(iU (bB r_ tms tb)).ro,(own bA (ln.ai.n+1) 346 1 (map oC (replicate (ln.ai.n+1) (none:Option Nat)))),(own fA (ln.ai.n+1) 346 1 (map oC (dM (fb++[B]) (ln.ai.n+1))))]) (fun z=>z.1.1.length) ⟨(mb,([]:FM),L2),C⟩ U (aN U) (aB [0,1,2,3,4,5,6,7,8,9,10,11]) ?_;clear C;rintro ⟨⟨left,m,A0⟩,⟨Z,c,d⟩⟩ J26 GT
    try dsimp only at Z c d
    try dsimp only
    refine aq bT 2 ?_;refine vg qV.inj (f:=iV) 0 U U U U (fun M8=>?_) (fun t v hm Dn=>?_)
    ·refine aU aj 6 U<|aq fz 7 ?_;refine OS (C':=[(iu eN ga (bS iV mb)),(bD (fF oM fs fb b)),(iu eN B (bS iV m)),(cb r 3 [(vI (b:Int))]),(bD (A0.map nR)),(cb gw 343 (cj.cells (cj.mk ln ri (aX.mk e_A e.length e_C) (aX.mk t_A tms.length t_C) (aX.mk fA (ln.ai.n+1) (ln.ai.n+1)) (aX.mk bA (ln.ai.n+1) (ln.ai.n+1))))).ro,(cb W 301 [(vP gw)]),(rd e_A e.length 1 (e.map iC)).ro,(rd t_A tms.length 1 (zipWith gY tms tb)).ro,(iU (bB r_ tms tb)).ro,(own bA (ln.ai.n+1) 346 1 (map oC (replicate (ln.ai.n+1) (none:Option Nat)))),(own fA (ln.ai.n+1) 346 1 (map oC (dM (fb++[B]) (ln.ai.n+1))))]) 0 U ME U<|Ph 1 0 N Y U U U ?_
     try dsimp only
     refine By (X':=bB oM (fs++[m]) (fb++[B])) 0 1 U U (Bz I U) ?_
     try dsimp only
     have J7:(vI (((b+1):Nat):Int))=(vI ((b:Int)+1)):=by exact cI I
     refine aL (M9 ⟨((b+1),(fs++[m]),(fb++[B]),A0),⟨I,by simp;omega,by simp;omega,M.add Ap N c d M8⟩⟩ _ _ _ U os (cx 4<|aQ U J7<|cV.nil _) (aB [2,3,4,5,6,7,8,0,9]))
    try dsimp only
    refine aU aj 10 U<|rS (SX (ve 0 U U U) U U)<|aU aj 2 U<|AL U wV fun EQ=>AL U jU fun EU=>o_ U u3 U<|IV U Gy U U<|ck aj 6 [0,1] (mc 8 U (mc 5 U mn)) ?_;refine cX (xT gw b) (aA) U fun R4 ST=>?_;obtain ⟨A9,BP⟩:=R4
    try dsimp only
    refine aq aj 3 ?_;refine iw 11 U (by exact fun _ h=>h)<|iw 13 U (by exact fun _ h=>h)<|iw 15 U (by exact fun _ h=>h)<|iw 12 U (by exact fun _ h=>h) ?_;refine o5 (L0:=[(0,(vP gw)),(1,(vP W)),(2,(vI (ln.ai.n:Int))),(3,(vP r)),(4,(vP EQ)),(5,(vP EU)),(52,(vI (ln.ai.n:Int))),(53,(vI (b:Int))),(71,(vP A6))]) (F:=[(rd e_A e.length 1 (e.map iC)).ro,(rd t_A tms.length 1 (zipWith gY tms tb)).ro,(iU (bB r_ tms tb)).ro,(cb gw 343 (cj.cells (cj.mk ln ri (aX.mk e_A e.length e_C) (aX.mk t_A tms.length t_C) (aX.mk fA (ln.ai.n+1) (ln.ai.n+1)) (aX.mk bA (ln.ai.n+1) (ln.ai.n+1))))).ro,(cb A9 301 [(vP gw)]),(cb BP 3 [(vI (b:Int))])]) (fun k (y:FM)=>(o6 (cS ln ri e tms) b mb left y (t,v) k)) (fun k y=>[(cb EU 3 [(vI v)]),(cb EQ 348 (aI.cells t)),(CS eN A6 ga (bS iV mb) (bS iV (cJ left t)) (some (t,(vI v)))),(bD (fF oM fs fb b)),(iu eN B (bS iV y)),(cb r 3 [(vI (b:Int))]),(bD (A0.map nR)),(cb gw 343 (cj.cells (cj.mk ln ri (aX.mk e_A e.length e_C) (aX.mk t_A tms.length t_C) (aX.mk fA (ln.ai.n+1) (ln.ai.n+1)) (aX.mk bA (ln.ai.n+1) (ln.ai.n+1))))).ro,(cb W 301 [(vP gw)]),(rd e_A e.length 1 (e.map iC)).ro,(rd t_A tms.length 1 (zipWith gY tms tb)).ro,(iU (bB r_ tms tb)).ro,(own bA (ln.ai.n+1) 346 1 (map oC (replicate (ln.ai.n+1) (none:Option Nat)))),(own fA (ln.ai.n+1) 346 1 (map oC (dM (fb++[B]) (ln.ai.n+1))))]) (fun _ (_:Unit)=>False) (fun _ _=>[]) [6,7,8,9,10,11,12,13,14,15,16,17,18,19] [3,2,1,0,4,5] m rfl rfl (vo ln ri e tms e_A e_C tb t_A t_C fA (ln.ai.n+1) (ln.ai.n+1) bA (ln.ai.n+1) (ln.ai.n+1) gw b A9 BP I I) rfl rfl rfl (by exact o6.start c d) (by simp only [AAI,h_,AAs,AAv,ABC];exact ⟨⟨_,aF (i:=0) rfl,(dj (bM _))⟩,⟨_,aF (i:=1) rfl,(dj (bM _))⟩,⟨_,aF (i:=2) rfl,(dj (bM _))⟩,⟨_,aF (i:=3) rfl,(dj (bM _))⟩,⟨_,aF (i:=4) rfl,(bM _)⟩,⟨_,aF (i:=5) rfl,(bM _)⟩⟩) (by rintro k x k2 ⟨o,_,rfl,_⟩;rfl) rfl (aN rfl) ?_ ?_ (fun _ _ _ h=>h.elim) (fun _ _ h=>h.elim);rotate_left 1
    ·rintro Qr k O AO Cx;have D:=Cx
     try dsimp only
     refine aq jC 2 ?_;refine Oq (X:=A0.map nR) 13 0 U U ?_
     try dsimp only
     refine iH 9 U zR U ?_;refine aL (GT ⟨((cJ left t),O,(Qr::A0)),⟨oe Z,D.on,D.next Dn hm AO⟩⟩ _ _ _ U (e9 hm) (aN U) (aB [9,10,11,12,0,4,14,1,2,3,18,19]))
    rintro k x k2 O l ra rb S w1 K39 Qr40 Pi hx Cp G3 H R2 R6;obtain ⟨o,ho,rfl,rfl⟩:=hx;have D:=Cp
    try dsimp only
    refine aU bT 6 U<|AL U dD fun S1=>eM U cK U<|aq aj 1 ?_;refine j7 (fun _ _ h=>h) (aB [1,0,2,3,4,5,6,7,8,9,10,11,12,13,14,15])<|aL (G3 _ _ ?_);refine aq bT 2 ?_;refine cT bX [16,18] [] [] [0,1,2,3,4,5,6,7,8,9,10,11,12,13,14,15] [] U U U U U<|eS U (Fk 2 U bP U)<|eS U (Fk 10 U bP U)<|eS U (SX (bO U U) U U)<|eS U (FA 10 U eB U)<|eS U (Mz (vS e_A e.length e_C) 9 U bP U U)<|eS U (Fk 7 U bP U) ?_;obtain ⟨y,hy⟩:=ay e b I;have Do:=bx iC hy;refine eS U (IA b U (av 11 U) cO dc I I)<|eS U (gF b 0 (vI y) U bP (av 11 U) Do U dc U) ?_;have Ob:=hw.least y (aF hy);have hp:=M.mem N (Z _ hm);have Ne:=OP hw _ _ hp;have Os:=yj o.1;have PP:=hw.opt ho;have T6:=hw.now;dsimp only at Ne;refine eS U (BI U (jq ⟨I,I⟩))<|eS U (FA 0 U eB U)<|eS U (L1 (vI o.2.Lo) 1 U bP U U)<|eS U (MX U)<|eS U (LW 3 U bP U U)<|eS U (MV U)<|eS U (CL (Oa o.1) (aA) U)<|eS U (CL (yX t (gU o.1) I I) (aA) U)<|eS U (AG U)<|dL U<|bR U fun T45 If=>AL U wV fun S2=>bG (If _ _ (aB [1,2,3,4,5,6,7,8,9,10,11,12,13,14,15,16]) ?_);refine bR U fun T47 In=>eM U u3 U<|bG (In _ _ (aB [1,2,3,4,5,6,7,8,9,10,11,12,13,14,15,16]) ?_);refine eI U<|aU jC 2 U<|cL bX 15 kr<|jY 1 [] (mc 11 U mn) U<|dS (SX (bO U U) U U)<|dP 4 [0,1] (mr 10 U (mc 8 U mn)) ?_;have LA:(map oC (dM (fb++[B]) (ln.ai.n+1)))[(b+1)]? =some (oC (some B)):=sH (og (CZ I));refine dS (IA (b+1) U (ao (n:=(ln.ai.n+1)) 16 U sq) pQ dc I I) ?_;refine dS (gF (b+1) 0 (Value.map (some B)) U bP (ao (n:=(dM (fb++[B]) (ln.ai.n+1)).length) 16 U sm) LA U dc U)<|jY 1 [] (mc 0 U mn) U<|dS (SX (rQ (kV:=eN) (x:=(dY t (gU o.1))) (l:=O) (f:=iV) (z:=0) U U U qP qV tv3 (by exact av 7 U)) U U)<|iQ 5 U<|cy<|aU aj 3 U<|cL bX 19 kr<|jY 4 [0,1] (mc 2 U (mc 11 U mn)) U<|dS (SX (bO U U) U U)<|jY 3 [] (mr 10 U mn) U<|dS (MN U)<|dP 2 [] mn ?_;refine iM (t:=121) U (aH fun P=>?_) (aG fun P=>?_)
    ·refine iQ 8 U<|cy<|aq aj 5 ?_;exact H O _ _ (by exact D.skip (QJ hy P)) (aB [1,3,4,5,6,7,8,9,10,11,12,13,14,15,16])
    refine dP 3 [] mn ?_;refine iI (t:=124) U (fun R=>?_) (fun R=>?_)
    ·rw [e0] at R;refine iQ 5 U<|cy<|aU aj 3 U<|cL bX 10 kr<|jY 1 [] (mc 11 U mn) U<|dS (SX (bO U U) U U)<|dP 4 [0,1] (mr 10 U (mc 8 U mn)) ?_;have LE:(map oC (dM (fb++[B]) (ln.ai.n+1)))[(b+1)]? =some (oC (some B)):=sH (og (CZ I));refine dS (IA (b+1) U (ao (n:=(ln.ai.n+1)) 16 U sq) pQ dc I I) ?_;refine dS (gF (b+1) 0 (Value.map (some B)) U bP (ao (n:=(dM (fb++[B]) (ln.ai.n+1)).length) 16 U sm) LE U dc U)<|jY 2 [] (mc 0 U mn) U<|cy<|iN (kV:=eN) (x:=(dY t (gU o.1))) (C':=[_,_,_,_,_,_,_,(iu eN B (bS iV (d_ O (dY t (gU o.1)) (max (v+y) o.2.Lo)))),_,_,_,_,_,_,_,_,_]) 7 U U U U qP qV U (gH _ _ _ _).symm U<|aq aj 2 ?_;exact H (d_ O (dY t (gU o.1)) (max (v+y) o.2.Lo)) _ _ (by exact D.set hp ho (DW hy P) (.inl (by simpa using R))) (aB [1,3,4,5,6,7,8,9,10,11,12,13,14,15,16])
    rw [m5] at R;refine iQ 5 U<|cy<|aq aj 2 ?_;refine bE U (aH fun s=>?_) (aG fun s=>?_)
    ·refine aq aY 2 ?_;exact H O _ _ (by exact D.qS (DW hy P) (by simpa using R) s) (aB [1,3,4,5,6,7,8,9,10,11,12,13,14,15,16])
    refine cL bX 10 kr<|jY 1 [] (mc 11 U mn) U<|dS (SX (bO U U) U U)<|dP 4 [0,1] (mr 10 U (mc 8 U mn)) ?_;have LS:(map oC (dM (fb++[B]) (ln.ai.n+1)))[(b+1)]? =some (oC (some B)):=sH (og (CZ I));refine dS (IA (b+1) U (ao (n:=(ln.ai.n+1)) 16 U sq) pQ dc I I) ?_;refine dS (gF (b+1) 0 (Value.map (some B)) U bP (ao (n:=(dM (fb++[B]) (ln.ai.n+1)).length) 16 U sm) LS U dc U)<|jY 2 [] (mc 0 U mn) U<|cy<|iN (kV:=eN) (x:=(dY t (gU o.1))) (C':=[_,_,_,_,_,_,_,(iu eN B (bS iV (d_ O (dY t (gU o.1)) (max (v+y) o.2.Lo)))),_,_,_,_,_,_,_,_,_]) 7 U U U U qP qV U (gH _ _ _ _).symm U<|aq aj 2 ?_;exact H (d_ O (dY t (gU o.1)) (max (v+y) o.2.Lo)) _ _ (by exact D.set hp ho (DW hy P) (.inr s)) (aB [1,3,4,5,6,7,8,9,10,11,12,13,14,15,16])
   refine aU aY 1 U<|aU fz 5 U<|AL U jU fun L3=>IV U Gy U U<|aq aj 3 ?_;rw [Le];refine mo ?_;have C:(0≤ln.ai.n+1)∧(([]:List FM).length=0)∧(([]:List Nat).length=0)∧(je (cS ln ri e tms) (ln.ai.n+1-0) ([]:List FM)):=by exact ⟨c4 _,rfl,rfl,je.none_⟩
   refine zc (ι:={z:Nat×(List FM)×(List Nat)×Nat×(List Nat) // (z.1≤ln.ai.n+1)∧(z.2.1.length=z.1)∧(z.2.2.1.length=z.1)∧(je (cS ln ri e tms) (ln.ai.n+1-z.1) z.2.1)}) (fun z=>z.1.2.2.2.2.map jB) (fun z=>[(0,(vP gw)),(1,(vP W)),(2,(vI (ln.ai.n:Int))),(12,(Value.pointer (some ⟨z.1.2.2.2.1,0,none⟩)))]) (fun z=>[(bD (bB oM z.1.2.1 z.1.2.2.1)),(cb z.1.2.2.2.1 3 [(vI ((ln.ai.n:Int)-(z.1.1:Int)))]),(bD (z.1.2.2.2.2.map nR)),(cb gw 343 (cj.cells (cj.mk ln ri (aX.mk e_A e.length e_C) (aX.mk t_A tms.length t_C) (aX.mk fA (ln.ai.n+1) (ln.ai.n+1)) (aX.mk bA (ln.ai.n+1) (ln.ai.n+1))))).ro,(cb W 301 [(vP gw)]),(rd e_A e.length 1 (e.map iC)).ro,(rd t_A tms.length 1 (zipWith gY tms tb)).ro,(iU (bB r_ tms tb)).ro,(own bA (ln.ai.n+1) 346 1 (map oC (iY z.1.2.2.1 (ln.ai.n+1)))),(bD (bB oM fs fb)),(own fA (ln.ai.n+1) 346 1 (map oC (dM fb (ln.ai.n+1))))]) (fun z=>ln.ai.n+1-z.1.1) ⟨(0,([]:List FM),([]:List Nat),L3,L2),C⟩ U (aN U) (aB [0,1,2,3,4,5,6,7,8,9,10]) ?_;clear C;rintro ⟨⟨j,bs,bb,gq,g⟩,⟨A3,A4,A5,E⟩⟩ J57 A8
   try dsimp only at A3 A4 A5 E
   try dsimp only
   refine ck bT 7 [] (mc 1 U mn) ?_;refine bE U (aH fun Fd=>?_) (aG fun Fd=>?_)
   ·refine aU aY 1 U<|aq fz 1 ?_;rw [show (map oC (dM fb (ln.ai.n+1)))=(zipWith gY fs fb) from by rw [CG I];exact (Dy I).symm];rw [show (map oC (iY bb (ln.ai.n+1)))=(zipWith gY bs bb) from by rw [Ls I];exact (Dy I).symm];refine DK (C1:=[(own fA (ln.ai.n+1) 346 1 (zipWith gY fs fb)),(bD (bB oM fs fb)),(own bA (ln.ai.n+1) 346 1 (zipWith gY bs bb)),(bD (bB oM bs bb)),(bD (g.map nR))]) hz [10,9,8,0,2] U U (by simp only [eX,om,Jf,RV,n4];rfl) ?_;rw [show (cb gw 343 (cj.cells (cj.mk ln ri (aX.mk e_A e.length e_C) (aX.mk t_A tms.length t_C) (aX.mk fA (ln.ai.n+1) (ln.ai.n+1)) (aX.mk bA (ln.ai.n+1) (ln.ai.n+1)))))=(cb gw 343 (cj.cells (cj.mk ln ri (aX.mk e_A e.length e_C) (aX.mk t_A tms.length t_C) (aX.mk fA fs.length (ln.ai.n+1)) (aX.mk bA bs.length (ln.ai.n+1))))) from by rw [show fs.length=(ln.ai.n+1) from by omega,show bs.length=(ln.ai.n+1) from by omega]];refine UY [(cb gw 343 (cj.cells (cj.mk ln ri (aX.mk e_A e.length e_C) (aX.mk t_A tms.length t_C) (aX.mk fA fs.length (ln.ai.n+1)) (aX.mk bA bs.length (ln.ai.n+1))))),(own fA (ln.ai.n+1) 346 1 (zipWith gY fs fb)),(bD (bB oM fs fb)),(own bA (ln.ai.n+1) 346 1 (zipWith gY bs bb)),(bD (bB oM bs bb))] [(bD (g.map nR))] ?_;refine hN _ _ _ (N8 1 U U<|g4 (vs:=[]) trivial fun w hs=>Yt (fs,fb,fA,(ln.ai.n+1),bs,bb,bA,(ln.ai.n+1)) 0 ?_ ?_ U (by show List.all _ _=true;simp only [eX,om,Jf,n4];rfl) hs)
    ·clear hs w hQ hN ;rfl
    ·clear hs w hQ hN ;exact ⟨M.ok (by show fs.length=e.length+1;omega),je.ok (by have:=E;rwa [show ln.ai.n+1-j=0 by omega] at this) (by show bs.length=e.length+1;omega),dso,dso⟩
   refine aq aY 5 ?_;obtain ⟨b,T0⟩: ∃ b:Nat,b+j=ln.ai.n:=⟨ln.ai.n-j,I⟩;rw [show (ln.ai.n:Int)-(j:Int)=(b:Int) from by omega];have R9:(iY bb (ln.ai.n+1)).length=(ln.ai.n+1):=Ce I;refine cT bX [5,12,13,15] [11] [0,1,2] [0,1,2,3,4,5,6,7,9,10] [0,1,2,3,4,5,6,7,8,9,10] U U U U U<|eS U (Fk 4 U bP U)<|eS U (SX (bO U U) U U)<|eS U (FA 13 U eB U)<|eS U (Mz (vS bA (ln.ai.n+1) (ln.ai.n+1)) 3 U bP U U)<|eS U (Fk 1 U bP U)<|eS U (SX (aW (xs:=[]) (cs:=(aI.cells (aI.mk 0 0))) U U (aV EY U)) U U)<|eS U (Fk 4 U bP U)<|eS U (SX (bO U U) U U)<|eS U (FA 7 U eB U)<|eS U (FA 8 U eB U)<|eS U (Mz (vI ri.hP) 3 U bP U U) ?_;obtain ⟨R1,Li⟩:=ay (iY bb (ln.ai.n+1)) b I;have hx63m:(map oC (iY bb (ln.ai.n+1)))[b]? =some (oC R1):=by rw [gO,Li];rfl
   refine fS U (IA b U (ao (n:=(ln.ai.n+1)) 8 U sq) pQ dc I I) ?_;refine dL U<|gr U fun T64 Iw=>lv (kV:=eN) U U fun A=>?_
   try dsimp only
   refine bG (Iw _ _ (aB [1,2,3,4,5,6,7,8,10,11]) (aB [1,2,3,4,5,6,7,8,9,10,11]) ?_);refine gr U fun T66 I7=>?_;have J9:(d_ ([]:List (aI×Int)) (aI.mk 0 0) ri.hP)=[((aI.mk 0 0),ri.hP)]:=by rfl
   refine BT (kV:=eN) (x:=(aI.mk 0 0)) (C':=[(iu eN A (bS iV ([((aI.mk 0 0),ri.hP)]))),_,_,_,_,_,_,_,_,_,_,_]) 0 U U U U qP qV U ((gH _ _ _ _).symm.trans (c7 _ J9)) U<|bG (I7 _ _ (aB [1,2,3,4,5,6,7,8,10,11]) (aB [1,2,3,4,5,6,7,8,9,10,11]) ?_);refine gr U fun T68 J2=>rS (MV U)<|bG (J2 _ _ (aB [1,2,3,4,5,6,7,8,10,11]) (aB [1,2,3,4,5,6,7,8,9,10,11]) ?_);refine bR U fun T69 J3=>?_;have K0:((iY bb (ln.ai.n+1)).set b (some A))=(iY (A::bb) (ln.ai.n+1)):=by exact Lm I
   refine ej (k:=b) (o:=0) (vs:=[(Value.map (some A))]) (es':=(map oC (iY (A::bb) (ln.ai.n+1)))) (C':=[_,_,_,_,_,_,_,_,_,(own bA (ln.ai.n+1) 346 1 (map oC (iY (A::bb) (ln.ai.n+1)))),_,_]) 9 U U U Nl U U U U hx63m U dc (by exact (AAl (f:=oC) (l:=(iY bb (ln.ai.n+1))) (i:=b) (a:=(some A))).symm.trans (c7 _ K0)) U<|bG (J3 _ _ (aB [1,2,3,4,5,6,7,8,10,11]) ?_);refine eI U<|ck jC 9 [] (mc 2 U mn) ?_;refine bY U (aG fun Fn=>?_) (aH fun Fn=>?_)
   ·refine dF aY 9 [] (mc 2 U mn) U<|AL U jU fun MK=>IV U Gy U U<|dF aj 5 [] (mc 0 U mn) U<|IV U Gy U U<|aq aj 1 ?_;rw [show (b:Int)-1=(ln.ai.n:Int)-(((j+1):Nat):Int) from by omega];refine BN (ms:=bs) (m:=[((aI.mk 0 0),ri.hP)]) (a:=A) 2 1 U U U ?_
    try dsimp only
    refine aL (A8 ⟨((j+1),([((aI.mk 0 0),ri.hP)]::bs),(A::bb),MK,g),⟨I,by simp;omega,by simp;omega,by exact je.end_ (b:=b) E I I (by show e.length≤b;omega)⟩⟩ _ _ _ U os (aN U) (aB [0,1,3,4,5,6,7,8,9,10,11]))
   refine aq aY 3 ?_;have Or:(iY (A::bb) (ln.ai.n+1)).length=(ln.ai.n+1):=Ce (by simp;omega);obtain ⟨mb,N⟩:=ay bs 0 I;obtain ⟨ga,Y⟩:=ay bb 0 I;refine B4 1 N Y U U U ?_
   try dsimp only
   refine cL bX 8 kr<|jY 1 [] (mc 6 U mn) U<|dS (SX (bO U U) U U)<|dP 4 [0,1] (mr 5 U (mc 3 U mn)) ?_;have LT:(map oC (iY (A::bb) (ln.ai.n+1)))[(b+1)]? =some (oC (some ga)):=sH (w9 (i:=1) (by simpa using Y) (by simp;omega));refine dS (IA (b+1) U (ao (n:=(ln.ai.n+1)) 10 U sq) pQ dc I I) ?_;refine dS (gF (b+1) 0 (Value.map (some ga)) U bP (ao (n:=(iY (A::bb) (ln.ai.n+1)).length) 10 U sm) LT U dc U)<|cy<|yb 0 U U qP U U fun A7=>?_
   try dsimp only
   refine aq aj 3 ?_;have C:(∀ p∈mb,p∈mb)∧(yL (cS ln ri e tms) b ([((aI.mk 0 0),ri.hP)]))∧(kR (cS ln ri e tms) b mb ([((aI.mk 0 0),ri.hP)]) mb):=by exact ⟨fun p hp=>hp,yL.start (by show b<e.length;omega),kR.start⟩
   refine zc (ι:={z:FM×FM×(List Nat) // (∀ p∈z.1,p∈mb)∧(yL (cS ln ri e tms) b z.2.1)∧(kR (cS ln ri e tms) b mb z.2.1 z.1)}) (fun z=>z.1.2.2.map jB) (fun z=>[(0,(vP gw)),(1,(vP W)),(2,(vI (ln.ai.n:Int))),(12,(vP gq)),(171,(vP A7))]) (fun z=>[(CS eN A7 ga (bS iV mb) (bS iV z.1.1) none),(bD (fF oM bs bb 0)),(iu eN A (bS iV z.1.2.1)),(cb gq 3 [(vI (b:Int))]),(bD (z.1.2.2.map nR)),(cb gw 343 (cj.cells (cj.mk ln ri (aX.mk e_A e.length e_C) (aX.mk t_A tms.length t_C) (aX.mk fA (ln.ai.n+1) (ln.ai.n+1)) (aX.mk bA (ln.ai.n+1) (ln.ai.n+1))))).ro,(cb W 301 [(vP gw)]),(rd e_A e.length 1 (e.map iC)).ro,(rd t_A tms.length 1 (zipWith gY tms tb)).ro,(iU (bB r_ tms tb)).ro,(own bA (ln.ai.n+1) 346 1 (map oC (iY (A::bb) (ln.ai.n+1)))),(bD (bB oM fs fb)),(own fA (ln.ai.n+1) 346 1 (map oC (dM fb (ln.ai.n+1))))]) (fun z=>z.1.1.length) ⟨(mb,[((aI.mk 0 0),ri.hP)],g),C⟩ U (aN U) (aB [0,1,2,3,4,5,6,7,8,9,10,11,12]) ?_;clear C;rintro ⟨⟨left,m,V⟩,⟨J,K,L⟩⟩ J80 Go
   try dsimp only at J K L
   try dsimp only
   refine aq bT 2 ?_;refine vg qV.inj (f:=iV) 0 U U U U (fun GE=>?_) (fun t v hm Dn=>?_)
   ·refine aU aj 6 U<|dF fz 10 [] (mc 3 U mn) U<|AL U jU fun Eq=>IV U Gy U U<|dF aj 5 [] (mc 0 U mn) U<|IV U Gy U U<|aq aj 1 ?_;refine OS (C':=[(cb Eq 3 [(vI ((b:Int)-1))]),(iu eN ga (bS iV mb)),(bD (fF oM bs bb 0)),(iu eN A (bS iV m)),(cb gq 3 [(vI (b:Int))]),(bD (V.map nR)),(cb gw 343 (cj.cells (cj.mk ln ri (aX.mk e_A e.length e_C) (aX.mk t_A tms.length t_C) (aX.mk fA (ln.ai.n+1) (ln.ai.n+1)) (aX.mk bA (ln.ai.n+1) (ln.ai.n+1))))).ro,(cb W 301 [(vP gw)]),(rd e_A e.length 1 (e.map iC)).ro,(rd t_A tms.length 1 (zipWith gY tms tb)).ro,(iU (bB r_ tms tb)).ro,(own bA (ln.ai.n+1) 346 1 (map oC (iY (A::bb) (ln.ai.n+1)))),(bD (bB oM fs fb)),(own fA (ln.ai.n+1) 346 1 (map oC (dM fb (ln.ai.n+1))))]) 1 U ME U<|Ph 2 1 N Y U U U ?_
    try dsimp only
    rw [show (b:Int)-1=(ln.ai.n:Int)-(((j+1):Nat):Int) from by omega];refine BN (ms:=bs) (m:=m) (a:=A) 0 2 U U U ?_
    try dsimp only
    refine aL (A8 ⟨((j+1),(m::bs),(A::bb),Eq,V),⟨I,by simp;omega,by simp;omega,by exact je.more (b:=b) E I I (by show b<e.length;omega) N K L GE⟩⟩ _ _ _ U os (aN U) (aB [0,1,3,4,5,6,7,8,9,10,11]))
   try dsimp only
   refine aU aj 10 U<|rS (SX (ve 0 U U U) U U)<|aU aj 2 U<|AL U wV fun Es=>AL U jU fun FS=>o_ U u3 U<|IV U Gy U U<|ck aj 6 [0,1] (mc 8 U (mc 5 U mn)) ?_;refine cX (xT gw b) (aA) U fun R5 Sh=>?_;obtain ⟨BD,Bt⟩:=R5
   try dsimp only
   refine aq aj 3 ?_;refine iw 11 U (by exact fun _ h=>h)<|iw 13 U (by exact fun _ h=>h)<|iw 15 U (by exact fun _ h=>h)<|iw 12 U (by exact fun _ h=>h) ?_;refine o5 (L0:=[(0,(vP gw)),(1,(vP W)),(2,(vI (ln.ai.n:Int))),(12,(vP gq)),(13,(vP Es)),(14,(vP FS)),(171,(vP A7))]) (F:=[(rd e_A e.length 1 (e.map iC)).ro,(rd t_A tms.length 1 (zipWith gY tms tb)).ro,(iU (bB r_ tms tb)).ro,(cb gw 343 (cj.cells (cj.mk ln ri (aX.mk e_A e.length e_C) (aX.mk t_A tms.length t_C) (aX.mk fA (ln.ai.n+1) (ln.ai.n+1)) (aX.mk bA (ln.ai.n+1) (ln.ai.n+1))))).ro,(cb BD 301 [(vP gw)]),(cb Bt 3 [(vI (b:Int))])]) (fun k (y:FM)=>(pj (cS ln ri e tms) b mb left y (t,v) k)) (fun k y=>[(cb FS 3 [(vI v)]),(cb Es 348 (aI.cells t)),(CS eN A7 ga (bS iV mb) (bS iV (cJ left t)) (some (t,(vI v)))),(bD (fF oM bs bb 0)),(iu eN A (bS iV y)),(cb gq 3 [(vI (b:Int))]),(bD (V.map nR)),(cb gw 343 (cj.cells (cj.mk ln ri (aX.mk e_A e.length e_C) (aX.mk t_A tms.length t_C) (aX.mk fA (ln.ai.n+1) (ln.ai.n+1)) (aX.mk bA (ln.ai.n+1) (ln.ai.n+1))))).ro,(cb W 301 [(vP gw)]),(rd e_A e.length 1 (e.map iC)).ro,(rd t_A tms.length 1 (zipWith gY tms tb)).ro,(iU (bB r_ tms tb)).ro,(own bA (ln.ai.n+1) 346 1 (map oC (iY (A::bb) (ln.ai.n+1)))),(bD (bB oM fs fb)),(own fA (ln.ai.n+1) 346 1 (map oC (dM fb (ln.ai.n+1))))]) (fun _ (_:Unit)=>False) (fun _ _=>[]) [6,7,8,9,10,11,12,13,14,15,16,17,18,19,20] [3,2,1,0,4,5] m rfl rfl (vo ln ri e tms e_A e_C tb t_A t_C fA (ln.ai.n+1) (ln.ai.n+1) bA (ln.ai.n+1) (ln.ai.n+1) gw b BD Bt I I) rfl rfl rfl (by exact pj.start K L) (by simp only [AAI,h_,AAs,AAv,ABC];exact ⟨⟨_,aF (i:=0) rfl,(dj (bM _))⟩,⟨_,aF (i:=1) rfl,(dj (bM _))⟩,⟨_,aF (i:=2) rfl,(dj (bM _))⟩,⟨_,aF (i:=3) rfl,(dj (bM _))⟩,⟨_,aF (i:=4) rfl,(bM _)⟩,⟨_,aF (i:=5) rfl,(bM _)⟩⟩) (by rintro k x k2 ⟨o,_,rfl,_⟩;rfl) rfl (aN rfl) ?_ ?_ (fun _ _ _ h=>h.elim) (fun _ _ h=>h.elim);rotate_left 1
   ·rintro Lk k O AO A2;have D:=A2
    try dsimp only
    refine aq jC 2 ?_;refine Oq (X:=V.map nR) 13 0 U U ?_
    try dsimp only
    refine iH 9 U zR U ?_;refine aL (Go ⟨((cJ left t),O,(Lk::V)),⟨oe J,D.on,D.next Dn hm AO⟩⟩ _ _ _ U (e9 hm) (aN U) (aB [9,10,11,12,0,4,14,1,2,3,18,19,20]))
   rintro k x k2 O l ra rb S w1 K95 Qr96 Pi hx C0 G4 AB R3 R7;obtain ⟨o,ho,rfl,rfl⟩:=hx;have D:=C0
   try dsimp only
   refine aU bT 6 U<|AL U dD fun To=>eM U cK U<|aq aj 1 ?_;refine j7 (fun _ _ h=>h) (aB [1,0,2,3,4,5,6,7,8,9,10,11,12,13,14,15,16])<|aL (G4 _ _ ?_);refine aq bT 2 ?_;refine cT bX [16,18] [] [] [0,1,2,3,4,5,6,7,8,9,10,11,12,13,14,15,16] [] U U U U U<|eS U (Fk 2 U bP U)<|eS U (FA 1 U eB U)<|eS U (L1 (vI o.2.Hi) 1 U bP U U) ?_;have hp:=E.aaw (b:=b) I N (J _ hm);have NP:=M4 hw hp;have Os:=yj o.1;have PP:=hw.opt ho;dsimp only at NP;refine eS U (MN U)<|eS U (Fk 10 U bP U)<|eS U (SX (bO U U) U U)<|eS U (FA 10 U eB U)<|eS U (Mz (vS e_A e.length e_C) 9 U bP U U)<|eS U (Fk 7 U bP U) ?_;obtain ⟨y,hy⟩:=ay e b I;have Do:=bx iC hy;refine eS U (IA b U (av 11 U) cO dc I I)<|eS U (gF b 0 (vI y) U bP (av 11 U) Do U dc U) ?_;have Ob:=hw.least y (aF hy);refine eS U (BI U (vZ ⟨I,I⟩))<|eS U (LW 3 U bP U U)<|eS U (MV U)<|eS U (CL (Oa o.1) (aA) U)<|eS U (CL (yX t (gU o.1) I I) (aA) U)<|eS U (AG U)<|dL U<|bR U fun T101 B3=>AL U wV fun R8=>bG (B3 _ _ (aB [1,2,3,4,5,6,7,8,9,10,11,12,13,14,15,16,17]) ?_);refine bR U fun T103 B7=>eM U u3 U<|bG (B7 _ _ (aB [1,2,3,4,5,6,7,8,9,10,11,12,13,14,15,16,17]) ?_);refine eI U<|aU jC 2 U<|cL bX 14 kr<|jY 1 [] (mc 11 U mn) U<|dS (SX (bO U U) U U)<|dP 3 [0,1] (mr 10 U (mc 8 U mn)) ?_;have C2:(map oC (iY (A::bb) (ln.ai.n+1)))[b]? =some (oC (some A)):=sH (w9 (i:=0) rfl (by simp;omega));refine dS (IA b U (ao (n:=(ln.ai.n+1)) 15 U sq) pQ dc I I) ?_;refine dS (gF b 0 (Value.map (some A)) U bP (ao (n:=(iY (A::bb) (ln.ai.n+1)).length) 15 U sm) C2 U dc U)<|jY 1 [] (mc 0 U mn) U<|dS (SX (rQ (kV:=eN) (x:=(dY t (gU o.1))) (l:=O) (f:=iV) (z:=0) U U U qP qV tv3 (by exact av 7 U)) U U)<|iQ 5 U<|cy<|dF aj 7 [0,1] (mc 3 U (mc 2 U mn)) U<|rS (MN U)<|ck aj 4 [] (mc 2 U mn) ?_;refine cz (t:=217) U (aH fun T=>?_) (aG fun T=>?_)
   ·refine aq aj 13 ?_;exact AB O _ _ (by exact D.skip (Rt T)) (aB [1,3,4,5,6,7,8,9,10,11,12,13,14,15,16,17])
   refine aq aj 3 ?_;refine bK (t:=220) U (fun AA=>?_) (fun AA=>?_)
   ·rw [e0] at AA;refine aU aj 8 U<|cL bX 9 kr<|jY 1 [] (mc 11 U mn) U<|dS (SX (bO U U) U U)<|dP 3 [0,1] (mr 10 U (mc 8 U mn)) ?_;have C3:(map oC (iY (A::bb) (ln.ai.n+1)))[b]? =some (oC (some A)):=sH (w9 (i:=0) rfl (by simp;omega));refine dS (IA b U (ao (n:=(ln.ai.n+1)) 15 U sq) pQ dc I I) ?_;refine dS (gF b 0 (Value.map (some A)) U bP (ao (n:=(iY (A::bb) (ln.ai.n+1)).length) 15 U sm) C3 U dc U)<|jY 2 [] (mc 0 U mn) U<|cy<|iN (kV:=eN) (x:=(dY t (gU o.1))) (C':=[_,_,_,_,_,_,_,(iu eN A (bS iV (d_ O (dY t (gU o.1)) ((min v o.2.Hi)-y)))),_,_,_,_,_,_,_,_,_,_]) 7 U U U U qP qV U (gH _ _ _ _).symm U<|aq aj 2 ?_;exact AB (d_ O (dY t (gU o.1)) ((min v o.2.Hi)-y)) _ _ (by exact D.set (by show b<e.length;omega) hp ho (DZ hy T) (.inl (by simpa using AA))) (aB [1,3,4,5,6,7,8,9,10,11,12,13,14,15,16,17])
   rw [m5] at AA;refine aq aj 7 ?_;refine bE U (aH fun u=>?_) (aG fun u=>?_)
   ·refine aq aY 2 ?_;exact AB O _ _ (by exact D.qS (DZ hy T) (by simpa using AA) u) (aB [1,3,4,5,6,7,8,9,10,11,12,13,14,15,16,17])
   refine cL bX 9 kr<|jY 1 [] (mc 11 U mn) U<|dS (SX (bO U U) U U)<|dP 3 [0,1] (mr 10 U (mc 8 U mn)) ?_;have DA:(map oC (iY (A::bb) (ln.ai.n+1)))[b]? =some (oC (some A)):=sH (w9 (i:=0) rfl (by simp;omega));refine dS (IA b U (ao (n:=(ln.ai.n+1)) 15 U sq) pQ dc I I) ?_;refine dS (gF b 0 (Value.map (some A)) U bP (ao (n:=(iY (A::bb) (ln.ai.n+1)).length) 15 U sm) DA U dc U)<|jY 2 [] (mc 0 U mn) U<|cy<|iN (kV:=eN) (x:=(dY t (gU o.1))) (C':=[_,_,_,_,_,_,_,(iu eN A (bS iV (d_ O (dY t (gU o.1)) ((min v o.2.Hi)-y)))),_,_,_,_,_,_,_,_,_,_]) 7 U U U U qP qV U (gH _ _ _ _).symm U<|aq aj 2 ?_;exact AB (d_ O (dY t (gU o.1)) ((min v o.2.Hi)-y)) _ _ (by exact D.set (by show b<e.length;omega) hp ho (DZ hy T) (.inr u)) (aB [1,3,4,5,6,7,8,9,10,11,12,13,14,15,16,17])
  refine cT bX [4,11,12,14] [10] [0,1,2] [0,1,2,3,4,6] [0,1,2,3,4,5,6] U U U U U<|eS U (Fk 1 U bP U)<|eS U (SX (bO U U) U U)<|eS U (FA 12 U eB U)<|eS U (Mz (vS fA (ln.ai.n+1) (ln.ai.n+1)) 0 U bP U U)<|eS U (SX (aW (xs:=[]) (cs:=(aI.cells (aI.mk 0 0))) U U (aV EY U)) U U)<|eS U (Fk 1 U bP U)<|eS U (SX (bO U U) U U)<|eS U (FA 7 U eB U)<|eS U (FA 7 U eB U)<|eS U (Mz (vI ri.Start) 0 U bP U U) ?_;obtain ⟨x6,Pl⟩:=ay (replicate (ln.ai.n+1) (none:Option Nat)) 0 I;have hx7m:(map oC (replicate (ln.ai.n+1) (none:Option Nat)))[0]? =some (oC x6):=by rw [gO,Pl];rfl
  refine fS U (IA 0 U (ao (n:=(ln.ai.n+1)) 5 U sq) pQ dc U I) ?_;refine dL U<|gr U fun T8 Ci=>lv (kV:=eN) U U fun q=>?_
  try dsimp only
  refine bG (Ci _ _ (aB [1,2,3,4,5,7]) (aB [1,2,3,4,5,6,7]) ?_);refine gr U fun T10 G=>?_;have J4:(d_ ([]:List (aI×Int)) (aI.mk 0 0) ri.Start)=[((aI.mk 0 0),ri.Start)]:=by rfl
  refine BT (kV:=eN) (x:=(aI.mk 0 0)) (C':=[(iu eN q (bS iV ([((aI.mk 0 0),ri.Start)]))),_,_,_,_,_,_,_]) 0 U U U U qP qV U ((gH _ _ _ _).symm.trans (c7 _ J4)) U<|bG (G _ _ (aB [1,2,3,4,5,7]) (aB [1,2,3,4,5,6,7]) ?_);refine gr U fun T12 H1=>rS (MV U)<|bG (H1 _ _ (aB [1,2,3,4,5,7]) (aB [1,2,3,4,5,6,7]) ?_);refine bR U fun T13 IO=>?_;have J5:((replicate (ln.ai.n+1) (none:Option Nat)).set 0 (some q))=(dM [q] (ln.ai.n+1)):=by rw [xW];exact uH rfl sm
  refine ej (k:=0) (o:=0) (vs:=[(Value.map (some q))]) (es':=(map oC (dM [q] (ln.ai.n+1)))) (C':=[_,_,_,_,_,_,(own fA (ln.ai.n+1) 346 1 (map oC (dM [q] (ln.ai.n+1)))),_]) 6 U U U Nl U U U U hx7m U dc (by exact (AAl (f:=oC) (l:=(replicate (ln.ai.n+1) (none:Option Nat))) (i:=0) (a:=(some q))).symm.trans (c7 _ J5)) U<|bG (IO _ _ (aB [1,2,3,4,5,7]) ?_);refine eI U<|GI<|By (X:=[]) (X':=bB oM [[((aI.mk 0 0),ri.Start)]] [q]) 0 1 U U U ?_
  try dsimp only
  refine aL (j7 (aN U) (aB [1,2,3,4,5,7,0,6]) (NE ⟨q,trivial⟩))
 refine mj bX [0,1,2,3,5,6,8,9,11,12] [4,7,10,13] [false,false,false,false,false,false,false,false,false,false] [] [(cb W 301 [(vP gw)]),(rd e_A e.length 1 (e.map iC)).ro,(rd t_A tms.length 1 (zipWith gY tms tb)).ro,(iU (bB r_ tms tb)).ro] [] kr (aB [0,2,3,4]) (aB [])<|eS U (Fk 0 U bP U)<|eS U (Fk 0 U bP U)<|eS U (MV U)<|eS U (BI U (jq ⟨I,I⟩))<|eS U (MV U)<|eS U (BI U (jq ⟨I,I⟩))<|eS U (SX (bO U U) U U)<|eS U (FA 12 U eB U)<|eS U (SX (bO U U) U U)<|eS U (FA 13 U eB U)<|dL U<|nJ [4,7] kr (iR ?_<|iR ?_<|rf);rotate_left 1
 ·refine NO U U [4,10,13] fun T5 B9=>?_;refine yv (n:=(ln.ai.n+1)) (es:=(map oC (replicate (ln.ai.n+1) (none:Option Nat)))) U U U E1 I I (by simp only [maxLen];omega) (by rw [AAy];rfl) U fun b6=>?_
  try dsimp only
  refine bG (B9 _ _ (aB [1,3,4,5]) ?_);refine N1 4<|NO U U [10,13] fun T7 AC=>?_;refine yv (n:=(ln.ai.n+1)) (es:=(map oC (replicate (ln.ai.n+1) (none:Option Nat)))) U U U E1 I I (by simp only [maxLen];omega) (by rw [AAy];rfl) U fun b8=>?_
  try dsimp only
  refine bG (AC _ _ (aB [2,4,5,6]) ?_);refine N1 10<|NO U U [13] fun T9 Ck=>Yj (cj.cells (cj.mk ln ri (aX.mk e_A e.length e_C) (aX.mk t_A tms.length t_C) (aX.mk (some ⟨b8,0,none⟩) (ln.ai.n+1) (ln.ai.n+1)) (aX.mk none 0 0))) U CN U U<|bG (Ck _ _ (aB [2,4,5,6]) ?_);refine N1 13<|NO U U [] fun T10 G=>Yj (cj.cells (cj.mk ln ri (aX.mk e_A e.length e_C) (aX.mk t_A tms.length t_C) (aX.mk (some ⟨b8,0,none⟩) (ln.ai.n+1) (ln.ai.n+1)) (aX.mk (some ⟨b6,0,none⟩) (ln.ai.n+1) (ln.ai.n+1)))) U CN U U<|bG (G _ _ (aB [2,4,5,6]) ?_);refine mK ?_;refine aL (j7 (aN U) (aB [2,4,5,6,0,1,3]) (Bv ⟨((some ⟨b8,0,none⟩),(some ⟨b6,0,none⟩)),trivial⟩))
 refine NO U U [7,10,13] fun T5 B9=>?_;refine yv (n:=(ln.ai.n+1)) (es:=(map oC (replicate (ln.ai.n+1) (none:Option Nat)))) U U U E1 I I (by simp only [maxLen];omega) (by rw [AAy];rfl) U fun b6=>?_
 try dsimp only
 refine bG (B9 _ _ (aB [1,3,4,5]) ?_);refine nJ [7,10] kr (iR ?_<|iR ?_<|rf);rotate_left 1
 ·refine NO U U [7,13] fun T7 AC=>ST2 (cj.cells (cj.mk ln ri (aX.mk e_A e.length e_C) (aX.mk t_A tms.length t_C) (aX.mk (some ⟨b6,0,none⟩) (ln.ai.n+1) (ln.ai.n+1)) (aX.mk none 0 0))) U CN U U<|bG (AC _ _ (aB [1,3,4,5]) ?_);refine N1 7<|NO U U [13] fun T8 Ci=>?_;refine yv (n:=(ln.ai.n+1)) (es:=(map oC (replicate (ln.ai.n+1) (none:Option Nat)))) U U U E1 I I (by simp only [maxLen];omega) (by rw [AAy];rfl) U fun q=>?_
  try dsimp only
  refine bG (Ci _ _ (aB [2,4,5,6]) ?_);refine N1 13<|NO U U [] fun T10 G=>Yj (cj.cells (cj.mk ln ri (aX.mk e_A e.length e_C) (aX.mk t_A tms.length t_C) (aX.mk (some ⟨b6,0,none⟩) (ln.ai.n+1) (ln.ai.n+1)) (aX.mk (some ⟨q,0,none⟩) (ln.ai.n+1) (ln.ai.n+1)))) U CN U U<|bG (G _ _ (aB [2,4,5,6]) ?_);refine mK ?_;refine aL (j7 (aN U) (aB [2,4,5,6,1,0,3]) (Bv ⟨((some ⟨b6,0,none⟩),(some ⟨q,0,none⟩)),trivial⟩))
 refine NO U U [10,13] fun T7 AC=>?_;refine yv (n:=(ln.ai.n+1)) (es:=(map oC (replicate (ln.ai.n+1) (none:Option Nat)))) U U U E1 I I (by simp only [maxLen];omega) (by rw [AAy];rfl) U fun b8=>?_
 try dsimp only
 refine bG (AC _ _ (aB [2,4,5,6]) ?_);refine N1 10<|NO U U [13] fun T9 Ck=>Yj (cj.cells (cj.mk ln ri (aX.mk e_A e.length e_C) (aX.mk t_A tms.length t_C) (aX.mk (some ⟨b6,0,none⟩) (ln.ai.n+1) (ln.ai.n+1)) (aX.mk none 0 0))) U CN U U<|bG (Ck _ _ (aB [2,4,5,6]) ?_);refine N1 13<|NO U U [] fun T10 G=>Yj (cj.cells (cj.mk ln ri (aX.mk e_A e.length e_C) (aX.mk t_A tms.length t_C) (aX.mk (some ⟨b6,0,none⟩) (ln.ai.n+1) (ln.ai.n+1)) (aX.mk (some ⟨b8,0,none⟩) (ln.ai.n+1) (ln.ai.n+1)))) U CN U U<|bG (G _ _ (aB [2,4,5,6]) ?_);refine mK ?_;refine aL (j7 (aN U) (aB [2,4,5,6,1,0,3]) (Bv ⟨((some ⟨b6,0,none⟩),(some ⟨b8,0,none⟩)),trivial⟩))
end
section
open Go.RowKit
variable (l:bf) (kA:OA) (kC:Nat) (az:List RA) (cA:OA) (cC:Nat) (bA:OA) (bC:Nat) (r:c_) (sgA:OA)
theorem HQ (g1:Nat) (bm:Int) (g2:Nat) (hin:dX l az):
 dh Tryz.prog 212 [(vP g1),(vP g2)] ((rr l kA az cA bA)++[(cb g1 28 (bV.cells (kO l kA kC cA cC bA bC))),(cb g2 3 [(vI bm)])]) (vI (lR l bm)):=by
 have F:=hin.sQ;have E:=hin.sR;have C:=hin.mE;have D:=hin.sP;refine bj kr Tryz.func212 U U fun G Q hQ hN=>?_
 try dsimp only
 refine ck bT 13 [0,1] (mr 4 U (mr 5 U mn)) ?_;refine dC (xs:=[.tmp 7]) (cs:=[(vI bm)]) U cO jU U U U U (by simp [Value.cells]) U U fun B=>?_;refine rS (CL (dh.eq (iA 0 ((l.ai.length:Int)-1) ([bm]) (some ⟨B,0,none⟩) 1 (by (simp;done))) cp) (aw (aM 0 U U (by simp [br]) U)<|aA) U) ?_;refine aq aj 3 ?_;refine bY U (aK fun A=>?_) (aJ fun A=>?_)
 ·exact cr aY 6 hQ U U<|cI (c1 I).symm
 exact cr aY 8 hQ U U<|cI (c0 I).symm
theorem Sp (sgC:Nat) (hin:dX l az) (hsl:r.ab.length≤1000000):
 ld Tryz.prog 211 [(vA (bV.cells (kO l kA kC cA cC bA bC))),(vA (dA.cells (jP r sgA sgC))),(vS none 0 0)] ((rr l kA az cA bA)++[(rd sgA r.ab.length 2 (r.ab.map aR.cells))]) (fun (x:Bool×Int×Nat×(OA)×Nat×(OA)×Nat×(List Nat)×(List FM)×(List Nat)×(OA)×Nat×(List FM)×(List Nat)×(OA)×Nat)=>bif x.1 then (vT [(Value.pointer (some ⟨x.2.2.1,0,none⟩)),(vI 0)]) else (vT [(Value.pointer none),(vI x.2.1)])) (fun (x:Bool×Int×Nat×(OA)×Nat×(OA)×Nat×(List Nat)×(List FM)×(List Nat)×(OA)×Nat×(List FM)×(List Nat)×(OA)×Nat)=>(x.1=true→(fK l r 0=0∧yC (dW l r) x.2.2.2.2.2.2.2.2.1∧vH (dW l r) x.2.2.2.2.2.2.2.2.2.2.2.2.1∧x.2.2.2.2.2.2.2.2.2.1.length=x.2.2.2.2.2.2.2.2.1.length∧x.2.2.2.2.2.2.2.2.2.2.2.2.2.1.length=x.2.2.2.2.2.2.2.2.2.2.2.2.1.length∧x.2.2.2.2.2.2.2.1.length=(cM l r.ab r.ab.length).length))∧(x.1=false→(x.2.1=fK l r 0∧ ¬ fK l r 0=0))) (fun (x:Bool×Int×Nat×(OA)×Nat×(OA)×Nat×(List Nat)×(List FM)×(List Nat)×(OA)×Nat×(List FM)×(List Nat)×(OA)×Nat)=>bif x.1 then [(cb x.2.2.1 343 (cj.cells (cj.mk (kO l kA kC cA cC bA bC) (jP r sgA sgC) (aX.mk x.2.2.2.1 ((cv l l.ai.length).length) x.2.2.2.2.1) (aX.mk x.2.2.2.2.2.1 ((cM l r.ab r.ab.length).length) x.2.2.2.2.2.2.1) (aX.mk x.2.2.2.2.2.2.2.2.2.2.1 x.2.2.2.2.2.2.2.2.1.length x.2.2.2.2.2.2.2.2.2.2.2.1) (aX.mk x.2.2.2.2.2.2.2.2.2.2.2.2.2.2.1 x.2.2.2.2.2.2.2.2.2.2.2.2.1.length x.2.2.2.2.2.2.2.2.2.2.2.2.2.2.2)))),(own x.2.2.2.1 x.2.2.2.2.1 3 1 ((cv l l.ai.length).map iC)),(own x.2.2.2.2.2.1 x.2.2.2.2.2.2.1 95 1 (zipWith gY (cM l r.ab r.ab.length) x.2.2.2.2.2.2.2.1)),(bD (bB r_ (cM l r.ab r.ab.length) x.2.2.2.2.2.2.2.1)),(own x.2.2.2.2.2.2.2.2.2.2.1 x.2.2.2.2.2.2.2.2.2.2.2.1 346 1 (zipWith gY x.2.2.2.2.2.2.2.2.1 x.2.2.2.2.2.2.2.2.2.1)),(bD (bB oM x.2.2.2.2.2.2.2.2.1 x.2.2.2.2.2.2.2.2.2.1)),(own x.2.2.2.2.2.2.2.2.2.2.2.2.2.2.1 x.2.2.2.2.2.2.2.2.2.2.2.2.2.2.2 346 1 (zipWith gY x.2.2.2.2.2.2.2.2.2.2.2.2.1 x.2.2.2.2.2.2.2.2.2.2.2.2.2.1)),(bD (bB oM x.2.2.2.2.2.2.2.2.2.2.2.2.1 x.2.2.2.2.2.2.2.2.2.2.2.2.2.1))] else []):=by
 have J5:=hin.sQ;have J3:=hin.sR;have I7:=hin.mE;have J2:=hin.sP;have J4:=hin.side;refine cU kr Tryz.func211 U U fun w0 Q hQ hN=>?_
 try dsimp only
 refine aU bT 2 U<|dV U fun b2=>dV U fun b3=>dF aj 8 [] (mc 1 U mn) U<|rS (CL (v_ l kA kC az cA cC bA bC hin) (aP [2,3,4,5]) U)<|aq aj 9 ?_;refine bY U (aK fun Y=>?_) (aJ fun Y=>?_)
 ·refine aq aY 8 ?_;refine LX hQ (false,(dU l),0,none,0,none,0,[],[],[],none,0,[],[],none,0) [] [] mn U (by rfl) U U ?_;exact qY<|QG (oo (r:=r) (me:=0) Y) Y
 refine aq aY 5 ?_;have E:dU l=0:=Y;obtain ⟨Ck,W⟩:=er E;have Eq:=W.head;unfold fg at Eq;refine ck aj 2 [] (mc 0 U mn) ?_;refine dC (xs:=[.tmp 24]) (cs:=[(vI r.Start)]) U cO jU U U U U (by simp [Value.cells]) U U fun C1=>?_;refine rS (CL (dh.eq (iA 0 86400000 ([r.Start]) (some ⟨C1,0,none⟩) 1 (by (simp;done))) cp) (aw (aM 0 U U (by simp [br]) U)<|aA) U) ?_;refine aq aj 2 ?_;refine bK (t:=28) U (aK fun DR=>?_) (aJ fun DR=>?_)
 ·refine aq aj 24 ?_;refine LX hQ (false,51,0,none,0,none,0,[],[],[],none,0,[],[],none,0) [] [] mn U (by rfl) U U ?_;exact qY<|pM (fY (me:=0) E (fun q:gp l r=>by have q1:=q.time;have q2:=q.len;omega))
 refine ck aj 4 [] (mc 1 U mn) ?_;refine dC (xs:=[.tmp 32]) (cs:=[(vI r.hP)]) U cO jU U U U U (by simp [Value.cells]) U U fun C2=>?_;refine rS (CL (dh.eq (iA r.Start 86400000 ([r.hP]) (some ⟨C2,0,none⟩) 1 (by (simp;done))) cp) (aw (aM 0 U U (by simp [br]) U)<|aA) U) ?_;refine aq aj 3 ?_;refine bK (t:=37) U (aK fun Dn=>?_) (aJ fun Dn=>?_)
 ·refine aq aj 15 ?_;refine LX hQ (false,51,0,none,0,none,0,[],[],[],none,0,[],[],none,0) [] [] mn U (by rfl) U U ?_;exact qY<|pM (fY (me:=0) E (fun q:gp l r=>by have q1:=q.time;have q2:=q.len;omega))
 refine ck aj 7 [] (mc 2 U mn) ?_;refine bY U (aG fun Do=>?_) (aH fun Do=>?_)
 ·refine aq aY 7 ?_;refine LX hQ (false,51,0,none,0,none,0,[],[],[],none,0,[],[],none,0) [] [] mn U (by rfl) U U ?_;exact qY<|pM (fY (me:=0) E (fun q:gp l r=>by have q1:=q.time;have q2:=q.len;omega))
 refine aU aY 4 U<|rS (SX (aW (xs:=[(0,.const (vI (-1)))]) (cs:=(aR.cells (aR.mk (-1) 0))) U U (aV WM U)) U U)<|AL U Nt fun S=>eM U xG U<|aq aj 3 ?_;refine cT bX [5,6,7,8] [] [] [0,1,2,3,4,5,6,7,8,9] [] U U U U U<|eS U (LW 4 U bP U U)<|eS U (LW 3 U bP U U)<|eS U (FA 3 U eB U)<|eS U (L1 (vS bA l.ai.length bC) 4 U bP U U)<|eS U (LN U RY)<|dL U<|bR U fun T18 y=>?_;refine yv (n:=l.ai.length) (es:=(map oC (replicate l.ai.length (none:Option Nat)))) U U U TU I I (by simp only [maxLen];omega) (by rw [AAy];rfl) U fun B=>?_
 try dsimp only
 refine bG (y _ _ (aB [1,2,3,4,5,6,7,8,9,10]) ?_);refine bR U fun T20 AC=>rS (SX (aW (xs:=[(0,.tmp 44),(1,.tmp 45),(3,.tmp 49)]) (cs:=(cj.cells (cj.mk (kO l kA kC cA cC bA bC) (jP r sgA sgC) (aX.mk none 0 0) (aX.mk (some ⟨B,0,none⟩) l.ai.length l.ai.length) (aX.mk none 0 0) (aX.mk none 0 0)))) U U (aV UE U)) U U)<|bG (AC _ _ (aB [1,2,3,4,5,6,7,8,9,10]) ?_);refine bR U fun T21 AO=>dV U fun AB=>bG (AO _ _ (aB [2,3,4,5,6,7,8,9,10,11]) ?_);refine bR U fun T23 Ap=>rS (AG U)<|bG (Ap _ _ (aB [2,3,4,5,6,7,8,9,10,11]) ?_);refine eI U<|ck jC 11 [] (mc 6 U mn) ?_;rw [xW];refine eC 3 1<|mo ?_;have D:(0≤l.ai.length)∧(([]:List Nat).length=0):=by exact ⟨c4 _,rfl⟩
 refine bw (ι:={z:Nat×(OA)×Nat×(List Nat) // (z.1≤l.ai.length)∧(z.2.2.2.length=z.1)}) [2,3,4,6,7,9,10,54] [4,7,8,9,10,11,12,13] U U (fun z=>[(55,(vI (z.1.1:Int)))]) (fun z=>[(bD (bB r_ (replicate z.1.1 ([]:TM)) z.1.2.2.2)),(own z.1.2.1 z.1.2.2.1 3 1 ((cv l z.1.1).map iC)),(cb AB 343 (cj.cells (cj.mk (kO l kA kC cA cC bA bC) (jP r sgA sgC) (aX.mk z.1.2.1 ((cv l z.1.1).length) z.1.2.2.1) (aX.mk (some ⟨B,0,none⟩) l.ai.length l.ai.length) (aX.mk none 0 0) (aX.mk none 0 0)))),(own (some ⟨B,0,none⟩) l.ai.length 95 1 (map oC (dM z.1.2.2.2 l.ai.length)))]) (fun _=>rfl) (fun _=>rfl) (fun z=>l.ai.length-z.1.1) ⟨(0,none,0,([]:List Nat)),D⟩ (aN U) (aB [4,7,8,9,10,11,12,13,0,1,2,3]) ?_;clear D;rintro ⟨⟨b,a,c,fb⟩,⟨Z,AA⟩⟩ J26 w
 try dsimp only at Z AA
 try dsimp only
 have Es:(dM fb l.ai.length).length=l.ai.length:=oZ I;refine aq bT 6 ?_;refine bY U (aG fun Di=>?_) (aH fun Di=>?_)
 ·refine aq aY 11 ?_;refine cT bX [12,13,16] [4] [0] [0,1,2,3,4,5,6,7,8,11] [0,1,2,3,4,5,6,7,8,9,10,11] U U U U U<|eS U (MV U)<|eS U (MV U)<|eS U (SX (bO U U) U U)<|eS U (FA 10 U eB U)<|fS U (L1 (vS a ((cv l b).length) c) 10 U bP U U)<|eS U (LW 2 U bP U U)<|eS U (MV U)<|eS U (CL (Ju l kA kC az cA cC bA bC (b:Int) hin asm (by exact W.vJ) I) (aP [3,4,5,6]) U) ?_;have J6:=BY Ck W.vJ b;have J7:=W.Um b I;simp only [AAP];refine eS U (BI U (nt ⟨I,I⟩))<|eS U (FA 1 U eB U)<|eS U (L1 (vI l.g7) 2 U bP U U) ?_;refine eS U (CL (Iv (1000*(mM l (b:Int).toNat)) l.g7 I (by (simp;omega))) (aA) U) ?_;refine eS U (SX (bO U U) U U)<|eS U (FA 10 U eB U)<|dL U<|gr U fun T33 A0=>dC (xs:=[.tmp 69]) (cs:=[(vI (qz (1000*(mM l (b:Int).toNat)) l.g7))]) U cO jU U U U U (by simp [Value.cells]) U U fun IR=>bG (A0 _ _ (aB [1,2,3,4,5,6,7,8,9,12]) (aB [1,2,3,4,5,6,7,8,9,10,11,12]) ?_);refine bR U fun T35 A1=>?_;refine de (es2:=(map iC (cv l (b+1)))) (m':=(cv l (b+1)).length) 10 U U U pG U U (by simp [dH]) (aM (es:=map iC [(qz (1000*(mM l (b:Int).toNat)) l.g7)]) 0 U U (by simp [br]) U) (j_ _) (by have:=dH (l:=l) (n:=b);first|omega|(simp;omega)) (by simp only [maxLen,dH];omega) (by rw [tD];simp [ew]) (by simp [dH]) U fun h j=>?_
  try dsimp only
  refine bG (A1 _ _ (aB [1,2,3,4,5,6,7,8,9,12]) ?_);refine bR U fun T38 A2=>aah (cj.cells (cj.mk (kO l kA kC cA cC bA bC) (jP r sgA sgC) (aX.mk h ((cv l (b+1)).length) j) (aX.mk (some ⟨B,0,none⟩) l.ai.length l.ai.length) (aX.mk none 0 0) (aX.mk none 0 0))) U wk U U<|bG (A2 _ _ (aB [1,2,3,4,5,6,7,8,9,12]) ?_);refine eI U<|aU jC 3 U<|rS (SX (bO U U) U U)<|ck aj 3 [] (mc 11 U mn) ?_;refine lv (kV:=iV) U U fun H=>?_
  try dsimp only
  obtain ⟨Fn,Cx⟩:=ay (dM fb l.ai.length) b I;have hx41m:(map oC (dM fb l.ai.length))[b]? =some (oC Fn):=by rw [gO,Cx];rfl
  refine rS (IA b U (ao (n:=l.ai.length) 13 U sq) zN dc I I) ?_;have A3:((dM fb l.ai.length).set b (some H))=(dM (fb++[H]) l.ai.length):=by exact uH I I
  refine ej (k:=b) (o:=0) (vs:=[(Value.map (some H))]) (es':=(map oC (dM (fb++[H]) l.ai.length))) (C':=[_,_,_,_,_,_,_,_,_,_,_,_,_,(own (some ⟨B,0,none⟩) l.ai.length 95 1 (map oC (dM (fb++[H]) l.ai.length)))]) 13 U U U Su U U U U hx41m U dc (by exact (AAl (f:=oC) (l:=(dM fb l.ai.length)) (i:=b) (a:=(some H))).symm.trans (c7 _ A3)) U<|aq aj 7 ?_;refine By (X':=bB r_ (replicate (b+1) ([]:TM)) (fb++[H])) 10 0 U U (JG AA) ?_
  try dsimp only
  have A4:(vI (((b+1):Nat):Int))=(vI ((b:Int)+1)):=by exact cI I
  refine aL (w ⟨((b+1),h,j,(fb++[H])),⟨I,by simp;omega⟩⟩ _ _ _ U os (cx 8<|aQ U A4<|cV.nil _) (aB [2,3,4,5,6,7,8,9,0,10,11,12]))
 refine aU aY 1 U<|ck fz 12 [] (mc 1 U mn) ?_;rw [show (replicate b ([]:TM))=cM l r.ab 0 from by rw [zW,show b=l.ai.length by omega]];rw [show cv l b=cv l l.ai.length from by rw [show b=l.ai.length by omega]];have D:(0≤r.ab.length)∧(qt l r.ab 0):=by exact ⟨c4 _,yi⟩
 refine bw (ι:={z:Nat // (z≤r.ab.length)∧(qt l r.ab z)}) [2,3,4,6,7,9,10,83,84] [1,2,3,4,5,6,7,9,10,11] U U (fun z=>[(85,(vI (z.1:Int)))]) (fun z=>[(cb S 85 (aR.cells (nq r.ab z.1))),(bD (bB r_ (cM l r.ab z.1) fb))]) (fun _=>rfl) (fun _=>rfl) (fun z=>r.ab.length-z.1) ⟨0,D⟩ (aN U) (aB [1,2,3,4,5,6,7,9,10,11,0,8]) ?_;clear D;rintro ⟨i,⟨C0,A⟩⟩ J46 R
 try dsimp only
 have FS:(cM l r.ab i).length=l.ai.length:=ib;have Es:(dM fb l.ai.length).length=l.ai.length:=oZ I;refine aq bT 6 ?_;refine bE U (aH fun D0=>?_) (aG fun D0=>?_)
 ·refine aU aY 1 U<|aq fz 4 ?_;have e:gp l r:=zy I I A I;refine aU aY 7 U<|iX 1<|eh fun R81 Go=>aU bT 2 U<|rS (SX (cm (r:= .bool false) U U U hH) U U)<|aU aj 5 U<|aq fz 3 ?_;rw [show cM l r.ab i=cM l r.ab r.ab.length from by rw [show i=r.ab.length by omega]];have g:(cM l r.ab r.ab.length).length=l.ai.length:=ib;rw [show (map oC (dM fb l.ai.length))=(zipWith gY (cM l r.ab r.ab.length) fb) from YL I g];rw [show (cb AB 343 (cj.cells (cj.mk (kO l kA kC cA cC bA bC) (jP r sgA sgC) (aX.mk a ((cv l l.ai.length).length) c) (aX.mk (some ⟨B,0,none⟩) l.ai.length l.ai.length) (aX.mk none 0 0) (aX.mk none 0 0))))=(cb AB 343 (cj.cells (cj.mk (kO l kA kC cA cC bA bC) (jP r sgA sgC) (aX.mk a ((cv l l.ai.length).length) c) (aX.mk (some ⟨B,0,none⟩) ((cM l r.ab r.ab.length).length) l.ai.length) (aX.mk none 0 0) (aX.mk none 0 0)))) from by rw [g]];have Cp:=n_ Ck W e;have G3:(cv l l.ai.length).length=l.ai.length:=dH;refine aq aY 2 ?_;refine kp 8 U U U U (Eh (kO l kA kC cA cC bA bC) (jP r sgA sgC) (cv l l.ai.length) (cM l r.ab r.ab.length) a c fb (some ⟨B,0,none⟩) l.ai.length AB (by exact Cp) (by exact dH.symm) (by rw [g];omega)) U (ek 7 U U (kf sm) (ek 9 U U (kf (by rw [m4];omega)) (ek 11 U U te mu))) U (fun GE EU=>?_);obtain ⟨G,P,N,O,F,M,K,L⟩:=GE;refine Jy (X:=[(cb AB 343 (cj.cells (cj.mk (kO l kA kC cA cC bA bC) (jP r sgA sgC) (aX.mk a ((cv l l.ai.length).length) c) (aX.mk (some ⟨B,0,none⟩) ((cM l r.ab r.ab.length).length) l.ai.length) (aX.mk N G.length O) (aX.mk K F.length L)))),(own N O 346 1 (zipWith gY G P)),(bD (bB oM G P)),(own K L 346 1 (zipWith gY F M)),(bD (bB oM F M))]) 8 U U ?_
  try dsimp only
  obtain ⟨d,B7,B9,Ci⟩:=EU;dsimp only at d B7 B9 Ci;refine aq aj 6 ?_;refine cX (xU (kO l kA kC cA cC bA bC) (jP r sgA sgC) (cv l l.ai.length) (cM l r.ab r.ab.length) a c fb (some ⟨B,0,none⟩) l.ai.length G F P N O M K L AB (by exact Cp) (by (simp;omega)) (by exact dH.symm) (by exact d) asm) (aw (ao (n:=(cv l l.ai.length).length) 12 U sm)<|aw (ao (n:=(cM l r.ab r.ab.length).length) 13 U (by rw [m4];omega))<|aw (dQ 15 U m8)<|aw (ao (n:=G.length) 1 U (by rw [m4];omega))<|aw (dQ 2 U m8)<|aw (ao (n:=F.length) 3 U (by rw [m4];omega))<|aw (dQ 4 U m8)<|gM 0 U U<|aA) U fun GT G4=>?_;obtain ⟨IO,Iw⟩:=GT
  try dsimp only
  refine aq aj 4 ?_;refine bE U (aH fun T=>?_) (aG fun T=>?_)
  ·refine aq aY 10 ?_;refine LX hQ (true,0,AB,a,c,(some ⟨B,0,none⟩),l.ai.length,fb,G,P,N,O,F,M,K,L) [1,13,14,16,2,3,4,5] [] mn U (by (show List.all _ _=true;simp only [AAS,eX,om,Jf,UH,n4];rfl)) U U ?_;exact ⟨fun _=>⟨xp E e (by first|rfl|exact h156) (fun q=>T (c7 (fun z:List Int=>(z.length:Int)) q)),d,B7,B9,Ci,dso⟩,QS⟩
  refine aq aY 7 ?_;refine LX hQ (false,8,0,none,0,none,0,[],[],[],none,0,[],[],none,0) [] [] mn U (by rfl) U U ?_;exact qY<|pM (vq (me:=0) E e (by first|rfl|exact h156) (show n8 (dW l r)=[] from kq (ACU.1 T)))
 refine aq aY 7 ?_;obtain ⟨x,hx⟩:=ay r.ab i I;have Fd:=bx aR.cells hx;refine rS (IA i U (av 6 U) zE dc I I)<|rS (k8 i 0 (aR.cells x) U bP (av 6 U) Fd U dc U U)<|AL U Nt fun Id=>aU aj 1 U<|eM U xG U<|ck aj 11 [0,1] (mc 2 U (mc 0 U mn)) ?_;refine dC (xs:=[.tmp 95]) (cs:=[(vI x.fR)]) U cO jU U U U U (by simp [Value.cells]) U U fun C3=>?_;refine rS (CL (dh.eq (iA 0 ((l.ai.length:Int)-1) ([x.fR]) (some ⟨C3,0,none⟩) 1 (by (simp;done))) cp) (aw (aM 0 U U (by simp [br]) U)<|aA) U) ?_;refine aq aj 2 ?_;refine bK (t:=99) U (aK fun EQ=>?_) (aJ fun EQ=>?_)
 ·refine aq aj 37 ?_;refine LX hQ (false,51,0,none,0,none,0,[],[],[],none,0,[],[],none,0) [] [] mn U (by rfl) U U ?_;exact qY<|pM (fY (me:=0) E (pY hx (by unfold j3 k7;omega)))
 refine ck aj 2 [] (mc 1 U mn) ?_;refine dC (xs:=[.tmp 101]) (cs:=[(vI x.Read)]) U cO jU U U U U (by simp [Value.cells]) U U fun DA=>?_;refine rS (CL (dh.eq (iA 0 86400000 ([x.Read]) (some ⟨DA,0,none⟩) 1 (by (simp;done))) cp) (aw (aM 0 U U (by simp [br]) U)<|aA) U) ?_;refine aq aj 3 ?_;refine bK (t:=106) U (aK fun p=>?_) (aJ fun p=>?_)
 ·refine aq aj 30 ?_;refine LX hQ (false,51,0,none,0,none,0,[],[],[],none,0,[],[],none,0) [] [] mn U (by rfl) U U ?_;exact qY<|pM (fY (me:=0) E (pY hx (by unfold j3 k7;omega)))
 refine ck aj 7 [0,1] (mc 2 U (mc 13 U mn)) ?_;refine bK (t:=113) U (aG fun s=>?_) (aH fun s=>?_)
 ·refine aq aj 23 ?_;refine LX hQ (false,51,0,none,0,none,0,[],[],[],none,0,[],[],none,0) [] [] mn U (by rfl) U U ?_;exact qY<|pM (fY (me:=0) E (pY hx (by unfold j3 k7;omega)))
 refine ck aj 6 [0,1] (mc 2 U (mc 13 U mn)) ?_;refine cz (t:=119) U (aH fun u=>?_) (aG fun u=>?_)
 ·refine dF aj 17 [0,1] (mc 4 U (mc 2 U mn)) U<|rS (CL (DH l kA kC az cA cC bA bC x hin asm I) (aP [5,6,7,8]) U)<|AL U dD fun In=>eM U cK U<|ck aj 11 [] (mc 0 U mn) ?_;refine bE U (aH fun C=>?_) (aG fun C=>?_)
  ·refine dF aY 4 [] (mc 3 U mn) U<|im (vs:=(aR.cells x)) (cs':=(aR.cells x)) (C':=[_,_,_,_,_,_,_,_,_,_,_,_,_,_,(cb S 85 (aR.cells x)),_]) 14 U U U xG U U U U U U U<|aq aj 3 ?_;have BP:(aR.cells x)=(aR.cells (nq r.ab (i+1))):=by rw [lB hx]
   rw [BP];refine aq aY 4 ?_;rw [show (cM l r.ab i)=(cM l r.ab (i+1)) from (rM hx C).symm];have Bt:(vI (((i+1):Nat):Int))=(vI ((i:Int)+1)):=by exact cI I
   refine aL (R ⟨(i+1),⟨I,kb A hx (by unfold j3 k7;omega)⟩⟩ _ _ _ U os (cx 9<|aQ U Bt<|cV.nil _) (aB [4,5,6,7,8,9,10,11,12,13,14,15]))
  obtain ⟨mb,V⟩:=ay (cM l r.ab i) ((x.fR).toNat) I;obtain ⟨ga,J⟩:=ay fb ((x.fR).toNat) I;refine B4 15 V J U U U ?_
  try dsimp only
  refine cL bX 10 kr<|iQ 1 U<|dS (SX (bO U U) U U)<|dP 4 [0,1] (mc 14 U (mc 5 U mn)) ?_;have B3:(map oC (dM fb l.ai.length))[(x.fR).toNat]? =some (oC (some ga)):=sH (og J);refine dS (IA ((x.fR).toNat) U (ao (n:=l.ai.length) 15 U sq) zN dc I I) ?_;refine dS (gF ((x.fR).toNat) 0 (Value.map (some ga)) U bP (ao (n:=(dM fb l.ai.length).length) 15 U sm) B3 U dc U)<|jY 2 [] (mc 2 U mn) U<|cy<|iN (kV:=iV) (x:=(i:Int)) (C':=[(iu iV ga (bS e_ (d_ mb (i:Int) (dw l x)))),_,_,_,_,_,_,_,_,_,_,_,_,_,_,_,_]) 0 U U U U rY (eE nZ) U (gH _ _ _ _).symm U<|dF aj 4 [] (mc 5 U mn) U<|im (vs:=(aR.cells x)) (cs':=(aR.cells x)) (C':=[_,_,_,_,_,_,_,_,_,_,_,_,_,_,_,_,(cb S 85 (aR.cells x))]) 16 U U U xG U U U U U U U<|aq aj 3 ?_;have A9:(aR.cells x)=(aR.cells (nq r.ab (i+1))):=by rw [lB hx]
  rw [A9];refine aq aY 4 ?_;refine Dx (f:=r_) (ms:=(cM l r.ab i)) (m:=(d_ mb (i:Int) (dw l x))) 1 0 (by rw [ib];omega) J U U U ?_;rw [uC hx I C V];have BD:(vI (((i+1):Nat):Int))=(vI ((i:Int)+1)):=by exact cI I
  refine aL (R ⟨(i+1),⟨I,kb A hx (by unfold j3 k7;omega)⟩⟩ _ _ _ U os (cx 9<|aQ U BD<|cV.nil _) (aB [5,6,7,8,9,10,11,12,13,14,15,0]))
 refine ck aj 9 [0,1] (mc 2 U (mc 13 U mn)) ?_;refine bY U (aG fun v=>?_) (aH fun v=>?_)
 ·refine aq aY 7 ?_;refine LX hQ (false,51,0,none,0,none,0,[],[],[],none,0,[],[],none,0) [] [] mn U (by rfl) U U ?_;exact qY<|pM (fY (me:=0) E (pY hx (by unfold j3 k7;omega)))
 refine dF aY 7 [0,1] (mc 4 U (mc 2 U mn)) U<|rS (CL (DH l kA kC az cA cC bA bC x hin asm I) (aP [5,6,7,8]) U)<|AL U dD fun If=>eM U cK U<|ck aj 11 [] (mc 0 U mn) ?_;refine bE U (aH fun C=>?_) (aG fun C=>?_)
 ·refine dF aY 4 [] (mc 3 U mn) U<|im (vs:=(aR.cells x)) (cs':=(aR.cells x)) (C':=[_,_,_,_,_,_,_,_,_,_,_,_,_,_,(cb S 85 (aR.cells x)),_]) 14 U U U xG U U U U U U U<|aq aj 3 ?_;have A7:(aR.cells x)=(aR.cells (nq r.ab (i+1))):=by rw [lB hx]
  rw [A7];refine aq aY 4 ?_;rw [show (cM l r.ab i)=(cM l r.ab (i+1)) from (rM hx C).symm];have A8:(vI (((i+1):Nat):Int))=(vI ((i:Int)+1)):=by exact cI I
  refine aL (R ⟨(i+1),⟨I,kb A hx (by unfold j3 k7;omega)⟩⟩ _ _ _ U os (cx 9<|aQ U A8<|cV.nil _) (aB [4,5,6,7,8,9,10,11,12,13,14,15]))
 obtain ⟨mb,V⟩:=ay (cM l r.ab i) ((x.fR).toNat) I;obtain ⟨ga,J⟩:=ay fb ((x.fR).toNat) I;refine B4 15 V J U U U ?_
 try dsimp only
 refine cL bX 10 kr<|iQ 1 U<|dS (SX (bO U U) U U)<|dP 4 [0,1] (mc 14 U (mc 5 U mn)) ?_;have Bv:(map oC (dM fb l.ai.length))[(x.fR).toNat]? =some (oC (some ga)):=sH (og J);refine dS (IA ((x.fR).toNat) U (ao (n:=l.ai.length) 15 U sq) zN dc I I) ?_;refine dS (gF ((x.fR).toNat) 0 (Value.map (some ga)) U bP (ao (n:=(dM fb l.ai.length).length) 15 U sm) Bv U dc U)<|jY 2 [] (mc 2 U mn) U<|cy<|iN (kV:=iV) (x:=(i:Int)) (C':=[(iu iV ga (bS e_ (d_ mb (i:Int) (dw l x)))),_,_,_,_,_,_,_,_,_,_,_,_,_,_,_,_]) 0 U U U U rY (eE nZ) U (gH _ _ _ _).symm U<|dF aj 4 [] (mc 5 U mn) U<|im (vs:=(aR.cells x)) (cs':=(aR.cells x)) (C':=[_,_,_,_,_,_,_,_,_,_,_,_,_,_,_,_,(cb S 85 (aR.cells x))]) 16 U U U xG U U U U U U U<|aq aj 3 ?_;have A5:(aR.cells x)=(aR.cells (nq r.ab (i+1))):=by rw [lB hx]
 rw [A5];refine aq aY 4 ?_;refine Dx (f:=r_) (ms:=(cM l r.ab i)) (m:=(d_ mb (i:Int) (dw l x))) 1 0 (by rw [ib];omega) J U U U ?_;rw [uC hx I C V];have A6:(vI (((i+1):Nat):Int))=(vI ((i:Int)+1)):=by exact cI I
 refine aL (R ⟨(i+1),⟨I,kb A hx (by unfold j3 k7;omega)⟩⟩ _ _ _ U os (cx 9<|aQ U A6<|cV.nil _) (aB [5,6,7,8,9,10,11,12,13,14,15,0]))
end
section
open Go.RowKit
theorem RI (l:bf) (kA:OA) (kC:Nat) (az:List RA) (cA:OA) (cC:Nat) (bA:OA) (bC:Nat) (r:c_) (sgA:OA) (sgC:Nat) (f:Value) (X:au) (me:Int) (gm:Nat) (hf:BV Tryz.prog f [] [X] (.int .i64 me)) (hin:dX l az) (hsl:r.ab.length≤1000000):
 ld Tryz.prog 211 [(vA (bV.cells (kO l kA kC cA cC bA bC))),(vA (dA.cells (jP r sgA sgC))),(vS (some ⟨gm,0,none⟩) 1 1)] ((rr l kA az cA bA)++[(rd sgA r.ab.length 2 (r.ab.map aR.cells)),X,(cb gm 304 [f])]) (fun (x:Bool×Int×Nat×(OA)×Nat×(OA)×Nat×(List Nat)×(List FM)×(List Nat)×(OA)×Nat×(List FM)×(List Nat)×(OA)×Nat)=>bif x.1 then (vT [(Value.pointer (some ⟨x.2.2.1,0,none⟩)),(vI 0)]) else (vT [(Value.pointer none),(vI x.2.1)])) (fun (x:Bool×Int×Nat×(OA)×Nat×(OA)×Nat×(List Nat)×(List FM)×(List Nat)×(OA)×Nat×(List FM)×(List Nat)×(OA)×Nat)=>(x.1=true→(fK l r me=0∧yC (dW l r) x.2.2.2.2.2.2.2.2.1∧vH (dW l r) x.2.2.2.2.2.2.2.2.2.2.2.2.1∧x.2.2.2.2.2.2.2.2.2.1.length=x.2.2.2.2.2.2.2.2.1.length∧x.2.2.2.2.2.2.2.2.2.2.2.2.2.1.length=x.2.2.2.2.2.2.2.2.2.2.2.2.1.length∧x.2.2.2.2.2.2.2.1.length=(cM l r.ab r.ab.length).length))∧(x.1=false→(x.2.1=fK l r me∧ ¬ fK l r me=0))) (fun (x:Bool×Int×Nat×(OA)×Nat×(OA)×Nat×(List Nat)×(List FM)×(List Nat)×(OA)×Nat×(List FM)×(List Nat)×(OA)×Nat)=>bif x.1 then [(cb x.2.2.1 343 (cj.cells (cj.mk (kO l kA kC cA cC bA bC) (jP r sgA sgC) (aX.mk x.2.2.2.1 ((cv l l.ai.length).length) x.2.2.2.2.1) (aX.mk x.2.2.2.2.2.1 ((cM l r.ab r.ab.length).length) x.2.2.2.2.2.2.1) (aX.mk x.2.2.2.2.2.2.2.2.2.2.1 x.2.2.2.2.2.2.2.2.1.length x.2.2.2.2.2.2.2.2.2.2.2.1) (aX.mk x.2.2.2.2.2.2.2.2.2.2.2.2.2.2.1 x.2.2.2.2.2.2.2.2.2.2.2.2.1.length x.2.2.2.2.2.2.2.2.2.2.2.2.2.2.2)))),(own x.2.2.2.1 x.2.2.2.2.1 3 1 ((cv l l.ai.length).map iC)),(own x.2.2.2.2.2.1 x.2.2.2.2.2.2.1 95 1 (zipWith gY (cM l r.ab r.ab.length) x.2.2.2.2.2.2.2.1)),(bD (bB r_ (cM l r.ab r.ab.length) x.2.2.2.2.2.2.2.1)),(own x.2.2.2.2.2.2.2.2.2.2.1 x.2.2.2.2.2.2.2.2.2.2.2.1 346 1 (zipWith gY x.2.2.2.2.2.2.2.2.1 x.2.2.2.2.2.2.2.2.2.1)),(bD (bB oM x.2.2.2.2.2.2.2.2.1 x.2.2.2.2.2.2.2.2.2.1)),(own x.2.2.2.2.2.2.2.2.2.2.2.2.2.2.1 x.2.2.2.2.2.2.2.2.2.2.2.2.2.2.2 346 1 (zipWith gY x.2.2.2.2.2.2.2.2.2.2.2.2.1 x.2.2.2.2.2.2.2.2.2.2.2.2.2.1)),(bD (bB oM x.2.2.2.2.2.2.2.2.2.2.2.2.1 x.2.2.2.2.2.2.2.2.2.2.2.2.2.1))] else []):=by
 have J7:=hin.sQ;have J5:=hin.sR;have J3:=hin.mE;have J4:=hin.sP;have J6:=hin.side;refine cU kr Tryz.func211 U U fun w0 Q hQ hN=>?_
 try dsimp only
 refine aU bT 2 U<|dV U fun b2=>dV U fun b3=>dF aj 8 [] (mc 1 U mn) U<|rS (CL (v_ l kA kC az cA cC bA bC hin) (aP [2,3,4,5]) U)<|aq aj 9 ?_;refine bY U (aK fun e=>?_) (aJ fun e=>?_)
 ·refine aq aY 8 ?_;refine LX hQ (false,(dU l),0,none,0,none,0,[],[],[],none,0,[],[],none,0) [] [] mn U (by rfl) U U ?_;exact qY<|QG (oo (r:=r) (me:=me) e) e
 refine aq aY 5 ?_;have C:dU l=0:=e;obtain ⟨Cx,Y⟩:=er C;have Fn:=Y.head;unfold fg at Fn;refine ck aj 2 [] (mc 0 U mn) ?_;refine dC (xs:=[.tmp 24]) (cs:=[(vI r.Start)]) U cO jU U U U U (by simp [Value.cells]) U U fun DR=>?_;refine rS (CL (dh.eq (iA 0 86400000 ([r.Start]) (some ⟨DR,0,none⟩) 1 (by (simp;done))) cp) (aw (aM 0 U U (by simp [br]) U)<|aA) U) ?_;refine aq aj 2 ?_;refine bK (t:=28) U (aK fun D0=>?_) (aJ fun D0=>?_)
 ·refine aq aj 24 ?_;refine LX hQ (false,51,0,none,0,none,0,[],[],[],none,0,[],[],none,0) [] [] mn U (by rfl) U U ?_;exact qY<|pM (fY (me:=me) C (fun q:gp l r=>by have q1:=q.time;have q2:=q.len;omega))
 refine ck aj 4 [] (mc 1 U mn) ?_;refine dC (xs:=[.tmp 32]) (cs:=[(vI r.hP)]) U cO jU U U U U (by simp [Value.cells]) U U fun Di=>?_;refine rS (CL (dh.eq (iA r.Start 86400000 ([r.hP]) (some ⟨Di,0,none⟩) 1 (by (simp;done))) cp) (aw (aM 0 U U (by simp [br]) U)<|aA) U) ?_;refine aq aj 3 ?_;refine bK (t:=37) U (aK fun EU=>?_) (aJ fun EU=>?_)
 ·refine aq aj 15 ?_;refine LX hQ (false,51,0,none,0,none,0,[],[],[],none,0,[],[],none,0) [] [] mn U (by rfl) U U ?_;exact qY<|pM (fY (me:=me) C (fun q:gp l r=>by have q1:=q.time;have q2:=q.len;omega))
 refine ck aj 7 [] (mc 2 U mn) ?_;refine bY U (aG fun Eq=>?_) (aH fun Eq=>?_)
 ·refine aq aY 7 ?_;refine LX hQ (false,51,0,none,0,none,0,[],[],[],none,0,[],[],none,0) [] [] mn U (by rfl) U U ?_;exact qY<|pM (fY (me:=me) C (fun q:gp l r=>by have q1:=q.time;have q2:=q.len;omega))
 refine aU aY 4 U<|rS (SX (aW (xs:=[(0,.const (vI (-1)))]) (cs:=(aR.cells (aR.mk (-1) 0))) U U (aV WM U)) U U)<|AL U Nt fun T=>eM U xG U<|aq aj 3 ?_;refine cT bX [5,6,7,8] [] [] [0,1,2,3,4,5,6,7,8,9,10,11] [] U U U U U<|eS U (LW 4 U bP U U)<|eS U (LW 3 U bP U U)<|eS U (FA 3 U eB U)<|eS U (L1 (vS bA l.ai.length bC) 4 U bP U U)<|eS U (LN U RY)<|dL U<|bR U fun T18 AO=>?_;refine yv (n:=l.ai.length) (es:=(map oC (replicate l.ai.length (none:Option Nat)))) U U U TU I I (by simp only [maxLen];omega) (by rw [AAy];rfl) U fun B=>?_
 try dsimp only
 refine bG (AO _ _ (aB [1,2,3,4,5,6,7,8,9,10,11,12]) ?_);refine bR U fun T20 Ap=>rS (SX (aW (xs:=[(0,.tmp 44),(1,.tmp 45),(3,.tmp 49)]) (cs:=(cj.cells (cj.mk (kO l kA kC cA cC bA bC) (jP r sgA sgC) (aX.mk none 0 0) (aX.mk (some ⟨B,0,none⟩) l.ai.length l.ai.length) (aX.mk none 0 0) (aX.mk none 0 0)))) U U (aV UE U)) U U)<|bG (Ap _ _ (aB [1,2,3,4,5,6,7,8,9,10,11,12]) ?_);refine bR U fun T21 A0=>dV U fun AB=>bG (A0 _ _ (aB [2,3,4,5,6,7,8,9,10,11,12,13]) ?_);refine bR U fun T23 A1=>rS (AG U)<|bG (A1 _ _ (aB [2,3,4,5,6,7,8,9,10,11,12,13]) ?_);refine eI U<|ck jC 11 [] (mc 6 U mn) ?_;rw [xW];refine eC 3 1<|mo ?_;have E:(0≤l.ai.length)∧(([]:List Nat).length=0):=by exact ⟨c4 _,rfl⟩
 refine bw (ι:={z:Nat×(OA)×Nat×(List Nat) // (z.1≤l.ai.length)∧(z.2.2.2.length=z.1)}) [2,3,4,6,7,9,10,54] [4,7,8,9,10,11,12,13,14,15] U U (fun z=>[(55,(vI (z.1.1:Int)))]) (fun z=>[(bD (bB r_ (replicate z.1.1 ([]:TM)) z.1.2.2.2)),(own z.1.2.1 z.1.2.2.1 3 1 ((cv l z.1.1).map iC)),(cb AB 343 (cj.cells (cj.mk (kO l kA kC cA cC bA bC) (jP r sgA sgC) (aX.mk z.1.2.1 ((cv l z.1.1).length) z.1.2.2.1) (aX.mk (some ⟨B,0,none⟩) l.ai.length l.ai.length) (aX.mk none 0 0) (aX.mk none 0 0)))),(own (some ⟨B,0,none⟩) l.ai.length 95 1 (map oC (dM z.1.2.2.2 l.ai.length)))]) (fun _=>rfl) (fun _=>rfl) (fun z=>l.ai.length-z.1.1) ⟨(0,none,0,([]:List Nat)),E⟩ (aN U) (aB [4,7,8,9,10,11,12,13,14,15,0,1,2,3]) ?_;clear E;rintro ⟨⟨b,a,c,fb⟩,⟨h,V⟩⟩ J26 y
 try dsimp only at h V
 try dsimp only
 have GE:(dM fb l.ai.length).length=l.ai.length:=oZ I;refine aq bT 6 ?_;refine bY U (aG fun EQ=>?_) (aH fun EQ=>?_)
 ·refine aq aY 11 ?_;refine cT bX [12,13,16] [4] [0] [0,1,2,3,4,5,6,7,8,9,10,13] [0,1,2,3,4,5,6,7,8,9,10,11,12,13] U U U U U<|eS U (MV U)<|eS U (MV U)<|eS U (SX (bO U U) U U)<|eS U (FA 10 U eB U)<|fS U (L1 (vS a ((cv l b).length) c) 12 U bP U U)<|eS U (LW 2 U bP U U)<|eS U (MV U)<|eS U (CL (Ju l kA kC az cA cC bA bC (b:Int) hin asm (by exact Y.vJ) I) (aP [3,4,5,6]) U) ?_;have J8:=BY Cx Y.vJ b;have J9:=Y.Um b I;simp only [AAP];refine eS U (BI U (nt ⟨I,I⟩))<|eS U (FA 1 U eB U)<|eS U (L1 (vI l.g7) 2 U bP U U) ?_;refine eS U (CL (Iv (1000*(mM l (b:Int).toNat)) l.g7 I (by (simp;omega))) (aA) U) ?_;refine eS U (SX (bO U U) U U)<|eS U (FA 10 U eB U)<|dL U<|gr U fun T33 A2=>dC (xs:=[.tmp 69]) (cs:=[(vI (qz (1000*(mM l (b:Int).toNat)) l.g7))]) U cO jU U U U U (by simp [Value.cells]) U U fun In=>bG (A2 _ _ (aB [1,2,3,4,5,6,7,8,9,10,11,14]) (aB [1,2,3,4,5,6,7,8,9,10,11,12,13,14]) ?_);refine bR U fun T35 A3=>?_;refine de (es2:=(map iC (cv l (b+1)))) (m':=(cv l (b+1)).length) 12 U U U pG U U (by simp [dH]) (aM (es:=map iC [(qz (1000*(mM l (b:Int).toNat)) l.g7)]) 0 U U (by simp [br]) U) (j_ _) (by have:=dH (l:=l) (n:=b);first|omega|(simp;omega)) (by simp only [maxLen,dH];omega) (by rw [tD];simp [ew]) (by simp [dH]) U fun Z d=>?_
  try dsimp only
  refine bG (A3 _ _ (aB [1,2,3,4,5,6,7,8,9,10,11,14]) ?_);refine bR U fun T38 A4=>im (vs:=[(vS Z ((cv l (b+1)).length) d)]) (cs':=(cj.cells (cj.mk (kO l kA kC cA cC bA bC) (jP r sgA sgC) (aX.mk Z ((cv l (b+1)).length) d) (aX.mk (some ⟨B,0,none⟩) l.ai.length l.ai.length) (aX.mk none 0 0) (aX.mk none 0 0)))) (C':=[_,_,_,_,_,_,_,_,_,_,_,_,_,(cb AB 343 (cj.cells (cj.mk (kO l kA kC cA cC bA bC) (jP r sgA sgC) (aX.mk Z ((cv l (b+1)).length) d) (aX.mk (some ⟨B,0,none⟩) l.ai.length l.ai.length) (aX.mk none 0 0) (aX.mk none 0 0)))),_]) 13 U U U wk U U U U U U U<|bG (A4 _ _ (aB [1,2,3,4,5,6,7,8,9,10,11,14]) ?_);refine eI U<|aU jC 3 U<|rS (SX (bO U U) U U)<|ck aj 3 [] (mc 13 U mn) ?_;refine lv (kV:=iV) U U fun J=>?_
  try dsimp only
  obtain ⟨G4,C1⟩:=ay (dM fb l.ai.length) b I;have hx41m:(map oC (dM fb l.ai.length))[b]? =some (oC G4):=by rw [gO,C1];rfl
  refine rS (IA b U (ao (n:=l.ai.length) 15 U sq) zN dc I I) ?_;have A5:((dM fb l.ai.length).set b (some J))=(dM (fb++[J]) l.ai.length):=by exact uH I I
  refine ej (k:=b) (o:=0) (vs:=[(Value.map (some J))]) (es':=(map oC (dM (fb++[J]) l.ai.length))) (C':=[_,_,_,_,_,_,_,_,_,_,_,_,_,_,_,(own (some ⟨B,0,none⟩) l.ai.length 95 1 (map oC (dM (fb++[J]) l.ai.length)))]) 15 U U U Su U U U U hx41m U dc (by exact (AAl (f:=oC) (l:=(dM fb l.ai.length)) (i:=b) (a:=(some J))).symm.trans (c7 _ A5)) U<|aq aj 7 ?_;refine By (X':=bB r_ (replicate (b+1) ([]:TM)) (fb++[J])) 12 0 U U (JG V) ?_
  try dsimp only
  have A6:(vI (((b+1):Nat):Int))=(vI ((b:Int)+1)):=by exact cI I
  refine aL (y ⟨((b+1),Z,d,(fb++[J])),⟨I,by simp;omega⟩⟩ _ _ _ U os (cx 8<|aQ U A6<|cV.nil _) (aB [2,3,4,5,6,7,8,9,10,11,0,12,13,14]))
 refine aU aY 1 U<|ck fz 12 [] (mc 1 U mn) ?_;rw [show (replicate b ([]:TM))=cM l r.ab 0 from by rw [zW,show b=l.ai.length by omega]];rw [show cv l b=cv l l.ai.length from by rw [show b=l.ai.length by omega]];have E:(0≤r.ab.length)∧(qt l r.ab 0):=by exact ⟨c4 _,yi⟩
 refine bw (ι:={z:Nat // (z≤r.ab.length)∧(qt l r.ab z)}) [2,3,4,6,7,9,10,83,84] [1,2,3,4,5,6,7,8,9,11,12,13] U U (fun z=>[(85,(vI (z.1:Int)))]) (fun z=>[(cb T 85 (aR.cells (nq r.ab z.1))),(bD (bB r_ (cM l r.ab z.1) fb))]) (fun _=>rfl) (fun _=>rfl) (fun z=>r.ab.length-z.1) ⟨0,E⟩ (aN U) (aB [1,2,3,4,5,6,7,8,9,11,12,13,0,10]) ?_;clear E;rintro ⟨i,⟨DA,A⟩⟩ J46 S
 try dsimp only
 have GT:(cM l r.ab i).length=l.ai.length:=ib;have GE:(dM fb l.ai.length).length=l.ai.length:=oZ I;refine aq bT 6 ?_;refine bE U (aH fun Es=>?_) (aG fun Es=>?_)
 ·refine aU aY 1 U<|aq fz 4 ?_;have g:gp l r:=zy I I A I;refine aU aY 7 U<|iX 2<|eh fun R81 AC=>aU bT 2 U<|rS (SX (cm (r:= .bool true) U U U hH) U U)<|aU aj 10 U<|rS (IAB 0 0 U TD U dc U)<|dF aj 7 [] (mr 8 U mn) U<|rS (SX (pq U U U (hf) (aP [7])) U U)<|aq aj 9 ?_;refine bY U (aK fun K=>?_) (aJ fun K=>?_)
  ·refine aq aY 8 ?_;refine LX hQ (false,me,0,none,0,none,0,[],[],[],none,0,[],[],none,0) [] [] mn U (by rfl) U U ?_;exact qY<|QG (EZ C g K) K
  refine aU aY 4 U<|rS (SX (cm (r:= .int .i64 1) U U U (jq ⟨dc,dc⟩)) U U)<|aU aj 2 U<|KK AC<|eh fun R89 IO=>aU bT 2 U<|rS (SX (cm (r:= .bool false) U U U hH) U U)<|aU aj 5 U<|aq fz 3 ?_;rw [show cM l r.ab i=cM l r.ab r.ab.length from by rw [show i=r.ab.length by omega]];have p:(cM l r.ab r.ab.length).length=l.ai.length:=ib;rw [show (map oC (dM fb l.ai.length))=(zipWith gY (cM l r.ab r.ab.length) fb) from YL I p];rw [show (cb AB 343 (cj.cells (cj.mk (kO l kA kC cA cC bA bC) (jP r sgA sgC) (aX.mk a ((cv l l.ai.length).length) c) (aX.mk (some ⟨B,0,none⟩) l.ai.length l.ai.length) (aX.mk none 0 0) (aX.mk none 0 0))))=(cb AB 343 (cj.cells (cj.mk (kO l kA kC cA cC bA bC) (jP r sgA sgC) (aX.mk a ((cv l l.ai.length).length) c) (aX.mk (some ⟨B,0,none⟩) ((cM l r.ab r.ab.length).length) l.ai.length) (aX.mk none 0 0) (aX.mk none 0 0)))) from by rw [p]];have C0:=n_ Cx Y g;have IR:(cv l l.ai.length).length=l.ai.length:=dH;refine aq aY 2 ?_;refine kp 10 U U U U (Eh (kO l kA kC cA cC bA bC) (jP r sgA sgC) (cv l l.ai.length) (cM l r.ab r.ab.length) a c fb (some ⟨B,0,none⟩) l.ai.length AB (by exact C0) (by exact dH.symm) (by rw [p];omega)) U (ek 9 U U (kf sm) (ek 11 U U (kf (by rw [m4];omega)) (ek 13 U U te mu))) U (fun C2 Fd=>?_);obtain ⟨G,R,O,P,F,N,M,H⟩:=C2;refine Jy (X:=[(cb AB 343 (cj.cells (cj.mk (kO l kA kC cA cC bA bC) (jP r sgA sgC) (aX.mk a ((cv l l.ai.length).length) c) (aX.mk (some ⟨B,0,none⟩) ((cM l r.ab r.ab.length).length) l.ai.length) (aX.mk O G.length P) (aX.mk M F.length H)))),(own O P 346 1 (zipWith gY G R)),(bD (bB oM G R)),(own M H 346 1 (zipWith gY F N)),(bD (bB oM F N))]) 10 U U ?_
  try dsimp only
  obtain ⟨j,Ci,Ck,Cp⟩:=Fd;dsimp only at j Ci Ck Cp;refine aq aj 6 ?_;refine cX (xU (kO l kA kC cA cC bA bC) (jP r sgA sgC) (cv l l.ai.length) (cM l r.ab r.ab.length) a c fb (some ⟨B,0,none⟩) l.ai.length G F R O P N M H AB (by exact C0) (by (simp;omega)) (by exact dH.symm) (by exact j) asm) (aw (ao (n:=(cv l l.ai.length).length) 14 U sm)<|aw (ao (n:=(cM l r.ab r.ab.length).length) 15 U (by rw [m4];omega))<|aw (dQ 17 U m8)<|aw (ao (n:=G.length) 1 U (by rw [m4];omega))<|aw (dQ 2 U m8)<|aw (ao (n:=F.length) 3 U (by rw [m4];omega))<|aw (dQ 4 U m8)<|gM 0 U U<|aA) U fun C3 G3=>?_;obtain ⟨Hi,H1⟩:=C3
  try dsimp only
  refine aq aj 4 ?_;refine bE U (aH fun AA=>?_) (aG fun AA=>?_)
  ·refine aq aY 10 ?_;refine LX hQ (true,0,AB,a,c,(some ⟨B,0,none⟩),l.ai.length,fb,G,R,O,P,F,N,M,H) [1,15,16,18,2,3,4,5] [] mn U (by (show List.all _ _=true;simp only [AAS,eX,om,Jf,UH,n4];rfl)) U U ?_;exact ⟨fun _=>⟨xp C g (by first|rfl|exact K) (fun q=>AA (c7 (fun z:List Int=>(z.length:Int)) q)),j,Ci,Ck,Cp,dso⟩,QS⟩
  refine aq aY 7 ?_;refine LX hQ (false,8,0,none,0,none,0,[],[],[],none,0,[],[],none,0) [] [] mn U (by rfl) U U ?_;exact qY<|pM (vq (me:=me) C g (by first|rfl|exact K) (show n8 (dW l r)=[] from kq (ACU.1 AA)))
 refine aq aY 7 ?_;obtain ⟨x,hx⟩:=ay r.ab i I;have Go:=bx aR.cells hx;refine rS (IA i U (av 6 U) zE dc I I)<|rS (k8 i 0 (aR.cells x) U bP (av 6 U) Go U dc U U)<|AL U Nt fun Iw=>aU aj 1 U<|eM U xG U<|ck aj 11 [0,1] (mc 2 U (mc 0 U mn)) ?_;refine dC (xs:=[.tmp 95]) (cs:=[(vI x.fR)]) U cO jU U U U U (by simp [Value.cells]) U U fun Dn=>?_;refine rS (CL (dh.eq (iA 0 ((l.ai.length:Int)-1) ([x.fR]) (some ⟨Dn,0,none⟩) 1 (by (simp;done))) cp) (aw (aM 0 U U (by simp [br]) U)<|aA) U) ?_;refine aq aj 2 ?_;refine bK (t:=99) U (aK fun FS=>?_) (aJ fun FS=>?_)
 ·refine aq aj 37 ?_;refine LX hQ (false,51,0,none,0,none,0,[],[],[],none,0,[],[],none,0) [] [] mn U (by rfl) U U ?_;exact qY<|pM (fY (me:=me) C (pY hx (by unfold j3 k7;omega)))
 refine ck aj 2 [] (mc 1 U mn) ?_;refine dC (xs:=[.tmp 101]) (cs:=[(vI x.Read)]) U cO jU U U U U (by simp [Value.cells]) U U fun Do=>?_;refine rS (CL (dh.eq (iA 0 86400000 ([x.Read]) (some ⟨Do,0,none⟩) 1 (by (simp;done))) cp) (aw (aM 0 U U (by simp [br]) U)<|aA) U) ?_;refine aq aj 3 ?_;refine bK (t:=106) U (aK fun s=>?_) (aJ fun s=>?_)
 ·refine aq aj 30 ?_;refine LX hQ (false,51,0,none,0,none,0,[],[],[],none,0,[],[],none,0) [] [] mn U (by rfl) U U ?_;exact qY<|pM (fY (me:=me) C (pY hx (by unfold j3 k7;omega)))
 refine ck aj 7 [0,1] (mc 2 U (mc 15 U mn)) ?_;refine bK (t:=113) U (aG fun u=>?_) (aH fun u=>?_)
 ·refine aq aj 23 ?_;refine LX hQ (false,51,0,none,0,none,0,[],[],[],none,0,[],[],none,0) [] [] mn U (by rfl) U U ?_;exact qY<|pM (fY (me:=me) C (pY hx (by unfold j3 k7;omega)))
 refine ck aj 6 [0,1] (mc 2 U (mc 15 U mn)) ?_;refine cz (t:=119) U (aH fun v=>?_) (aG fun v=>?_)
 ·refine dF aj 17 [0,1] (mc 4 U (mc 2 U mn)) U<|rS (CL (DH l kA kC az cA cC bA bC x hin asm I) (aP [5,6,7,8]) U)<|AL U dD fun J2=>eM U cK U<|ck aj 11 [] (mc 0 U mn) ?_;refine bE U (aH fun D=>?_) (aG fun D=>?_)
  ·refine dF aY 4 [] (mc 3 U mn) U<|im (vs:=(aR.cells x)) (cs':=(aR.cells x)) (C':=[_,_,_,_,_,_,_,_,_,_,_,_,_,_,_,_,(cb T 85 (aR.cells x)),_]) 16 U U U xG U U U U U U U<|aq aj 3 ?_;have Bv:(aR.cells x)=(aR.cells (nq r.ab (i+1))):=by rw [lB hx]
   rw [Bv];refine aq aY 4 ?_;rw [show (cM l r.ab i)=(cM l r.ab (i+1)) from (rM hx D).symm];have B3:(vI (((i+1):Nat):Int))=(vI ((i:Int)+1)):=by exact cI I
   refine aL (S ⟨(i+1),⟨I,kb A hx (by unfold j3 k7;omega)⟩⟩ _ _ _ U os (cx 9<|aQ U B3<|cV.nil _) (aB [4,5,6,7,8,9,10,11,12,13,14,15,16,17]))
  obtain ⟨mb,W⟩:=ay (cM l r.ab i) ((x.fR).toNat) I;obtain ⟨ga,L⟩:=ay fb ((x.fR).toNat) I;refine B4 17 W L U U U ?_
  try dsimp only
  refine cL bX 10 kr<|iQ 1 U<|dS (SX (bO U U) U U)<|dP 4 [0,1] (mc 16 U (mc 5 U mn)) ?_;have B9:(map oC (dM fb l.ai.length))[(x.fR).toNat]? =some (oC (some ga)):=sH (og L);refine dS (IA ((x.fR).toNat) U (ao (n:=l.ai.length) 17 U sq) zN dc I I) ?_;refine dS (gF ((x.fR).toNat) 0 (Value.map (some ga)) U bP (ao (n:=(dM fb l.ai.length).length) 17 U sm) B9 U dc U)<|jY 2 [] (mc 2 U mn) U<|cy<|iN (kV:=iV) (x:=(i:Int)) (C':=[(iu iV ga (bS e_ (d_ mb (i:Int) (dw l x)))),_,_,_,_,_,_,_,_,_,_,_,_,_,_,_,_,_,_]) 0 U U U U rY (eE nZ) U (gH _ _ _ _).symm U<|dF aj 4 [] (mc 5 U mn) U<|im (vs:=(aR.cells x)) (cs':=(aR.cells x)) (C':=[_,_,_,_,_,_,_,_,_,_,_,_,_,_,_,_,_,_,(cb T 85 (aR.cells x))]) 18 U U U xG U U U U U U U<|aq aj 3 ?_;have BP:(aR.cells x)=(aR.cells (nq r.ab (i+1))):=by rw [lB hx]
  rw [BP];refine aq aY 4 ?_;refine Dx (f:=r_) (ms:=(cM l r.ab i)) (m:=(d_ mb (i:Int) (dw l x))) 1 0 (by rw [ib];omega) L U U U ?_;rw [uC hx I D W];have Bt:(vI (((i+1):Nat):Int))=(vI ((i:Int)+1)):=by exact cI I
  refine aL (S ⟨(i+1),⟨I,kb A hx (by unfold j3 k7;omega)⟩⟩ _ _ _ U os (cx 9<|aQ U Bt<|cV.nil _) (aB [5,6,7,8,9,10,11,12,13,14,15,16,17,0]))
 refine ck aj 9 [0,1] (mc 2 U (mc 15 U mn)) ?_;refine bY U (aG fun w=>?_) (aH fun w=>?_)
 ·refine aq aY 7 ?_;refine LX hQ (false,51,0,none,0,none,0,[],[],[],none,0,[],[],none,0) [] [] mn U (by rfl) U U ?_;exact qY<|pM (fY (me:=me) C (pY hx (by unfold j3 k7;omega)))
 refine dF aY 7 [0,1] (mc 4 U (mc 2 U mn)) U<|rS (CL (DH l kA kC az cA cC bA bC x hin asm I) (aP [5,6,7,8]) U)<|AL U dD fun I7=>eM U cK U<|ck aj 11 [] (mc 0 U mn) ?_;refine bE U (aH fun D=>?_) (aG fun D=>?_)
 ·refine dF aY 4 [] (mc 3 U mn) U<|im (vs:=(aR.cells x)) (cs':=(aR.cells x)) (C':=[_,_,_,_,_,_,_,_,_,_,_,_,_,_,_,_,(cb T 85 (aR.cells x)),_]) 16 U U U xG U U U U U U U<|aq aj 3 ?_;have A9:(aR.cells x)=(aR.cells (nq r.ab (i+1))):=by rw [lB hx]
  rw [A9];refine aq aY 4 ?_;rw [show (cM l r.ab i)=(cM l r.ab (i+1)) from (rM hx D).symm];have BD:(vI (((i+1):Nat):Int))=(vI ((i:Int)+1)):=by exact cI I
  refine aL (S ⟨(i+1),⟨I,kb A hx (by unfold j3 k7;omega)⟩⟩ _ _ _ U os (cx 9<|aQ U BD<|cV.nil _) (aB [4,5,6,7,8,9,10,11,12,13,14,15,16,17]))
 obtain ⟨mb,W⟩:=ay (cM l r.ab i) ((x.fR).toNat) I;obtain ⟨ga,L⟩:=ay fb ((x.fR).toNat) I;refine B4 17 W L U U U ?_
 try dsimp only
 refine cL bX 10 kr<|iQ 1 U<|dS (SX (bO U U) U U)<|dP 4 [0,1] (mc 16 U (mc 5 U mn)) ?_;have B7:(map oC (dM fb l.ai.length))[(x.fR).toNat]? =some (oC (some ga)):=sH (og L);refine dS (IA ((x.fR).toNat) U (ao (n:=l.ai.length) 17 U sq) zN dc I I) ?_;refine dS (gF ((x.fR).toNat) 0 (Value.map (some ga)) U bP (ao (n:=(dM fb l.ai.length).length) 17 U sm) B7 U dc U)<|jY 2 [] (mc 2 U mn) U<|cy<|iN (kV:=iV) (x:=(i:Int)) (C':=[(iu iV ga (bS e_ (d_ mb (i:Int) (dw l x)))),_,_,_,_,_,_,_,_,_,_,_,_,_,_,_,_,_,_]) 0 U U U U rY (eE nZ) U (gH _ _ _ _).symm U<|dF aj 4 [] (mc 5 U mn) U<|im (vs:=(aR.cells x)) (cs':=(aR.cells x)) (C':=[_,_,_,_,_,_,_,_,_,_,_,_,_,_,_,_,_,_,(cb T 85 (aR.cells x))]) 18 U U U xG U U U U U U U<|aq aj 3 ?_;have A7:(aR.cells x)=(aR.cells (nq r.ab (i+1))):=by rw [lB hx]
 rw [A7];refine aq aY 4 ?_;refine Dx (f:=r_) (ms:=(cM l r.ab i)) (m:=(d_ mb (i:Int) (dw l x))) 1 0 (by rw [ib];omega) L U U U ?_;rw [uC hx I D W];have A8:(vI (((i+1):Nat):Int))=(vI ((i:Int)+1)):=by exact cI I
 refine aL (S ⟨(i+1),⟨I,kb A hx (by unfold j3 k7;omega)⟩⟩ _ _ _ U os (cx 9<|aQ U A8<|cV.nil _) (aB [5,6,7,8,9,10,11,12,13,14,15,16,17,0]))
end
section
open Go.RowKit
variable (l:bf) (kA:OA) (kC:Nat) (az:List RA) (cA:OA) (cC:Nat) (bA:OA) (bC:Nat) (r:c_) (sgA:OA) (sgC:Nat) (bq_:Int)
theorem Fs (hin:dX l az) (hsl:r.ab.length≤1000000):
 dh Tryz.prog 178 [(vA (bV.cells (kO l kA kC cA cC bA bC))),(vA (dA.cells (jP r sgA sgC))),(vI bq_)] ((rr l kA az cA bA)++[(rd sgA r.ab.length 2 (r.ab.map aR.cells))]) (vT [(vA (aa.cells (eL l r bq_))),(vI (eT l r bq_))]):=by
 have Eq:=hin.sQ;have DR:=hin.sR;have C0:=hin.mE;have C3:=hin.sP;have EQ:=hin.side;refine bj kr Tryz.func178 U U fun w0 Q hQ hN=>?_
 try dsimp only
 refine aU bT 2 U<|dV U fun d=>dV U fun b3=>sK U U fun f=>AL U dD fun b5=>ck aj 7 [0,1] (mc 3 U (mc 2 U mn)) ?_;refine rS (FU U)<|dC (xs:=[.tmp 17]) (cs:=[(Value.func (.func 212) [].toArray [(vP d),(vP f)].toArray)]) U TD ZA U U U U (by simp [Value.cells]) U U fun b7=>cX (RI l kA kC az cA cC bA bC r sgA sgC (Value.func (.func 212) [].toArray [(vP d),(vP f)].toArray) (iU [(rd kA l.bQ.length 9 (l.bQ.map ag.cells)),(rd cA l.aC.length 2 (zipWith aS.cells l.aC az)),(iU (bB aS.lf l.aC az)),(rd bA l.ai.length 4 (l.ai.map df.cells)),(cb d 28 (bV.cells (kO l kA kC cA cC bA bC))),(cb f 3 [(vI bq_)])]) (lR l bq_) b7 (by exact kT (fi:=[]) (ca:=[(vP d),(vP f)]) (jJ (HQ l kA kC az cA cC bA bC d bq_ f (by first|assumption|omega)) (aP [0,1,2,3,4,5]))) hin hsl) (lZ [5,6,7,8,9]<|aw (jO (aP [5,6,7,8,4,2]))<|gM 0 U U<|aA) U fun y8 A2=>?_;obtain ⟨A3,Ci,E,H,AB,W,X,Y,B,L,J,K,A,G,AA,V⟩:=y8;cases A3
 ·obtain ⟨AO,he⟩:=A2.2 rfl
  try dsimp only at AO he
  subst AO
  try dsimp only [cond_true,cond_false,List.cons_append,List.nil_append]
  refine aq aj 14 ?_;refine bE U (aJ fun v=>?_) (aK fun v=>?_)
  ·exact absurd v he
  refine aU aY 2 U<|rS (SX (aW (xs:=[]) (cs:=(aa.cells (aa.mk 0 0))) U U (aV gQ U)) U U)<|aU aj 1 U<|o_ U cK U<|aq aj 4 ?_;refine mP hQ [0] (mc 1 U mn) U ?_
  (have e:=nH (b:=bq_) he;rw [e.1,e.2]<;>rfl)
 obtain ⟨he,D,C,A7,A6,BD⟩:=A2.1 rfl
 try dsimp only [cond_true,cond_false,List.cons_append,List.nil_append]
 dsimp only at D C A7 A6 BD;obtain ⟨A5,s,A9,Dn⟩:=jQ he;obtain ⟨BP,A0⟩:=er A5;have A8:=A0.head;unfold fg at A8;have Bt:=n_ BP A0 s;have D0:=s.time;have Do:=s.len;have Ap:(cv l l.ai.length).length=l.ai.length:=dH;have A1:(cM l r.ab r.ab.length).length=l.ai.length:=ib;have Di:B.length=l.ai.length+1:=by have:=D.len;rw [show (dW l r).n=l.ai.length from dH] at this;exact this
 have DA:A.length=l.ai.length+1:=by have:=C.len;rw [show (dW l r).n=l.ai.length from dH] at this;exact this
 obtain ⟨C1,C2⟩:=GJ A9;obtain ⟨b,j⟩: ∃ b:Nat,bq_=(b:Int):=⟨bq_.toNat,I⟩;rw [j];refine aU aj 11 U<|rS (SX (cm (r:= .bool false) U U U nx) U U)<|aU aj 7 U<|rS (SX (aW (xs:=[(0,.const (vI 1))]) (cs:=(aa.cells (aa.mk 1 0))) U U (aV gQ U)) U U)<|AL U dD fun t=>eM U cK U<|dF aj 5 [] (mc 0 U mn) U<|AL U dD fun u=>eM U cK U<|ck aj 7 [] (mc 12 U mn) ?_;obtain ⟨mf,O⟩:=ay B b I;obtain ⟨mb,P⟩:=ay A (b+1) I;refine cX (Oz E b) (aA) U fun B3 Ck=>?_;obtain ⟨a,c⟩:=B3
 try dsimp only
 refine aq aj 3 ?_;refine o5 (L0:=[(3,(vP d)),(4,(vP b3)),(5,(vP f)),(6,(vP b5)),(7,(vI 0)),(10,(vP t)),(11,(vP u))]) (F:=[(own H AB 3 1 ((cv l l.ai.length).map iC)),(own W X 95 1 (zipWith gY (cM l r.ab r.ab.length) Y)),(bD (bB r_ (cM l r.ab r.ab.length) Y)),(own J K 346 1 (zipWith gY B L)),(bD (bB oM B L)),(own AA V 346 1 (zipWith gY A G)),(bD (bB oM A G)),(cb E 343 (cj.cells (cj.mk (kO l kA kC cA cC bA bC) (jP r sgA sgC) (aX.mk H ((cv l l.ai.length).length) AB) (aX.mk W ((cM l r.ab r.ab.length).length) X) (aX.mk J B.length K) (aX.mk AA A.length V)))),(cb a 301 [(vP E)]),(cb c 3 [(vI (b:Int))])]) (fun k (y:aa)=>(lT k y)∧(∀ q∈k,q∈sI (dW l r) b mf mb)) (fun k y=>[(cb u 38 (aa.cells y)),(cb t 38 (aa.cells (aa.mk 1 0))),(cb b5 38 (aa.cells (aa.mk 0 0))),(cb f 3 [(vI (b:Int))]),(cb b3 50 (dA.cells (jP r sgA sgC))),(cb d 28 (bV.cells (kO l kA kC cA cC bA bC))),(rd kA l.bQ.length 9 (l.bQ.map ag.cells)).ro,(rd cA l.aC.length 2 (zipWith aS.cells l.aC az)).ro,(iU (bB aS.lf l.aC az)).ro,(rd bA l.ai.length 4 (l.ai.map df.cells)).ro,(rd sgA r.ab.length 2 (r.ab.map aR.cells)).ro]) (fun _ (_:Unit)=>False) (fun _ _=>[]) [2,3,13,14,15,16,17,18,19,20,21] [5,6,7,8,9,10,11,4,0,1] oN rfl rfl (Me (kO l kA kC cA cC bA bC) (jP r sgA sgC) (cv l l.ai.length) (cM l r.ab r.ab.length) H AB Y W X B A L J K G AA V E b a c mf mb (by rw [Ap];omega) (by exact Bt) (by rw [A1];omega) (by exact D) I (by exact C) I (by show r.ab.length≤1000;omega) (by exact O) (by exact P)) rfl rfl rfl (by exact ⟨E0,fun q hq=>by cases hq⟩) (by simp only [AAI,h_,AAs,AAv,ABC];exact ⟨⟨_,aF (i:=0) rfl,(kf sm)⟩,⟨_,aF (i:=1) rfl,(kf (by rw [m4];omega))⟩,⟨_,aF (i:=2) rfl,te⟩,⟨_,aF (i:=3) rfl,(kf (by rw [m4];omega))⟩,⟨_,aF (i:=4) rfl,te⟩,⟨_,aF (i:=5) rfl,(kf (by rw [m4];omega))⟩,⟨_,aF (i:=6) rfl,te⟩,⟨_,aF (i:=7) rfl,(bM _)⟩,⟨_,aF (i:=8) rfl,(bM _)⟩,⟨_,aF (i:=9) rfl,(bM _)⟩⟩) (by rintro k x k2 ⟨o,_,rfl,_⟩;rfl) rfl (aN rfl) ?_ ?_ (fun _ _ _ h=>h.elim) (fun _ _ h=>h.elim)
 ·rintro k x k2 h lr ra rb S w1 K41 Qr42 EU hx m AC N Bv B7;obtain ⟨q,hq,rfl,rfl⟩:=hx;obtain ⟨R,T⟩:=m
  try dsimp only
  refine aU bT 1 U<|AL U dD fun Cp=>eM U cK U<|aq aj 1 ?_;refine j7 (fun _ _ h=>h) (aB [1,0,2,3,4,5,6,7,8,9,10,11,12])<|aL (AC _ _ ?_);refine dF bT 6 [0,1] (mc 2 U (mc 3 U mn)) U<|rS (BI U (E3 _ _ h (aa.mk 1 0)))<|aq aj 2 ?_;refine bE U (aJ fun M=>?_) (aK fun M=>?_)
  ·refine dF aY 4 [] (mc 1 U mn) U<|D2 U cK U<|aq aj 2 ?_;exact N q.2 _ _ (by refine ⟨BU R (qi hq) ?_,fun z hz=>?_⟩;(first|exact c1 M|exact c0 M);(rcases dZ.1 hz with hz|hz;exact T z hz;(rw [bU.1 hz];exact hq))) (aB [0,2,3,4,5,6,7,8,9,10,11,12])
  refine dF aY 5 [0,1] (mc 1 U (mc 2 U mn)) U<|rS (MN U)<|dF aj 4 [0,1] (mc 1 U (mc 2 U mn)) U<|rS (MX U)<|rS (SX (aW (xs:=[(0,.tmp 40),(1,.tmp 45)]) (cs:=(aa.cells (aa.mk (min q.2.Lo h.Lo) (max q.2.Hi h.Hi)))) U U (aV gQ U)) U U)<|o_ U cK U<|dF aj 4 [] (mc 1 U mn) U<|D2 U cK U<|aq aj 2 ?_;exact N (aa.mk (min q.2.Lo h.Lo) (max q.2.Hi h.Hi)) _ _ (by refine ⟨BU R (qi hq) ?_,fun z hz=>?_⟩;(first|exact c1 M|exact c0 M);(rcases dZ.1 hz with hz|hz;exact T z hz;(rw [bU.1 hz];exact hq))) (aB [0,2,3,4,5,6,7,8,9,10,11,12])
 rintro FS k h Z p;obtain ⟨R,T⟩:=p
 try dsimp only
 refine dF jC 7 [0,1] (mc 11 U (mc 12 U mn)) U<|rS (BI U (wN _ _ h (aa.mk 1 0)))<|aq aj 2 ?_;refine bE U (aH fun g=>?_) (aG fun g=>?_)
 ·refine dF aY 5 [] (mc 11 U mn) U<|im (vs:=(aa.cells h)) (cs':=(aa.cells h)) (C':=[_,_,_,_,_,_,_,_,_,_,_,_,_,(cb b5 38 (aa.cells h)),_,_,_,_,_,_,_,_]) 13 U U U cK U U U U U U U<|aq aj 4 ?_;refine hQ _ _ _ (nF 0 U U<|g4 (vs:=[(vA (aa.cells h)),(vI 0)]) ⟨⟨_,U,.inl ⟨_,_,bP,rG (vs:=(aa.cells h)) 13 U U,U,U⟩⟩,U,trivial⟩ fun w hs=>H3 ?_ hs);show (vT [(vA (aa.cells h)),(vI 0)])=(vT [(vA (aa.cells (eL l r bq_))),(vI (eT l r bq_))])
  clear hs w hQ hN
  (rw [j] at he ⊢;have hh:h=pb l r b:=BK (D.min _ _ O) (C.max _ _ P) (D.keys _ _ O) (C.keys _ _ P) T Z R;(have e:=td he (fun q=>g (hh.trans q));rw [e.1,e.2,hh]<;>rfl))
 refine aU aY 2 U<|rS (SX (aW (xs:=[]) (cs:=(aa.cells (aa.mk 0 0))) U U (aV gQ U)) U U)<|im (vs:=(aa.cells (aa.mk 0 0))) (cs':=(aa.cells (aa.mk 0 0))) (C':=[_,_,_,_,_,_,_,_,_,_,_,_,_,(cb b5 38 (aa.cells (aa.mk 0 0))),_,_,_,_,_,_,_,_]) 13 U U U cK U U U U U U U<|aq aj 4 ?_;refine hQ _ _ _ (nF 0 U U<|g4 (vs:=[(vA (aa.cells (aa.mk 0 0))),(vI 6)]) ⟨⟨_,U,.inl ⟨_,_,bP,rG (vs:=(aa.cells (aa.mk 0 0))) 13 U U,U,U⟩⟩,U,trivial⟩ fun w hs=>H3 ?_ hs);show (vT [(vA (aa.cells (aa.mk 0 0))),(vI 6)])=(vT [(vA (aa.cells (eL l r bq_))),(vI (eT l r bq_))])
 clear hs w hQ hN
 (rw [j] at he ⊢;have hh:h=pb l r b:=BK (D.min _ _ O) (C.max _ _ P) (D.keys _ _ O) (C.keys _ _ P) T Z R;(have e:=th he (hh.symm.trans g);rw [e.1,e.2]<;>rfl))
theorem Yd (hin:dX l az) (hsl:r.ab.length≤1000000):
 dh Tryz.prog 305 [(vA (bV.cells (kO l kA kC cA cC bA bC))),(vA (dA.cells (jP r sgA sgC)))] ((rr l kA az cA bA)++[(ke sgA r.ab)]) (vT [(vA (aa.cells (F0 l r))),(vI (eT l r l.b_))]):=by
 have H:=hin.sQ;have D:=hin.sR;have B:=hin.mE;have C:=hin.sP;have G:=hin.side;refine bj kr Tryz.func305 U U fun M Q hQ hN=>?_
 try dsimp only
 refine aU bT 2 U<|dV U fun AA=>dV U fun J=>AL U dD fun K=>dF aj 9 [0,1] (mc 2 U (mc 1 U mn)) U<|rS (CL (Fs l kA kC az cA cC bA bC r sgA sgC l.b_ hin hsl) (aP [3,4,5,6,7]) U)<|aU aj 3 U<|AL U dD fun L=>eM U cK U<|aq aj 10 ?_;refine bY U (aK fun A=>?_) (aJ fun A=>?_)
 ·refine aU aY 2 U<|rS (SX (aW (xs:=[]) (cs:=(aa.cells (aa.mk 0 0))) U U (aV gQ U)) U U)<|aU aj 1 U<|o_ U cK U<|aq aj 4 ?_;refine mP hQ [0] (mc 1 U mn) U ?_
  (rw [H7 A]<;>rfl)
 refine ck aY 8 [0,1] (mc 0 U (mc 2 U mn)) ?_;have E:=wm A;have F:=(yK A).time;refine dF aj 6 [0,1] (mc 0 U (mc 2 U mn)) U<|rS (SX (aW (xs:=[(0,.tmp 24),(1,.tmp 29)]) (cs:=(aa.cells (aa.mk (((eL l r l.b_).Lo)-r.Start) (((eL l r l.b_).Hi)-r.Start)))) U U (aV gQ U)) U U)<|o_ U cK U<|aq aj 4 ?_;refine mP hQ [0] (mc 1 U mn) U ?_
 (rw [Hk A,A]<;>rfl)
end
section
open Go.RowKit
variable (l:bf) (kA:OA) (kC:Nat) (az:List RA) (cA:OA) (cC:Nat) (bA:OA) (bC:Nat) (d:ak) (sgA:OA) (sgC:Nat)
theorem Sm (hin:dX l az):
 dh Tryz.prog 299 [(vA (bV.cells (kO l kA kC cA cC bA bC))),(vA (aO.cells (aO.mk d.Out d.cZ d.Time (jP d.bp sgA sgC))))] ((rr l kA az cA bA)++[(ke sgA d.bp.ab)]) (vT [(vA (aa.cells d.Time)),(vB (decide (d.cZ=false∧d.Time=gP∧oi d.bp)))]):=by
 refine bj kr Tryz.func299 U U fun AA Q hQ hN=>?_
 try dsimp only
 refine aU bT 2 U<|dV U fun F=>dV U fun G=>AL U dD fun H=>aq aj 4 ?_;refine cT bX [15] [] [] [1,2,3,4,5,6,7] [] U U U U U<|eS U (FA 2 U eB U)<|eS U (LP (aa.cells d.Time) 0 U bP U U U)<|eS U (FA 1 U eB U)<|eS U (L1 (vB d.cZ) 0 U bP U U)<|eS U (NT U)<|eS U (MV U)<|ur (t:=11) U (fun E=>?_) (fun E=>?_);rotate_left 1
 ·rw [m5] at E;refine eS U (OX U)<|eS U (OX U)<|eS U (OX U)<|eS U (OX U)<|eS U (PK U)<|eS U (MV U)<|eS U (OX U)<|eS U (OX U)<|eS U (PK U)<|eS U (AG U)<|dL U<|bR U fun T10 A=>eM U cK U<|bG (A _ _ (aB [1,2,3,4,5,6,7]) ?_);refine eI U<|aq jC 2 ?_;refine mP hQ [0] (mc 0 U mn) U ?_;clear hQ hN A T10;refine c7 (fun z=>Value.tuple #[_,vB z]) ?_
  first|rfl|(simp_all [gP];done)
 rw [e0] at E;refine eS U (FA 2 U eB U)<|eS U (LP (aa.cells d.Time) 0 U bP U U U)<|eS U (SX (aW (xs:=[]) (cs:=(aa.cells (aa.mk 0 0))) U U (aV gQ U)) U U)<|eS U (BI U (wN _ _ d.Time (aa.mk 0 0)))<|eS U (PK U)<|eS U (MV U)<|ur (t:=17) U (fun B=>?_) (fun B=>?_);rotate_left 1
 ·replace B:=DF B;refine eS U (OX U)<|eS U (OX U)<|eS U (PK U)<|eS U (AG U)<|dL U<|bR U fun T9 D=>eM U cK U<|bG (D _ _ (aB [1,2,3,4,5,6,7]) ?_);refine eI U<|aq jC 2 ?_;refine mP hQ [0] (mc 0 U mn) U ?_;clear hQ hN D T9;refine c7 (fun z=>Value.tuple #[_,vB z]) ?_
  first|rfl|(simp_all [gP];done)
 replace B:=DT B;refine eS U (LW 0 U bP U U)<|eS U (CL (MQ d sgA sgC) (aP [6]) U)<|eS U (PK U)<|eS U (AG U)<|dL U<|bR U fun T8 C=>eM U cK U<|bG (C _ _ (aB [1,2,3,4,5,6,7]) ?_);refine eI U<|aq jC 2 ?_;refine mP hQ [0] (mc 0 U mn) U ?_;clear hQ hN C T8;refine c7 (fun z=>Value.tuple #[_,vB z]) ?_
 first|rfl|(simp_all [gP];done)
theorem Ti (hin:dX l az):
 dh Tryz.prog 302 [(vA (bV.cells (kO l kA kC cA cC bA bC))),(vA (aO.cells (aO.mk d.Out d.cZ d.Time (jP d.bp sgA sgC))))] ((rr l kA az cA bA)++[(ke sgA d.bp.ab)]) (vT [(vA (aa.cells d.Time)),(vB (decide (ir d.Time∧oi d.bp)))]):=by
 refine bj kr Tryz.func302 U U fun G Q hQ hN=>?_
 try dsimp only
 refine aU bT 2 U<|dV U fun D=>dV U fun E=>AL U dD fun F=>aq aj 4 ?_;refine cT bX [9] [] [] [1,2,3,4,5,6,7] [] U U U U U<|eS U (FA 2 U eB U)<|eS U (LP (aa.cells d.Time) 0 U bP U U U)<|eS U (FA 2 U eB U)<|eS U (LP (aa.cells d.Time) 0 U bP U U U)<|eS U (CL (IS d.Time) (aA) U)<|eS U (MV U)<|ur (t:=11) U (fun A=>?_) (fun A=>?_);rotate_left 1
 ·replace A:=DF A;refine eS U (OX U)<|eS U (OX U)<|eS U (PK U)<|eS U (AG U)<|dL U<|bR U fun T8 C=>eM U cK U<|bG (C _ _ (aB [1,2,3,4,5,6,7]) ?_);refine eI U<|aq jC 2 ?_;refine mP hQ [0] (mc 0 U mn) U ?_;clear hQ hN C T8;refine c7 (fun z=>Value.tuple #[_,vB z]) ?_
  first|rfl|(simp_all;done)
 replace A:=DT A;refine eS U (LW 0 U bP U U)<|eS U (CL (MQ d sgA sgC) (aP [6]) U)<|eS U (PK U)<|eS U (AG U)<|dL U<|bR U fun T7 B=>eM U cK U<|bG (B _ _ (aB [1,2,3,4,5,6,7]) ?_);refine eI U<|aq jC 2 ?_;refine mP hQ [0] (mc 0 U mn) U ?_;clear hQ hN B T7;refine c7 (fun z=>Value.tuple #[_,vB z]) ?_
 first|rfl|(simp_all;done)
theorem Ra (hin:dX l az) (hsl:d.bp.ab.length≤1000000):
 dh Tryz.prog 304 [(vA (bV.cells (kO l kA kC cA cC bA bC))),(vA (aO.cells (aO.mk d.Out d.cZ d.Time (jP d.bp sgA sgC))))] ((rr l kA az cA bA)++[(ke sgA d.bp.ab)]) (vT [(vA (aa.cells (F0 l d.bp))),(vB (decide (eT l d.bp l.b_=0∧d.Time=gP)))]):=by
 have H:=hin.sQ;have F:=hin.sR;have D:=hin.mE;have E:=hin.sP;have G:=hin.side;refine bj kr Tryz.func304 U U fun M Q hQ hN=>?_
 try dsimp only
 refine aU bT 2 U<|dV U fun AA=>dV U fun J=>AL U dD fun K=>dF aj 7 [] (mc 2 U mn) U<|rS (LP (dA.cells (jP d.bp sgA sgC)) 1 U bP U U U)<|rS (CL (Yd l kA kC az cA cC bA bC d.bp sgA sgC hin hsl) (aP [3,4,5,6,7]) U)<|aU aj 3 U<|AL U dD fun L=>eM U cK U<|aq aj 4 ?_;refine cT bX [9] [] [] [0,2,3,4,5,6,7,8] [] U U U U U<|eS U (LW 0 U bP U U)<|eS U (MV U)<|eS U (BI U ny)<|eS U (MV U)<|ur (t:=18) U (fun B=>?_) (fun B=>?_);rotate_left 1
 ·replace B:=DF B;refine eS U (OX U)<|eS U (OX U)<|eS U (OX U)<|eS U (OX U)<|eS U (PK U)<|eS U (AG U)<|dL U<|bR U fun T10 A=>o_ U cK U<|bG (A _ _ (aB [0,2,3,4,5,6,7,8]) ?_);refine eI U<|aq jC 2 ?_;refine mP hQ [0] (mc 1 U mn) U ?_;clear hQ hN A T10;refine c7 (fun z=>Value.tuple #[_,vB z]) ?_
  first|rfl|(simp_all [gP];done)
 replace B:=DT B;refine eS U (FA 2 U eB U)<|eS U (LP (aa.cells d.Time) 1 U bP U U U)<|eS U (SX (aW (xs:=[]) (cs:=(aa.cells (aa.mk 0 0))) U U (aV gQ U)) U U)<|eS U (BI U (wN _ _ d.Time (aa.mk 0 0)))<|eS U (PK U)<|eS U (AG U)<|dL U<|bR U fun T9 C=>o_ U cK U<|bG (C _ _ (aB [0,2,3,4,5,6,7,8]) ?_);refine eI U<|aq jC 2 ?_;refine mP hQ [0] (mc 1 U mn) U ?_;clear hQ hN C T9;refine c7 (fun z=>Value.tuple #[_,vB z]) ?_
 first|rfl|(simp_all [gP];done)
theorem K9 (g1:Nat):
 dh Tryz.prog 116 [(vA (oK.cells (oK.mk (Value.func (.func 298) [].toArray [].toArray) (Value.func (.func 299) [].toArray [].toArray)))),(vP g1)] [(ke sgA d.bp.ab),(cb g1 52 (aO.cells (aO.mk d.Out d.cZ d.Time (jP d.bp sgA sgC))))] (vB d.Out):=by
 refine bj kr Tryz.func116 U U fun B Q hQ hN=>?_
 try dsimp only
 refine aU bT 2 U<|dV U fun A=>dF aj 8 [0,1] (mc 0 U (mr 2 U mn)) U<|rS (CL (W5 d sgA sgC) (aP [1]) U)<|cr aj 4 hQ U U ?_;rfl
theorem Ki (g1:Nat):
 dh Tryz.prog 116 [(vA (oK.cells (oK.mk (Value.func (.func 301) [].toArray [].toArray) (Value.func (.func 302) [].toArray [].toArray)))),(vP g1)] [(ke sgA d.bp.ab),(cb g1 52 (aO.cells (aO.mk d.Out d.cZ d.Time (jP d.bp sgA sgC))))] (vB d.cZ):=by
 refine bj kr Tryz.func116 U U fun B Q hQ hN=>?_
 try dsimp only
 refine aU bT 2 U<|dV U fun A=>dF aj 8 [0,1] (mc 0 U (mr 2 U mn)) U<|rS (CL (Zp d sgA sgC) (aP [1]) U)<|cr aj 4 hQ U U ?_;rfl
theorem Ma (g1:Nat):
 dh Tryz.prog 116 [(vA (oK.cells (oK.mk (Value.func (.func 303) [].toArray [].toArray) (Value.func (.func 304) [].toArray [].toArray)))),(vP g1)] [(ke sgA d.bp.ab),(cb g1 52 (aO.cells (aO.mk d.Out d.cZ d.Time (jP d.bp sgA sgC))))] (vB true):=by
 refine bj kr Tryz.func116 U U fun B Q hQ hN=>?_
 try dsimp only
 refine aU bT 2 U<|dV U fun A=>dF aj 8 [0,1] (mc 0 U (mr 2 U mn)) U<|rS (CL (Zd d sgA sgC) (aP [1]) U)<|cr aj 4 hQ U U ?_;rfl
end
section
open Go.RowKit
theorem zt (d:ak) (sgA:OA) (sgC g1:Nat):
 dh Tryz.prog 115 [(vS hU 3 3),(Value.func (.func 116) [].toArray [(vP g1)].toArray)] [(rd hU 3 2 fX),(ke sgA d.bp.ab),(cb g1 52 (aO.cells (aO.mk d.Out d.cZ d.Time (jP d.bp sgA sgC))))] (vI (qp d)):=by
 refine bj kr Tryz.func115 U U fun F Q hQ hN=>?_
 try dsimp only
 refine aU bT 14 U<|iX 4<|eh fun R4 D=>aU bT 2 U<|rS (SX (cm (r:= .bool true) U U U hH) U U)<|aU aj 19 U<|rS (IA 0 U (av 0 U) Oo dc U I)<|rS (k8 0 0 (oK.cells (oK.mk (Value.func (.func 298) [].toArray [].toArray) (Value.func (.func 299) [].toArray [].toArray))) U bP (av 0 U) (show fX[0]? =some [(Value.func (.func 298) [].toArray [].toArray),(Value.func (.func 299) [].toArray [].toArray)] from U) U dc U U)<|rS (CL (K9 d sgA sgC g1) (aP [1,2]) U)<|aq aj 2 ?_;refine bY U (fun B=>?_) (fun B=>?_)
 ·refine cr aY 7 hQ U U ?_;clear hQ hN;refine cI ?_;simp [qp, *]
 refine aU aY 4 U<|rS (SX (cm (r:= .int .i64 1) U U U (jq ⟨dc,dc⟩)) U U)<|aU aj 2 U<|KK D<|eh fun R12 A=>aU bT 2 U<|rS (SX (cm (r:= .bool true) U U U hH) U U)<|aU aj 19 U<|rS (IA 1 U (av 0 U) Oo dc U I)<|rS (k8 1 0 (oK.cells (oK.mk (Value.func (.func 301) [].toArray [].toArray) (Value.func (.func 302) [].toArray [].toArray))) U bP (av 0 U) (show fX[1]? =some [(Value.func (.func 301) [].toArray [].toArray),(Value.func (.func 302) [].toArray [].toArray)] from U) U dc U U)<|rS (CL (Ki d sgA sgC g1) (aP [1,2]) U)<|aq aj 2 ?_;refine bY U (fun C=>?_) (fun C=>?_)
 ·refine cr aY 7 hQ U U ?_;clear hQ hN;refine cI ?_;simp [qp, *]
 refine aU aY 4 U<|rS (SX (cm (r:= .int .i64 2) U U U (jq ⟨dc,dc⟩)) U U)<|aU aj 2 U<|KK A<|eh fun R20 E=>aU bT 2 U<|rS (SX (cm (r:= .bool true) U U U hH) U U)<|aU aj 19 U<|rS (IA 2 U (av 0 U) Oo dc U I)<|rS (k8 2 0 (oK.cells (oK.mk (Value.func (.func 303) [].toArray [].toArray) (Value.func (.func 304) [].toArray [].toArray))) U bP (av 0 U) (show fX[2]? =some [(Value.func (.func 303) [].toArray [].toArray),(Value.func (.func 304) [].toArray [].toArray)] from U) U dc U U)<|rS (CL (Ma d sgA sgC g1) (aP [1,2]) U)<|cr aj 10 hQ U U ?_;clear hQ hN;refine cI ?_;simp [qp, *]
end
section
open Go.RowKit
variable (l:bf) (kA:OA) (kC:Nat) (az:List RA) (cA:OA) (cC:Nat) (bA:OA) (bC:Nat) (d:ak) (sgA:OA) (sgC:Nat)
theorem Xi (g1:Nat) (hk:d.Out=true):
 dh Tryz.prog 115 [(vS hU 3 3),(Value.func (.func 116) [].toArray [(vP g1)].toArray)] [(rd hU 3 2 fX),(ke sgA d.bp.ab),(cb g1 52 (aO.cells (aO.mk d.Out d.cZ d.Time (jP d.bp sgA sgC))))] (vI 0):=by
 have h:=zt d sgA sgC g1;have e:qp d=0:=by simp [qp,hk]
 rw [e] at h;exact h
theorem Ym (g1:Nat) (hk:d.Out=false∧d.cZ=true):
 dh Tryz.prog 115 [(vS hU 3 3),(Value.func (.func 116) [].toArray [(vP g1)].toArray)] [(rd hU 3 2 fX),(ke sgA d.bp.ab),(cb g1 52 (aO.cells (aO.mk d.Out d.cZ d.Time (jP d.bp sgA sgC))))] (vI 1):=by
 have h:=zt d sgA sgC g1;have e:qp d=1:=by simp [qp,hk]
 rw [e] at h;exact h
theorem YJ (g1:Nat) (hk:d.Out=false∧d.cZ=false):
 dh Tryz.prog 115 [(vS hU 3 3),(Value.func (.func 116) [].toArray [(vP g1)].toArray)] [(rd hU 3 2 fX),(ke sgA d.bp.ab),(cb g1 52 (aO.cells (aO.mk d.Out d.cZ d.Time (jP d.bp sgA sgC))))] (vI 2):=by
 have h:=zt d sgA sgC g1;have e:qp d=2:=by simp [qp,hk]
 rw [e] at h;exact h
theorem FI (hin:dX l az) (hsl:d.bp.ab.length≤1000000) (hk:d.Out=true):
 dh Tryz.prog 73 [(vA (bV.cells (kO l kA kC cA cC bA bC))),(vA (aO.cells (aO.mk d.Out d.cZ d.Time (jP d.bp sgA sgC))))] ((rd hU 3 2 fX)::((rr l kA az cA bA)++[(ke sgA d.bp.ab)])) (vT [(vA (aa.cells (gf l d))),(vB (decide (jl l d)))]):=by
 refine bj kr Tryz.func73 U U fun F Q hQ hN=>?_
 try dsimp only
 refine aU bT 2 U<|dV U fun D=>dV U fun A=>AL U dD fun E=>aU aj 5 U<|rS (SX (GZ U U Cd) U U)<|rS (FU U)<|rS (CL (Xi d sgA sgC A hk) (Sf 3 8 1 U U U U U U) U)<|aU aj 4 U<|cL bX 9 kr<|iQ 1 U<|dS (SX (GP (k:=0) U U U Cd U I) U U)<|dS (p9 ((0*2)+1) U (av 3 U) (e6 I dc) eB U)<|dS (gF 0 1 (Value.func (.func 299) [].toArray [].toArray) U bP (av 3 U) (show fX[0]? =some [(Value.func (.func 298) [].toArray [].toArray),(Value.func (.func 299) [].toArray [].toArray)] from U) U dc U)<|jY 2 [0,1] (mc 2 U (mc 1 U mn)) U<|dS (CL (Sm l kA kC az cA cC bA bC d sgA sgC hin) (aP [4,5,6,7,8]) U)<|iQ 2 U<|cy<|eM U cK U<|aq aj 4 ?_;refine mP hQ [0] (mc 0 U mn) U ?_;have B:=IM (l:=l) hk;have C:=s_ (l:=l) hk;simp only [B,C]
theorem F3 (hin:dX l az) (hsl:d.bp.ab.length≤1000000) (hk:d.Out=false∧d.cZ=true):
 dh Tryz.prog 73 [(vA (bV.cells (kO l kA kC cA cC bA bC))),(vA (aO.cells (aO.mk d.Out d.cZ d.Time (jP d.bp sgA sgC))))] ((rd hU 3 2 fX)::((rr l kA az cA bA)++[(ke sgA d.bp.ab)])) (vT [(vA (aa.cells (gf l d))),(vB (decide (jl l d)))]):=by
 refine bj kr Tryz.func73 U U fun F Q hQ hN=>?_
 try dsimp only
 refine aU bT 2 U<|dV U fun D=>dV U fun A=>AL U dD fun E=>aU aj 5 U<|rS (SX (GZ U U Cd) U U)<|rS (FU U)<|rS (CL (Ym d sgA sgC A hk) (Sf 3 8 1 U U U U U U) U)<|aU aj 4 U<|cL bX 9 kr<|iQ 1 U<|dS (SX (GP (k:=1) U U U Cd U I) U U)<|dS (p9 ((1*2)+1) U (av 3 U) (e6 I dc) eB U)<|dS (gF 1 1 (Value.func (.func 302) [].toArray [].toArray) U bP (av 3 U) (show fX[1]? =some [(Value.func (.func 301) [].toArray [].toArray),(Value.func (.func 302) [].toArray [].toArray)] from U) U dc U)<|jY 2 [0,1] (mc 2 U (mc 1 U mn)) U<|dS (CL (Ti l kA kC az cA cC bA bC d sgA sgC hin) (aP [4,5,6,7,8]) U)<|iQ 2 U<|cy<|eM U cK U<|aq aj 4 ?_;refine mP hQ [0] (mc 0 U mn) U ?_;have B:=Du (l:=l) hk;have C:=tS (l:=l) hk;simp only [B,C]
theorem El (hin:dX l az) (hsl:d.bp.ab.length≤1000000) (hk:d.Out=false∧d.cZ=false):
 dh Tryz.prog 73 [(vA (bV.cells (kO l kA kC cA cC bA bC))),(vA (aO.cells (aO.mk d.Out d.cZ d.Time (jP d.bp sgA sgC))))] ((rd hU 3 2 fX)::((rr l kA az cA bA)++[(ke sgA d.bp.ab)])) (vT [(vA (aa.cells (gf l d))),(vB (decide (jl l d)))]):=by
 refine bj kr Tryz.func73 U U fun F Q hQ hN=>?_
 try dsimp only
 refine aU bT 2 U<|dV U fun D=>dV U fun A=>AL U dD fun E=>aU aj 5 U<|rS (SX (GZ U U Cd) U U)<|rS (FU U)<|rS (CL (YJ d sgA sgC A hk) (Sf 3 8 1 U U U U U U) U)<|aU aj 4 U<|cL bX 9 kr<|iQ 1 U<|dS (SX (GP (k:=2) U U U Cd U I) U U)<|dS (p9 ((2*2)+1) U (av 3 U) (e6 I dc) eB U)<|dS (gF 2 1 (Value.func (.func 304) [].toArray [].toArray) U bP (av 3 U) (show fX[2]? =some [(Value.func (.func 303) [].toArray [].toArray),(Value.func (.func 304) [].toArray [].toArray)] from U) U dc U)<|jY 2 [0,1] (mc 2 U (mc 1 U mn)) U<|dS (CL (Ra l kA kC az cA cC bA bC d sgA sgC hin hsl) (aP [4,5,6,7,8]) U)<|iQ 2 U<|cy<|eM U cK U<|aq aj 4 ?_;refine mP hQ [0] (mc 0 U mn) U ?_;have B:=Jc (l:=l) hk;have C:=AV (l:=l) hk;simp only [B,C]
theorem H2 (hin:dX l az) (hsl:d.bp.ab.length≤1000000):
 dh Tryz.prog 73 [(vA (bV.cells (kO l kA kC cA cC bA bC))),(vA (aO.cells (aO.mk d.Out d.cZ d.Time (jP d.bp sgA sgC))))] ((rd hU 3 2 fX)::((rr l kA az cA bA)++[(ke sgA d.bp.ab)])) (vT [(vA (aa.cells (gf l d))),(vB (decide (jl l d)))]):=by
 by_cases ho:d.Out=true
 ·exact FI l kA kC az cA cC bA bC d sgA sgC hin hsl ho
 by_cases hf:d.cZ=true
 ·exact F3 l kA kC az cA cC bA bC d sgA sgC hin hsl ⟨by simpa using ho,hf⟩
 ·exact El l kA kC az cA cC bA bC d sgA sgC hin hsl ⟨by simpa using ho,by simpa using hf⟩
end
section
open Go.RowKit
variable (r:cN) (kA:OA) (kC:Nat) (az:List RA) (cA:OA) (cC:Nat) (bA:OA) (bC:Nat) (slA:OA) (slC:Nat) (drA:OA) (drC:Nat) (ha:List cq) (heA:OA) (heC:Nat) (tz:List RA)
theorem OU (tA:OA) (tC:Nat) (ms:Value) (gw h:Nat) (gm g1 g2:Nat) (hin:gI r az ha) (htz:tz.length=r.ax.length) (hh:h<r.ax.length) (hok:lJ r (h+1)):
 IE Tryz.prog 117 [(vI (h:Int)),(vP g1),(vP g2)] ((DI r kA az cA bA slA drA ha heA)++[(rd tA ((dN r).length) 1 (zipWith MB (dN r) tz)),(iU (bB Ux (dN r) tz)),(cb gw 98 (hO.cells (hO.mk (pN r kA kC cA cC bA bC slA slC drA drC heA heC) (aX.mk tA ((dN r).length) tC) ms))),(cb g1 87 [(vP gw)]),(cb g2 95 [(Value.map (some gm))])]) (iu iV gm (bS e_ (eO r.ar r.ax r.a_.length h 0))) (fun (x:Unit)=>(vT [])) (fun (x:Unit)=>True) (fun (x:Unit)=>(iu iV gm (bS e_ (eO r.ar r.ax r.a_.length (h+1) 0)))):=by
 have e:=hin.line;have w:=hin.g_;have y:=hin.has;have o:=hin.g9;have m:=hin.draw;have p:=fG (r:=r);refine qq kr Tryz.func117 U U fun w0 Q hQ hN=>?_
 try dsimp only
 refine dF bT 3 [] (mr 12 U mn) U<|rS (SX (bO U U) U U)<|ck aj 3 [] (mr 11 U mn) ?_;obtain ⟨ht,B⟩:=ay r.ax h I;obtain ⟨A,C⟩:=ay ha h I;have AA:(zipWith di r.ax ha)[h]? =some (di ht A):=cE B C;have b:=hin.fE _ _ _ B C;have n:=b.mE;have L:=hok h ht I B;obtain ⟨tr,G⟩:=ay (dN r) h I;obtain ⟨tra,F⟩:=ay tz h I;have X:(zipWith MB (dN r) tz)[h]? =some (MB tr tra):=cE G F;refine rS (IA h U (av 9 U) Wl dc I I)<|rS (gF h 0 (vS tra.1 tr.length tra.2) U bP (av 9 U) X U dc U) ?_;have H:=KR B G;have s:tr.length=r.a_.length:=by rw [H,c3];exact L.1
 have q:=L.1;refine aq aj 5 ?_;have E:(0≤r.a_.length):=by exact c4 _
 refine bw (ι:={z:Nat // (z≤r.a_.length)}) [0,1,2,14,15] [1,2,3,4,5,6,7,8,9,10,11,12,13] U U (fun z=>[(16,(vI (z.1:Int)))]) (fun z=>[(iu iV gm (bS e_ (eO r.ar r.ax r.a_.length h z.1)))]) (fun _=>rfl) (fun _=>rfl) (fun z=>r.a_.length-z.1) ⟨0,E⟩ (aN U) (aB [1,2,3,4,5,6,7,8,9,10,11,12,13,0]) ?_;clear E;rintro ⟨i,c⟩ J2 J
 try dsimp only
 have V:i<r.a_.length→(eO r.ar r.ax r.a_.length h i).lookup (i:Int)=gL r.ar r.ax i h:=Qq;refine aq bT 6 ?_;refine bE U (aH fun v=>?_) (aG fun v=>?_)
 ·refine aU aY 1 U<|aq fz 1 ?_;rw [show (eO r.ar r.ax r.a_.length h i)=(eO r.ar r.ax r.a_.length (h+1) 0) from by rw [show i=r.a_.length by omega];exact SL];refine LM hN () 13 [] mn U U U U ?_;trivial
 refine aq aY 7 ?_;obtain ⟨x,hx⟩:=ay tr i I;have k:=bx aa.cells hx;refine rS (IA i U (show ig _ (rd tra.1 tr.length 2 (tr.map aa.cells)).holds from (ct 9 U (bq G F (by simp [Ux])))) iv dc I I)<|rS (k8 i 0 (aa.cells x) U bP (show ig _ (rd tra.1 tr.length 2 (tr.map aa.cells)).holds from (ct 9 U (bq G F (by simp [Ux])))) k U dc U U)<|AL U dD fun b8=>aU aj 1 U<|eM U cK U<|dF aj 6 [] (mr 13 U mn) U<|rS (SX (rQ (kV:=iV) (x:=(i:Int)) (l:=(eO r.ar r.ax r.a_.length h i)) (f:=e_) (z:=(aa.mk 0 0)) U U U rY (eE nZ) Lw (by exact av 14 U)) U U)<|aU aj 3 U<|AL U dD fun u=>eM U cK U<|dF aj 7 [] (mr 13 U mn) U<|rS (SX (bO U U) U U)<|dF aj 4 [] (mr 12 U mn) U<|rS (IA h U (av 8 U) my dc I I)<|rS (gF h 0 (vS A.1.1 ht.length A.1.2) U bP (av 8 U) AA U dc U)<|aq aj 1 ?_;obtain ⟨d,hd⟩:=ay ht i I;obtain ⟨da,Z⟩:=ay A.2 i I;have a:(zipWith ak.cells ht A.2)[i]? =some (ak.cells d da):=cE hd Z;refine rS (IA i U (show ig _ (rd A.1.1 ht.length 7 (zipWith ak.cells ht A.2)).holds from (ct 9 U (bq B C bZ))) rK dc I I)<|rS (p9 (i*7) U (show ig _ (rd A.1.1 ht.length 7 (zipWith ak.cells ht A.2)).holds from (ct 9 U (bq B C bZ))) (e6 I dc) eB U)<|rS (gF i 0 (vB d.Out) U bP (show ig _ (rd A.1.1 ht.length 7 (zipWith ak.cells ht A.2)).holds from (ct 9 U (bq B C bZ))) a U dc U)<|aq aj 1 ?_;refine bK (t:=39) U (fun AB=>?_) (fun AB=>?_)
 ·refine ck aj 10 [] (mr 14 U mn) ?_;have N:(cJ (eO r.ar r.ax r.a_.length h i) (i:Int))=(eO r.ar r.ax r.a_.length h (i+1)):=by exact Jm (by exact K7 B hd AB)
  refine pg (kV:=iV) (x:=(i:Int)) (C':=[_,_,_,_,_,_,_,_,_,_,_,_,_,_,_,(iu iV gm (bS e_ (eO r.ar r.ax r.a_.length h (i+1))))]) 15 U U U U rY (eE nZ) U ((mA _ _ _).symm.trans (c7 _ N)) U<|aq aj 8 ?_;have O:(vI (((i+1):Nat):Int))=(vI ((i:Int)+1)):=by exact cI I
  refine aL (J ⟨(i+1),(by first|omega|(simp only [];omega))⟩ _ _ _ U os (cx 5<|aQ U O<|cV.nil _) (aB [2,3,4,5,6,7,8,9,10,11,12,13,14,15]))
 refine aq aj 5 ?_;refine bY U (fun D=>?_) (fun D=>?_)
 ·rw [e0] at D;refine ck aY 4 [] (mr 14 U mn) ?_;have P:(cJ (eO r.ar r.ax r.a_.length h i) (i:Int))=(eO r.ar r.ax r.a_.length h (i+1)):=by exact Jm (by exact Hg ((V I).symm.trans (Option.not_isSome_iff_eq_none.1 (by rw [D];decide))))
  refine pg (kV:=iV) (x:=(i:Int)) (C':=[_,_,_,_,_,_,_,_,_,_,_,_,_,_,_,(iu iV gm (bS e_ (eO r.ar r.ax r.a_.length h (i+1))))]) 15 U U U U rY (eE nZ) U ((mA _ _ _).symm.trans (c7 _ P)) U<|aq aj 8 ?_;have R:(vI (((i+1):Nat):Int))=(vI ((i:Int)+1)):=by exact cI I
  refine aL (J ⟨(i+1),(by first|omega|(simp only [];omega))⟩ _ _ _ U os (cx 5<|aQ U R<|cV.nil _) (aB [2,3,4,5,6,7,8,9,10,11,12,13,14,15]))
 rw [m5] at D;refine aq aY 3 ?_;obtain ⟨M,W⟩:=ABZ.1 D;have K:gL r.ar r.ax i h=some M:=(V I).symm.trans W;have Y:=Wy H hx hd;have AC:=DO (fun j x hj hx=>hok j x I hx) I K;have g:=IF (L.2 d (aF hd));rw [← Y] at g;rw [show ((lookup (i:Int) (eO r.ar r.ax r.a_.length h i)).getD (aa.mk 0 0))=M from by rw [W];rfl];refine dF aj 6 [0,1,2] (mr 14 U (mc 0 U (mc 1 U mn))) U<|rS (BI U (sx I I I))<|dF aj 5 [0,1] (mc 0 U (mc 1 U mn)) U<|rS (BI U (sx I I I))<|aq aj 1 ?_;refine rS (SX (aW (xs:=[(0,.tmp 52),(1,.tmp 58)]) (cs:=(aa.cells (aa.mk (M.Lo+(x.Lo/10)) (M.Hi+(x.Hi/10))))) U U (aV gQ U)) U U) ?_;have S:(d_ (eO r.ar r.ax r.a_.length h i) (i:Int) (aa.mk (M.Lo+(x.Lo/10)) (M.Hi+(x.Hi/10))))=(eO r.ar r.ax r.a_.length h (i+1)):=by exact Rr I (by rw [K];rfl) (by rw [Y];exact Hz B hd (by rw [AB];decide) K)
 refine iN (kV:=iV) (x:=(i:Int)) (C':=[_,_,_,_,_,_,_,_,_,_,_,_,_,_,_,(iu iV gm (bS e_ (eO r.ar r.ax r.a_.length h (i+1))))]) 15 U U U U rY (eE nZ) U ((gH _ _ _ _).symm.trans (c7 _ S)) U<|aq aj 7 ?_;have T:(vI (((i+1):Nat):Int))=(vI ((i:Int)+1)):=by exact cI I
 refine aL (J ⟨(i+1),(by first|omega|(simp only [];omega))⟩ _ _ _ U os (cx 5<|aQ U T<|cV.nil _) (aB [2,3,4,5,6,7,8,9,10,11,12,13,14,15]))
theorem Zb (tA:OA) (tC:Nat) (ms:Value) (gw n:Nat) (hin:gI r az ha) (htz:tz.length=r.ax.length) (hn:n≤r.ax.length) (hok:lJ r n):
 ld Tryz.prog 74 [(vP gw),(vI (n:Int))] ((DI r kA az cA bA slA drA ha heA)++[(rd tA ((dN r).length) 1 (zipWith MB (dN r) tz)),(iU (bB Ux (dN r) tz)),(cb gw 98 (hO.cells (hO.mk (pN r kA kC cA cC bA bC slA slC drA drC heA heC) (aX.mk tA ((dN r).length) tC) ms)))]) (fun (x:Nat)=>(Value.map (some x))) (fun (x:Nat)=>True) (fun (x:Nat)=>[(iu iV x (bS e_ (pP r n)))]):=by
 have L:=hin.line;have T:=hin.g_;have AA:=hin.has;have N:=hin.g9;have M:=hin.draw;have O:=fG (r:=r);refine cU kr Tryz.func74 U U fun W Q hQ hN=>?_
 try dsimp only
 refine aU bT 2 U<|sK U U fun R=>aq aj 5 ?_;refine lv (kV:=iV) U U fun B=>?_
 try dsimp only
 refine AL U aaZ fun S=>IV U Su U U<|dF aj 6 [] (mc 2 U mn) U<|rS (SX (bO U U) U U)<|ck aj 8 [] (mr 13 U mn) ?_
 skip
 have A:(0≤r.a_.length):=by exact c4 _
 refine bw (ι:={z:Nat // (z≤r.a_.length)}) [1,2,5,15] [0,2,3,4,5,6,7,8,9,10,11,12,13] U U (fun z=>[(16,(vI (z.1:Int)))]) (fun z=>[(iu iV B (bS e_ (eO r.ar r.ax z.1 0 0)))]) (fun _=>rfl) (fun _=>rfl) (fun z=>r.a_.length-z.1) ⟨0,A⟩ (aN U) (aB [0,2,3,4,5,6,7,8,9,10,11,12,13,1]) ?_;clear A;rintro ⟨i,J⟩ J8 AB
 try dsimp only
 refine aq bT 6 ?_;refine bY U (aG fun G=>?_) (aH fun G=>?_)
 ·refine ck aY 13 [] (mc 0 U mn) ?_;refine rS (SX (aW (xs:=[]) (cs:=(aa.cells (aa.mk 0 0))) U U (aV gQ U)) U U) ?_;have D:(d_ (eO r.ar r.ax i 0 0) (i:Int) (aa.mk 0 0))=(eO r.ar r.ax (i+1) 0 0):=by exact SF
  refine iN (kV:=iV) (x:=(i:Int)) (C':=[_,_,_,_,_,_,_,_,_,_,_,_,_,(iu iV B (bS e_ (eO r.ar r.ax (i+1) 0 0)))]) 13 U U U U rY (eE nZ) U ((gH _ _ _ _).symm.trans (c7 _ D)) U<|aq aj 7 ?_;have E:(vI (((i+1):Nat):Int))=(vI ((i:Int)+1)):=by exact cI I
  refine aL (AB ⟨(i+1),(by first|omega|(simp only [];omega))⟩ _ _ _ U os (cx 4<|aQ U E<|cV.nil _) (aB [0,1,2,3,4,5,6,7,8,9,10,11,12,13]))
 refine aU aY 1 U<|aU fz 4 U<|rS (FU U)<|aq aj 11 ?_;rw [show (eO r.ar r.ax i 0 0)=(eO r.ar r.ax r.a_.length 0 0) from by rw [show i=r.a_.length by omega]];have A:(0≤n):=by exact c4 _
 refine bw (ι:={z:Nat // (z≤n)}) [2,5,7,24] [0,1,2,3,4,5,6,7,8,9,10,11,12] U U (fun z=>[(25,(vI (z.1:Int)))]) (fun z=>[(iu iV B (bS e_ (eO r.ar r.ax r.a_.length z.1 0)))]) (fun _=>rfl) (fun _=>rfl) (fun z=>n-z.1) ⟨0,A⟩ (aN U) (aB [0,1,2,3,4,5,6,7,8,9,10,11,12,13]) ?_;clear A;rintro ⟨h,K⟩ J19 C
 try dsimp only
 refine aq bT 6 ?_;refine bE U (aH fun H=>?_) (aG fun H=>?_)
 ·refine aU aY 1 U<|aq fz 3 ?_;rw [show (eO r.ar r.ax r.a_.length h 0)=(pP r n) from by rw [show h=n by omega];exact RF];refine ck aY 6 [] (mc 0 U mn) ?_;refine LX hQ B [13] [] mn U U U U ?_;trivial
 refine aq aY 13 ?_;refine kp 13 U U U U (OU r kA kC az cA cC bA bC slA slC drA drC ha heA heC tz tA tC ms gw h B R S hin htz I (by exact fun j x hj hx=>hok j x I hx)) U (ek 2 U U (dj (bM _)) (ek 3 U U (dj (bM _)) (ek 4 U U (dj (bM _)) (ek 5 U U (dj (bM _)) (ek 6 U U (dj (bM _)) (ek 7 U U (dj (bM _)) (ek 8 U U (dj (bM _)) (ek 9 U U (dj (bM _)) (ek 10 U U (dj (bM _)) (ek 11 U U (dj (bM _)) (ek 12 U U (dj (bM _)) (ek 1 U U (bM _) (ek 0 U U (bM _) mu))))))))))))) U (fun V P=>?_)
 try dsimp only
 refine aq aj 7 ?_;have F:(vI (((h+1):Nat):Int))=(vI ((h:Int)+1)):=by exact cI I
 refine aL (C ⟨(h+1),(by first|omega|(simp only [];omega))⟩ _ _ _ U os (cx 4<|aQ U F<|cV.nil _) (aB [0,1,2,3,4,5,6,7,8,9,10,11,12,13]))
end
section
open Go.RowKit
theorem uA (r:cN) (kA:OA) (kC:Nat) (az:List RA) (cA:OA) (cC:Nat) (bA:OA) (bC:Nat) (slA:OA) (slC:Nat) (drA:OA) (drC:Nat) (ha:List cq) (heA:OA) (heC:Nat) (hin:gI r az ha):
 ld Tryz.prog 32 [(vA (cf.cells (pN r kA kC cA cC bA bC slA slC drA drC heA heC)))] ((rd hU 3 2 fX)::(DI r kA az cA bA slA drA ha heA)) (fun (x:Bool×Int×Nat×Nat×(OA)×Nat×(List RA))=>bif x.1 then (vT [(Value.pointer (some ⟨x.2.2.1,0,none⟩)),(vI 0)]) else (vT [(Value.pointer none),(vI x.2.1)])) (fun (x:Bool×Int×Nat×Nat×(OA)×Nat×(List RA))=>(x.1=true→(eK r=0∧x.2.2.2.2.2.2.length=r.ax.length))∧(x.1=false→(x.2.1=eK r∧ ¬ eK r=0))) (fun (x:Bool×Int×Nat×Nat×(OA)×Nat×(List RA))=>bif x.1 then [(cb x.2.2.1 98 (hO.cells (hO.mk (pN r kA kC cA cC bA bC slA slC drA drC heA heC) (aX.mk x.2.2.2.2.1 ((dN r).length) x.2.2.2.2.2.1) (Value.map (some x.2.2.2.1))))),(own x.2.2.2.2.1 x.2.2.2.2.2.1 102 1 (zipWith MB (dN r) x.2.2.2.2.2.2)),(bD (bB HN (dN r) x.2.2.2.2.2.2)),(iu iV x.2.2.2.1 (bS e_ (bJ r)))] else []):=by
 have Bv:=hin.line;have Es:=hin.g_;have FS:=hin.has;have C2:=hin.g9;have C0:=hin.draw;have l:=fG (r:=r);refine cU kr Tryz.func32 U U fun w0 Q hQ hN=>?_
 try dsimp only
 refine aU bT 2 U<|dV U fun b2=>aU aj 8 U<|rS (LP (bV.cells (kO r.ar kA kC cA cC bA bC)) 0 U bP U U U)<|rS (CL (v_ r.ar kA kC az cA cC bA bC asm) (aP [2,3,4,5]) U)<|aq aj 9 ?_;refine bY U (aK fun B=>?_) (aJ fun B=>?_)
 ·refine aq aY 8 ?_;refine LX hQ (false,(dU r.ar),0,0,none,0,[]) [] [] mn U (by rfl) U U ?_;exact qY<|QG (Cq B) B
 refine ck aY 14 [] (mc 0 U mn) ?_;refine cX (Ez drA r.db.length drC) (aA) U fun s C3=>?_
 try dsimp only
 refine cX (Fy r.db drA drC s asm) (aP [8,0]) U fun Cx DA=>?_;obtain ⟨Di,Eq⟩:=Cx
 try dsimp only
 refine aq aj 7 ?_;refine dC (xs:=[.tmp 29]) (cs:=[(vI (r.a_.length:Int))]) U cO jU U U U U (by simp [Value.cells]) U U fun w=>?_;refine rS (CL (dh.eq (mX 1 5 ([(r.a_.length:Int)]) (some ⟨w,0,none⟩) 1 (by (simp;done))) cp) (aw (aM 0 U U (by simp [br]) U)<|aA) U) ?_;refine aq aj 2 ?_;refine bK (t:=33) U (aK fun A0=>?_) (aJ fun A0=>?_)
 ·refine aq aj 36 ?_;refine LX hQ (false,60,0,0,none,0,[]) [] [] mn U (by rfl) U U ?_;exact qY<|pM (l9 B (fun q:fq r=>by have o:=q.num;have q2:=q.Bt;have q3:=q.nh;have q4:=q.D0;omega))
 refine aq aj 6 ?_;refine bK (t:=39) U (aK fun A1=>?_) (aJ fun A1=>?_)
 ·refine aq aj 30 ?_;refine LX hQ (false,60,0,0,none,0,[]) [] [] mn U (by rfl) U U ?_;exact qY<|pM (l9 B (fun q:fq r=>by have o:=q.num;have q2:=q.Bt;have q3:=q.nh;have q4:=q.D0;omega))
 refine ck aj 2 [] (mc 3 U mn) ?_;refine dC (xs:=[.tmp 41]) (cs:=[(vI r.jz)]) U cO jU U U U U (by simp [Value.cells]) U U fun AC=>?_;refine rS (CL (dh.eq (mX 0 5 ([r.jz]) (some ⟨AC,0,none⟩) 1 (by (simp;done))) cp) (aw (aM 0 U U (by simp [br]) U)<|aA) U) ?_;refine aq aj 3 ?_;refine bK (t:=46) U (aK fun A2=>?_) (aJ fun A2=>?_)
 ·refine aq aj 23 ?_;refine LX hQ (false,60,0,0,none,0,[]) [] [] mn U (by rfl) U U ?_;exact qY<|pM (l9 B (fun q:fq r=>by have o:=q.num;have q2:=q.Bt;have q3:=q.nh;have q4:=q.D0;omega))
 refine ck aj 3 [] (mc 4 U mn) ?_;refine dC (xs:=[.tmp 49]) (cs:=[(vI (r.ax.length:Int))]) U cO jU U U U U (by simp [Value.cells]) U U fun AO=>?_;refine rS (CL (dh.eq (mX 1 3 ([(r.ax.length:Int)]) (some ⟨AO,0,none⟩) 1 (by (simp;done))) cp) (aw (aM 0 U U (by simp [br]) U)<|aA) U) ?_;refine aq aj 3 ?_;refine bK (t:=54) U (aK fun A3=>?_) (aJ fun A3=>?_)
 ·refine aq aj 15 ?_;refine LX hQ (false,60,0,0,none,0,[]) [] [] mn U (by rfl) U U ?_;exact qY<|pM (l9 B (fun q:fq r=>by have o:=q.num;have q2:=q.Bt;have q3:=q.nh;have q4:=q.D0;omega))
 refine dF aj 2 [] (mc 5 U mn) U<|rS (CL (mX 0 9999 r.a_ slA slC asm) (aP [11]) U)<|aq aj 4 ?_;refine bY U (fun M=>?_) (fun M=>?_)
 ·rw [e0] at M;refine aq aY 7 ?_;refine LX hQ (false,60,0,0,none,0,[]) [] [] mn U (by rfl) U U ?_;exact qY<|pM (l9 B (fun q:fq r=>by exact absurd (q.ins.symm.trans M) dc))
 rw [m5] at M;refine aq aY 5 ?_;have Fd:(eg r.db).length=r.a_.length:=by rw [iz];omega
 refine aq aj 5 ?_;have A:(0≤r.a_.length)∧(tW r 0):=by exact ⟨c4 _,H4⟩
 refine bw (ι:={z:Nat // (z≤r.a_.length)∧(tW r z)}) [1,5,6,60] [3,5,6,7,8,9,10,11,12,13,14] U U (fun z=>[(61,(vI (z.1:Int)))]) (fun z=>[]) (fun _=>rfl) (fun _=>rfl) (fun z=>r.a_.length-z.1) ⟨0,A⟩ (aN U) (aB [3,5,6,7,8,9,10,11,12,13,14]) ?_;clear A;rintro ⟨i,⟨BP,AB⟩⟩ J28 T
 try dsimp only
 refine aq bT 6 ?_;refine bY U (aG fun A5=>?_) (aH fun A5=>?_)
 ·refine aU aY 11 U<|cL bX 24 kr<|dP 2 [] mn ?_;obtain ⟨x,hx⟩:=ay (eg r.db) i I;have B3:=bx iC hx;refine dS (IA i U (ao (n:=r.db.length) 0 U sq) cO dc I I) ?_;refine dS (gF i 0 (vI x) U bP (ao (n:=(eg r.db).length) 0 U sm) B3 U dc U)<|dP 3 [] mn ?_;refine iI (t:=70) U (aK fun P=>?_) (aJ fun P=>?_)
  ·refine iQ 17 U<|cy<|aq aj 10 ?_;refine LX hQ (false,60,0,0,none,0,[]) [] [] mn U (by rfl) U U ?_;exact qY<|pM (l9 B (fun q:fq r=>by exact absurd (q.drawn hx) P))
  refine dP 3 [] mn ?_;refine iM (t:=73) U (aH fun A6=>?_) (aG fun A6=>?_)
  ·refine iQ 14 U<|cy<|aq aj 10 ?_;have Z:(vI (((i+1):Nat):Int))=(vI ((i:Int)+1)):=by exact cI I
   refine aL (T ⟨(i+1),⟨I,Ax AB hx P (fun u v hu hv hw=>by omega)⟩⟩ _ _ _ U os (cx 4<|aQ U Z<|cV.nil _) (aB [0,1,2,3,4,5,6,7,8,9,10]))
  refine dP 3 [] (mc 1 U mn) ?_;obtain ⟨y,hy⟩:=ay r.a_ i I;have B7:=bx iC hy;refine dS (IA i U (av 7 U) cO dc I I)<|dS (gF i 0 (vI y) U bP (av 7 U) B7 U dc U)<|dP 4 [] (mc 1 U mn) ?_;obtain ⟨z,hz⟩:=ay r.a_ (i-1) I;have B9:=bx iC hz;refine dS (IA (i-1) U (av 7 U) cO dc I I)<|dS (gF (i-1) 0 (vI z) U bP (av 7 U) B9 U dc U)<|iQ 3 U<|cy<|aq aj 2 ?_;refine bE U (aH fun A7=>?_) (aG fun A7=>?_)
  ·refine aq aY 7 ?_;have Y:(vI (((i+1):Nat):Int))=(vI ((i:Int)+1)):=by exact cI I
   refine aL (T ⟨(i+1),⟨I,Ax AB hx P (fun u v hu hv hw=>by (rw [hy] at hu;cases hu;rw [hz] at hw;cases hw;omega))⟩⟩ _ _ _ rfl os (cx 4<|aQ rfl Y<|cV.nil _) (aB [0,1,2,3,4,5,6,7,8,9,10]))
  refine aq aY 7 ?_;refine LX hQ (false,60,0,0,none,0,[]) [] [] mn U (by rfl) U U ?_;exact qY<|pM (l9 B (fun q:fq r=>by have o:=(q.ids i y hy).2 z I hz;omega))
 refine aU aY 1 U<|dF fz 5 [] (mc 1 U mn) U<|rS (SX (aW (xs:=[(0,.tmp 89)]) (cs:=(hO.cells (hO.mk (pN r kA kC cA cC bA bC slA slC drA drC heA heC) (aX.mk none 0 0) (Value.map none)))) U U (aV ZV U)) U U)<|dV U fun K=>ck aj 13 [] (mc 2 U mn) ?_;refine eC 102 1<|mo ?_;have A:(0≤r.ax.length)∧(([]:List RA).length=0)∧(lJ r 0):=by exact ⟨c4 _,rfl,AE⟩
 refine bw (ι:={z:Nat×(List RA)×(OA)×Nat // (z.1≤r.ax.length)∧(z.2.1.length=z.1)∧(lJ r z.1)}) [1,5,8,93,94] [3,4,5,6,7,8,9,10,11,12,13] U U (fun z=>[(95,(vI (z.1.1:Int)))]) (fun z=>[(bD (bB HN (ij r z.1.1) z.1.2.1)),(own z.1.2.2.1 z.1.2.2.2 102 1 (map sC (zipWith Ek (ij r z.1.1) z.1.2.1))),(cb K 98 (hO.cells (hO.mk (pN r kA kC cA cC bA bC slA slC drA drC heA heC) (aX.mk z.1.2.2.1 ((zipWith Ek (ij r z.1.1) z.1.2.1).length) z.1.2.2.2) (Value.map none))))]) (fun _=>rfl) (fun _=>rfl) (fun z=>r.ax.length-z.1.1) ⟨(0,([]:List RA),none,0),A⟩ (aN U) (aB [3,4,5,6,7,8,9,10,11,12,13,0,1,2]) ?_;clear A;rintro ⟨⟨h,tz,a,c⟩,⟨R,C,E⟩⟩ J42 W
 try dsimp only at R C E
 try dsimp only
 refine aq bT 6 ?_;refine bE U (aH fun A8=>?_) (aG fun A8=>?_)
 ·refine aU aY 1 U<|aq fz 3 ?_;have BD:ij r h=dN r:=by unfold dN;rw [show h=r.ax.length by omega]
  have m:tz.length=r.ax.length:=by omega
  rw [BD,BA,show (zipWith Ek (dN r) tz).length=(dN r).length from by rw [m4];omega];have AA:fq r:=Qx (n:=i) I I I I I M AB E I;refine ck aY 6 [] (mc 1 U mn) ?_;refine cX (Zb r kA kC az cA cC bA bC slA slC drA drC ha heA heC tz a c (Value.map none) K r.ax.length hin asm I (by exact AA.Iw)) (lZ [3,4,5,6,7,8,9,10]<|aw (ao (n:=(dN r).length) 12 U (zf (by rw [l];exact m)))<|aw (dQ 11 U Jz)<|gM 13 U U<|aA) U fun J DR=>?_
  try dsimp only
  refine rS (SX (bO U U) U U)<|aU aj 1 U<|im (vs:=[(Value.map (some J))]) (cs':=(hO.cells (hO.mk (pN r kA kC cA cC bA bC slA slC drA drC heA heC) (aX.mk a ((dN r).length) c) (Value.map (some J))))) (C':=[_,_,_,_,_,_,_,_,_,_,_,_,_,_,(cb K 98 (hO.cells (hO.mk (pN r kA kC cA cC bA bC slA slC drA drC heA heC) (aX.mk a ((dN r).length) c) (Value.map (some J)))))]) 14 U U U Su U U U U U U U<|aq aj 3 ?_;rw [show pP r r.ax.length=bJ r from rfl];refine aq aY 7 ?_;refine LX hQ (true,0,K,J,a,c,tz) [14,13,12,0] [] mn U (by (show List.all _ _=true;simp only [AAS,eX,om,DL,n4];rfl)) U U ?_;exact ⟨fun _=>⟨zG B AA,m⟩,QS⟩
 refine aq aY 6 ?_;obtain ⟨ht,D⟩:=ay r.ax h I;obtain ⟨G,H⟩:=ay ha h I;have k:(zipWith di r.ax ha)[h]? =some (di ht G):=cE D H;refine rS (IA h U (av 9 U) my dc I I)<|rS (gF h 0 (vS G.1.1 ht.length G.1.2) U bP (av 9 U) k U dc U)<|aq aj 6 ?_;have g:=hin.fE _ _ _ D H;have C1:=g.mE;refine aq aj 6 ?_;refine bY U (aK fun V=>?_) (aJ fun V=>?_)
 ·refine aq aY 7 ?_;refine LX hQ (false,60,0,0,none,0,[]) [] [] mn U (by rfl) U U ?_;exact qY<|pM (l9 B (fun q:fq r=>by have o:=(q.fE ht (aF D)).1;omega))
 refine aq aY 16 ?_;refine eC 38 2 ?_;have A:(0≤ht.length)∧(p6 r.ar ht 0):=by exact ⟨c4 _,yF⟩
 refine bw (ι:={z:Nat×(OA)×Nat // (z.1≤ht.length)∧(p6 r.ar ht z.1)}) [1,5,8,10,93,94,95,103,104] [1,2,3,4,5,6,7,8,9,10,11,12,13,14] U U (fun z=>[(11,(vS z.1.2.1 (((ht.take z.1.1).map (gf r.ar)).length) z.1.2.2)),(105,(vI (z.1.1:Int)))]) (fun z=>[(own z.1.2.1 z.1.2.2 38 2 (((ht.take z.1.1).map (gf r.ar)).map aa.cells))]) (fun _=>rfl) (fun _=>rfl) (fun z=>ht.length-z.1.1) ⟨(0,none,0),A⟩ (aN U) (aB [1,2,3,4,5,6,7,8,9,10,11,12,13,14,0]) ?_;clear A;rintro ⟨⟨j,la,lc⟩,⟨S,F⟩⟩ J53 X
 try dsimp only at S F
 try dsimp only
 refine aq bT 6 ?_;refine bE U (aH fun A4=>?_) (aG fun A4=>?_)
 ·refine aU aY 1 U<|aU fz 5 U<|rS (SX (bO U U) U U)<|ck aj 2 [] (mc 13 U mn) ?_;rw [show ((ht.take j).map (gf r.ar))=ht.map (gf r.ar) from by rw [c5 I]];refine aq aj 1 ?_;refine dC (xs:=[.tmp 128]) (cs:=[(vS la ((ht.map (gf r.ar)).length) lc)]) U Wl I9 U U U U (by simp [Value.cells]) U U fun EU=>?_;refine de (es2:=(map sC (zipWith Ek (ij r (h+1)) (tz++[(la,lc)])))) (m':=(zipWith Ek (ij r (h+1)) (tz++[(la,lc)])).length) 13 U U U YZ U U sm (aM (es:=map sC [(aX.mk la ((ht.map (gf r.ar)).length) lc)]) 0 U U (by simp [Cg]) U) (Nj _) (by rw [m4,ml I];omega) (by rw [m4,ml I];simp only [maxLen];omega) (by rw [wE D C,AAF];rfl) (by rw [wE D C];simp) U fun N O=>?_
  try dsimp only
  refine rS (SX (bO U U) U U)<|aU aj 1 U<|im (vs:=[(vS N ((zipWith Ek (ij r (h+1)) (tz++[(la,lc)])).length) O)]) (cs':=(hO.cells (hO.mk (pN r kA kC cA cC bA bC slA slC drA drC heA heC) (aX.mk N ((zipWith Ek (ij r (h+1)) (tz++[(la,lc)])).length) O) (Value.map none)))) (C':=[_,_,_,_,_,_,_,_,_,_,_,_,_,_,(cb K 98 (hO.cells (hO.mk (pN r kA kC cA cC bA bC slA slC drA drC heA heC) (aX.mk N ((zipWith Ek (ij r (h+1)) (tz++[(la,lc)])).length) O) (Value.map none)))),_]) 14 U U U aaE U U U U U U U<|aq aj 7 ?_;refine By (X':=bB HN (ij r (h+1)) (tz++[(la,lc)])) 12 15 U U (FD (a:=(la,lc)) D C) ?_;have e:(vI (((h+1):Nat):Int))=(vI ((h:Int)+1)):=by exact cI I
  refine aL (W ⟨((h+1),(tz++[(la,lc)]),N,O),⟨I,by simp;omega,AU E D (I6 I F I)⟩⟩ _ _ _ U os (cx 5<|aQ U e<|cV.nil _) (aB [2,3,4,5,6,7,8,9,10,11,12,0,13,14]))
 refine aq aY 6 ?_;obtain ⟨d,hd⟩:=ay ht j I;obtain ⟨da,f⟩:=ay G.2 j I;have A9:(zipWith ak.cells ht G.2)[j]? =some (ak.cells d da):=cE hd f;refine rS (IA j U (show ig _ (rd G.1.1 ht.length 7 (zipWith ak.cells ht G.2)).holds from (ct 10 U (bq D H bZ))) rK dc I I)<|rS (k8 j 0 (aO.cells (aO.mk d.Out d.cZ d.Time (dA.mk d.bp.Start d.bp.hP (aX.mk da.1 d.bp.ab.length da.2)))) U bP (show ig _ (rd G.1.1 ht.length 7 (zipWith ak.cells ht G.2)).holds from (ct 10 U (bq D H bZ))) A9 U dc U U)<|AL U Mq fun Dn=>eM U GD U<|aU aj 5 U<|rS (LP (bV.cells (kO r.ar kA kC cA cC bA bC)) 2 U bP U U U)<|ck aj 1 [] (mc 0 U mn) ?_;have Fn:=g.sig d (aF hd);refine rS (CL (H2 r.ar kA kC az cA cC bA bC d da.1 da.2 asm asm) (lZ [3,4,5,6,7]<|aw (show ig _ (rd da.1 d.bp.ab.length 2 (d.bp.ab.map aR.cells)).holds from (ct 11 U (bq D H (dk _ (bq hd f (by simp [ak.lf]))))))<|aA) U)<|aU aj 3 U<|AL U dD fun Do=>eM U cK U<|aq aj 10 ?_;refine bE U (aJ fun L=>?_) (aK fun L=>?_)
 ·refine ck aY 5 [] (mc 0 U mn) ?_;refine dC (xs:=[.tmp 119]) (cs:=(aa.cells (gf r.ar d))) U iv dD U U U U (by simp [Value.cells,aa.aD]) U U fun EQ=>?_;refine de (es2:=(map aa.cells ((ht.take (j+1)).map (gf r.ar)))) (m':=((ht.take (j+1)).map (gf r.ar)).length) 17 U U U CB U U sm (aM (es:=map aa.cells [(gf r.ar d)]) 0 U U (by simp [aa.aD]) U) (jE _) (by simp only [c3,k5];omega) (by simp only [maxLen,c3,k5];omega) (by rw [l1,hd];simp) sq U fun p Ap=>?_
  try dsimp only
  refine aq aj 8 ?_;have b:(vI (((j+1):Nat):Int))=(vI ((j:Int)+1)):=by exact cI I
  refine aL (X ⟨((j+1),p,Ap),⟨I,yw F hd L⟩⟩ _ _ _ U os (cx 10<|aQ U b<|cV.nil _) (aB [3,4,5,6,7,8,9,10,11,12,13,14,15,16,17]))
 refine aq aY 7 ?_;refine LX hQ (false,60,0,0,none,0,[]) [] [] mn U (by rfl) U U ?_;exact qY<|pM (l9 B (fun q:fq r=>by exact L ((q.fE ht (aF D)).2 d (aF hd))))
end
section
open Go.RowKit
theorem Pm (r:cN) (kA:OA) (kC:Nat) (az:List RA) (cA:OA) (cC:Nat) (bA:OA) (bC:Nat) (slA:OA) (slC:Nat) (drA:OA) (drC:Nat) (ha:List cq) (heA:OA) (heC:Nat) (tz:List RA) (tA:OA) (tC:Nat) (ms:Value) (gw:Nat) (l:List Int) (lA:OA) (lC:Nat) (hin:gI r az ha) (hlen:l.length≤1000000):
 dh Tryz.prog 75 [(vP gw),(vS lA l.length lC)] ((DI r kA az cA bA slA drA ha heA)++[(rd tA ((dN r).length) 1 (zipWith MB (dN r) tz)),(iU (bB Ux (dN r) tz)),(cb gw 98 (hO.cells (hO.mk (pN r kA kC cA cC bA bC slA slC drA drC heA heC) (aX.mk tA ((dN r).length) tC) ms))),(jx lA l)]) (vB (oJ 0 ((r.a_.length:Int)-1) l)):=by
 have A:=hin.line;have E:=hin.g_;have F:=hin.has;have C:=hin.g9;have B:=hin.draw;have D:=fG (r:=r);refine bj kr Tryz.func75 U U fun G Q hQ hN=>?_
 try dsimp only
 refine aU bT 8 U<|rS (SX (bO U U) U U)<|ck aj 6 [] (mr 10 U mn) ?_;refine rS (CL (mX 0 ((r.a_.length:Int)-1) l lA lC hlen) (aP [11]) U) ?_;exact cr aj 4 hQ U U U
end
section
open Go.RowKit
theorem HL (l:List Int) (lA:OA) (lC:Nat) (hlen:l.length=1):
 IE Tryz.prog 85 [(vS lA 1 lC)] [] (lX lA lC l) (fun (x:Unit)=>(vS lA 1 lC)) (fun (x:Unit)=>True) (fun (x:Unit)=>(lX lA lC l)):=by
 refine qq kr Tryz.func85 U U fun A Q hQ hN=>?_
 try dsimp only
 refine aU bT 10 U<|rS (SX (cm (r:= .bool true) U U U hH) U U)<|aq aj 10 ?_;refine LM hQ () 0 [] mn U U U U ?_;trivial
end
section
open Go.RowKit
theorem BE (r:cN) (kA:OA) (kC:Nat) (az:List RA) (cA:OA) (cC:Nat) (bA:OA) (bC:Nat) (slA:OA) (slC:Nat) (drA:OA) (drC:Nat) (ha:List cq) (heA:OA) (heC:Nat) (a:Int) (gq:Nat) (hin:gI r az ha):
 ld Tryz.prog 41 [(vA (cf.cells (pN r kA kC cA cC bA bC slA slC drA drC heA heC))),(vS (some ⟨gq,0,none⟩) 1 1)] ((rd hU 3 2 fX)::((DI r kA az cA bA slA drA ha heA)++[(cb gq 3 [(vI a)])])) (fun (x:Bool×Int×Nat×Nat×(OA)×Nat×(List RA)×(OA)×Nat)=>bif x.1 then (vT [(Value.pointer (some ⟨x.2.2.1,0,none⟩)),(vS x.2.2.2.2.2.2.2.1 1 x.2.2.2.2.2.2.2.2),(vI 0)]) else (vT [(Value.pointer none),(vS none 0 0),(vI x.2.1)])) (fun (x:Bool×Int×Nat×Nat×(OA)×Nat×(List RA)×(OA)×Nat)=>(x.1=true→(oE r a=0∧x.2.2.2.2.2.2.1.length=r.ax.length))∧(x.1=false→(x.2.1=oE r a∧ ¬ oE r a=0))) (fun (x:Bool×Int×Nat×Nat×(OA)×Nat×(List RA)×(OA)×Nat)=>bif x.1 then [(cb x.2.2.1 98 (hO.cells (hO.mk (pN r kA kC cA cC bA bC slA slC drA drC heA heC) (aX.mk x.2.2.2.2.1 ((dN r).length) x.2.2.2.2.2.1) (Value.map (some x.2.2.2.1))))),(own x.2.2.2.2.1 x.2.2.2.2.2.1 102 1 (zipWith MB (dN r) x.2.2.2.2.2.2.1)),(bD (bB HN (dN r) x.2.2.2.2.2.2.1)),(iu iV x.2.2.2.1 (bS e_ (bJ r))),(own x.2.2.2.2.2.2.2.1 x.2.2.2.2.2.2.2.2 38 2 ([(cd (bJ r) a)].map aa.cells))] else []):=by
 have AA:=hin.line;have h:=hin.g_;have j:=hin.has;have Y:=hin.g9;have X:=hin.draw;have AB:=fG (r:=r);refine cU kr Tryz.func41 U U fun p Q hQ hN=>?_
 try dsimp only
 refine aU bT 2 U<|dV U fun o=>ck aj 8 [] (mc 0 U mn) ?_;refine cX (uA r kA kC az cA cC bA bC slA slC drA drC ha heA heC hin) (aP [1,2,3,4,5,6,7,8,9]) U fun m K=>?_;obtain ⟨L,g,E,D,M,A,B⟩:=m;cases L
 ·obtain ⟨H,he⟩:=K.2 rfl
  try dsimp only at H he
  subst H
  try dsimp only [cond_true,cond_false,List.cons_append,List.nil_append]
  refine aq aj 14 ?_;refine bE U (aJ fun F=>?_) (aK fun F=>?_)
  ·exact absurd F he
  refine aq aY 9 ?_;refine LX hQ (false,(eK r),0,0,none,0,[],none,0) [] [] mn U (by rfl) U U ?_;exact qY<|QG (Ow (i:=a) he) he
 obtain ⟨he,J⟩:=K.1 rfl
 try dsimp only [cond_true,cond_false,List.cons_append,List.nil_append]
 refine aU aj 11 U<|rS (SX (cm (r:= .bool false) U U U nx) U U)<|aq aj 10 ?_;refine rS (CL (dh.eq (Pm r kA kC az cA cC bA bC slA slC drA drC ha heA heC B M A (Value.map (some D)) E ([a]) (some ⟨gq,0,none⟩) 1 hin (by (simp;done))) cp) (lZ [6,7,8,9,10,11,12,13]<|aw (ao (n:=(dN r).length) 1 U (zf (by rw [AB];exact J)))<|aw (dQ 2 U Jz)<|gM 0 U U<|aw (yG 14 U U (by simp [br]) U)<|aA) U) ?_;refine aq aj 2 ?_;refine bK (t:=26) U (aK fun T=>?_) (aJ fun T=>?_)
 ·refine aq aj 20 ?_;refine LX hQ (false,2,0,0,none,0,[],none,0) [] [] mn U (by rfl) U U ?_;exact qY<|pM (O_ (i:=a) he I)
 refine aq aj 1 ?_;refine cX (Ez (some ⟨gq,0,none⟩) 1 1) (aA) U fun P Z=>?_
 try dsimp only
 refine cX (Fy ([a]) (some ⟨gq,0,none⟩) 1 P (by (simp;done))) (aw (yG 15 U U (by simp [br]) U)<|gM 0 U U<|aA) U fun V b=>?_;obtain ⟨N,R⟩:=V
 try dsimp only
 try dsimp only
 refine kp 0 U U U U (HL (eg ([a])) N R (by (simp;done))) U mu U (fun k c=>?_)
 try dsimp only
 refine aU aj 3 U<|rS (SX (cm (r:= .bool false) U U U hH) U U)<|aU aj 20 U<|iX 2<|eh fun R33 G=>aU bT 2 U<|rS (SX (cm (r:= .bool true) U U U hH) U U)<|aU aj 10 U<|rS (IAB 0 0 U cO U dc U)<|dF aj 7 [] (mr 16 U mn) U<|rS (SX (bO U U) U U)<|dF aj 3 [] (mc 2 U mn) U<|rS (SX (rQ (kV:=iV) (x:=a) (l:=(bJ r)) (f:=e_) (z:=(aa.mk 0 0)) U U U rY (eE nZ) Lw (by exact av 5 U)) U U)<|aU aj 3 U<|AL U dD fun d=>eM U cK U<|aq aj 6 ?_;rw [show ((lookup a (bJ r)).getD (aa.mk 0 0))=(cd (bJ r) a) from rfl];refine aq aj 4 ?_;refine bY U (fun C=>?_) (fun C=>?_)
 ·rw [e0] at C;refine aq aY 8 ?_;refine LX hQ (false,6,0,0,none,0,[],none,0) [] [] mn U (by rfl) U U ?_;exact qY<|pM (KU (i:=a) he I asm)
 rw [m5] at C;refine ck aY 5 [] (mc 0 U mn) ?_;refine dC (xs:=[.tmp 54]) (cs:=(aa.cells (cd (bJ r) a))) U iv dD U U U U (by simp [Value.cells,aa.aD]) U U fun e=>fT 38 2<|de (es2:=(map aa.cells ([(cd (bJ r) a)]))) (m':=([(cd (bJ r) a)]).length) 0 U U U CB U U sm (aM (es:=map aa.cells [(cd (bJ r) a)]) 1 U U (by simp [aa.aD]) U) (jE _) sm (by simp [maxLen]) sm sm U fun O S=>?_
 try dsimp only
 refine aU aj 5 U<|rS (SX (cm (r:= .int .i64 1) U U U (jq ⟨dc,dc⟩)) U U)<|aU aj 2 U<|KK G<|eh fun R46 W=>aU bT 2 U<|rS (SX (cm (r:= .bool false) U U U hH) U U)<|aU aj 5 U<|aq fz 12 ?_;refine LX hQ (true,0,E,D,M,A,B,O,S) [5,6,7,8,0] [] mn U (by (show List.all _ _=true;simp only [AAS,eX,om,DL,n4];rfl)) U U ?_;exact ⟨fun _=>⟨RU he I asm,J⟩,QS⟩
end
section
open Go.RowKit
theorem O1 (m:sZ) (gm g1:Nat):
 GM Tryz.prog 121 [] [(vP g1)] [(iu iV gm (bS vB m)),(cb g1 134 [(Value.map (some gm))])] ([]:List Int) (fun ys x ys'=> ∃ n zs,(ys++[n]++zs).Perm (m.map (·.1))∧x=[vI n]∧ys'=ys++[n]) (fun ys=>ys.Perm (m.map (·.1))):=by
 refine vW kr Tryz.func121 U U fun l J Z A0 M Q hY K AA hQ hN=>?_
 try dsimp only
 refine ck bT 3 [] (mr 2 U mn) ?_;refine ku (kV:=iV) (m:=bS vB m) 1 U U pV U ⟨U,fun h=>h⟩ (by exact mV 1 U) U fun O=>?_
 try dsimp only
 refine aq aj 3 ?_;have G:(qk m m ([]:List Int))∧(∀ p∈m,p∈m)∧(J ([]:List Int) A0)∧(Fo A0 M A0):=by exact ⟨yH,fun p hp=>hp,K,AA⟩
 refine bw (ι:={z:sZ×(List Int)×au // (qk m z.1 z.2.1)∧(∀ p∈z.1,p∈m)∧(J z.2.1 z.2.2)∧(Fo A0 M z.2.2)}) [0,1,5] [2,3] U U (fun z=>[]) (fun z=>[(Bp iV O gm (bS vB m) (bS vB z.1.1) none),z.1.2.2]) (fun _=>rfl) (fun _=>rfl) (fun z=>z.1.1.length) ⟨(m,([]:List Int),A0),G⟩ (cV.nil _) (aB [2,3,0,1]) ?_;clear G;rintro ⟨⟨left,ys,A⟩,⟨B,H,C,D⟩⟩ J3 L
 try dsimp only at B H C D
 try dsimp only
 refine aq bT 2 ?_;refine jH (eE nZ).inj (f:=Value.bool) 2 U U U U (fun N=>?_) (fun x y hm hn=>?_)
 ·refine aU aj 6 U<|aq fz 1 ?_;refine hN _ _ _ (g4 (vs:=[]) trivial fun w hs=>KN 3 U (by rw [N] at B;exact AP B) C D hs)
 try dsimp only
 refine aU aj 10 U<|rS (SX (jK 2 U U U) U U)<|aq aj 8 ?_;refine l_ (k:=ys) (k':=(ys++[(x)])) 3 (by first|exact hsz|exact c9 _) hY C D U U U (by exact ⟨x,_,qj hn hm B,U,U⟩) U U (fun B9 F E=>?_) (fun B9 F E=>?_);rotate_left 1
 ·refine aq aj 5 ?_;refine hQ _ _ _ (g4 (vs:=[]) trivial fun w hs=>ti 3 U F E hs)
 refine aq aj 6 ?_;refine iH 2 U fZ U ?_;refine aL (L ⟨((cJ left x),(ys++[(x)]),B9),⟨qj hn hm B,gX H,F,E⟩⟩ _ _ _ U (e9 hm) (aN U) (aB [0,1,2,3]))
theorem Q4 (gm:Nat):
 ld Tryz.prog 82 [(Value.map (some gm))] [] (fun (x:Nat)=>(Value.func (.func 121) [].toArray [(vP x)].toArray)) (fun (x:Nat)=>True) (fun (x:Nat)=>[(cb x 134 [(Value.map (some gm))])]):=by
 refine cU kr Tryz.func82 U U fun B Q hQ hN=>?_
 try dsimp only
 refine aU bT 2 U<|sK U U fun A=>aU aj 5 U<|rS (FU U)<|aq aj 4 ?_;refine LX hQ A [0] [] mn U U U U ?_;trivial
end
section
open Go.RowKit
theorem Mt (m:sZ) (gm g1:Nat) (hlen:m.length≤12):
 ld Tryz.prog 118 [(vS none 0 0),(Value.func (.func 121) [].toArray [(vP g1)].toArray)] [(iu iV gm (bS vB m)),(cb g1 134 [(Value.map (some gm))])] (fun (x:(List Int)×(OA)×Nat)=>(vS x.2.1 x.1.length x.2.2)) (fun (x:(List Int)×(OA)×Nat)=>x.1.Perm (m.map (·.1))) (fun (x:(List Int)×(OA)×Nat)=>[(lX x.2.1 x.2.2 x.1)]):=by
 refine cU kr Tryz.func118 U U fun T Q hQ hN=>?_
 try dsimp only
 refine aU bT 2 U<|sK U U fun J=>aq aj 10 ?_;refine iw 1 U (by exact fun _ h=>h)<|iw 3 U (by exact fun _ h=>h)<|eC 3 1 ?_;refine o5 (L0:=[(2,(vP J))]) (F:=[(iu iV gm (bS vB m)).ro,(cb g1 134 [(Value.map (some gm))]).ro]) (fun k (y:(OA)×Nat)=>(∃ zs,(k++zs).Perm (m.map (·.1)))) (fun k y=>[(lX y.1 y.2 k),(cb J 29 [(vS y.1 k.length y.2)]),(iu iV gm (bS vB m)).ro]) (fun _ (_:Unit)=>False) (fun _ _=>[]) [0,3,4] [2,1] (none,0) rfl rfl (O1 m gm g1) rfl rfl rfl (by exact ⟨_,ABY _⟩) (by simp only [AAI,h_,AAs,AAv,ABC];exact ⟨⟨_,sm,(dj (bM _))⟩,⟨_,sm,(dj (bM _))⟩⟩) (by rintro k x O ⟨n,zs,_,rfl,_⟩;rfl) rfl (aN rfl) ?_ ?_ (fun _ _ _ h=>h.elim) (fun _ _ h=>h.elim);rotate_left 1
 ·rintro P k ⟨a,c⟩ D A;have B:=A
  try dsimp only at B
  try dsimp only
  refine ck jC 9 [] (mc 4 U mn) ?_;refine hQ _ _ _ (nF 0 U U<|g4 (vs:=[(vS a k.length c)]) ⟨U,trivial⟩ fun w hs=>EM (k,a,c) [3] ?_ ?_ U U U hs)
  ·rfl
  ·first|exact D|exact hys
 rintro k x O ⟨a,c⟩ l ra rb S AA K5 Qr6 N hx E H C K L;obtain ⟨n,zs,hn,rfl,rfl⟩:=hx;have AB:=hn.length_eq;simp only [e4,c3,ABQ] at AB;have B:=E
 try dsimp only at B
 try dsimp only
 refine aq bT 3 ?_;refine aL (H _ _ ?_);refine ck bT 4 [] (mc 2 U mn) ?_;refine dC (xs:=[.tmp 9]) (cs:=[(vI n)]) U cO jU U U U U (by simp [Value.cells]) U U fun R=>?_;refine de (es2:=(map iC (k++[n]))) (m':=(k++[n]).length) 2 U U U pG U U sm (aM (es:=map iC [n]) 0 U U (by simp [br]) U) (j_ _) os (by simp only [maxLen];omega) sm sm U fun M G=>?_
 try dsimp only
 refine ZJ U wk U U<|aq aj 2 ?_;exact C (M,G) _ _ (by exact ⟨_,hn⟩) (aB [1,2,3,4])
end
section
open Go.RowKit
theorem Hw (m:sZ) (gm g1:Nat) (hlen:m.length≤12):
 ld Tryz.prog 78 [(Value.func (.func 121) [].toArray [(vP g1)].toArray)] [(iu iV gm (bS vB m)),(cb g1 134 [(Value.map (some gm))])] (fun (x:(List Int)×(OA)×Nat)=>(vS x.2.1 x.1.length x.2.2)) (fun (x:(List Int)×(OA)×Nat)=>x.1.Perm (m.map (·.1))) (fun (x:(List Int)×(OA)×Nat)=>[(lX x.2.1 x.2.2 x.1)]):=by
 refine cU kr Tryz.func78 U U fun G Q hQ hN=>?_
 try dsimp only
 refine aq bT 8 ?_;refine cX (Mt m gm g1 hlen) (aP [0,1]) U fun F A=>?_;obtain ⟨C,D,E⟩:=F
 try dsimp only
 have B:=A;refine aq aj 4 ?_;refine LX hQ (C,D,E) [0] [] mn U U U U ?_
 first|exact hfin|exact B
theorem Kg (m:sZ) (gm g1:Nat) (hlen:m.length≤12):
 ld Tryz.prog 34 [(Value.func (.func 121) [].toArray [(vP g1)].toArray)] [(iu iV gm (bS vB m)),(cb g1 134 [(Value.map (some gm))])] (fun (x:(OA)×Nat)=>(vS x.1 m.length x.2)) (fun (x:(OA)×Nat)=>True) (fun (x:(OA)×Nat)=>[(lX x.1 x.2 (eg (m.map (·.1))))]):=by
 refine cU kr Tryz.func34 U U fun AA Q hQ hN=>?_
 try dsimp only
 refine aq bT 8 ?_;refine cX (Hw m gm g1 hlen) (aP [0,1]) U fun H D=>?_;obtain ⟨E,F,G⟩:=H
 try dsimp only
 have C:=D;refine aq aj 6 ?_;have A:=C.length_eq;simp only [c3] at A;refine kp 0 U U U U (CX E F G I) U mu U (fun ms B=>?_)
 try dsimp only
 refine aq aj 4 ?_;obtain rfl:=tQ (B.1.trans C) B.2
 skip
 refine aq aj 5 ?_;refine LX hQ (F,G) [0] [] mn U U U ?_ ?_
 ·first|rfl|(rw [A];rfl)
 ·trivial
end
section
open Go.RowKit
theorem PX (m:sZ) (gm:Nat):
 ld Tryz.prog 80 [(Value.map (some gm))] [(iu iV gm (bS vB m))] (fun (x:Nat)=>(Value.map (some x))) (fun (x:Nat)=>True) (fun (x:Nat)=>[(iu iV x (bS vB m))]):=by
 refine cU aa0 Tryz.func80 U U fun B Q hQ hN=>?_
 try dsimp only
 refine aU bT 9 U<|rS (SX (cm (r:= .bool false) U U U (Wq pV)) U U)<|aq aj 8 ?_;refine rS (SX (SN U U pV) U U)<|OH (kV:=iV) (fn:=Tryz.f119) U U Tryz.func119 U U U kr (by exact mV 0 U) U fun A=>?_
 try dsimp only
 refine rS (SX (YR U U pV) U U)<|aq aj 4 ?_;refine LX hQ A [0] [] mn U U U U ?_;trivial
end
section
open Go.RowKit
theorem KW (r:cN) (kA:OA) (kC:Nat) (cA:OA) (cC:Nat) (bA:OA) (bC:Nat) (slA:OA) (slC:Nat) (drA:OA) (drC:Nat) (heA:OA) (heC:Nat) (tA:OA) (tN tC:Nat) (gs gw:Nat) (m:k9) (i:Int) (g1 g2:Nat) (hb: ∀ p∈m,0≤p.2.Lo∧p.2.Lo≤p.2.Hi∧p.2.Hi≤30000000):
 GM Tryz.prog 120 [] [(vP g1),(vP g2)] [(cb gw 98 (hO.cells (hO.mk (pN r kA kC cA cC bA bC slA slC drA drC heA heC) (aX.mk tA tN tC) (Value.map (some gs))))),(iu iV gs (bS e_ m)),(cb g1 87 [(vP gw)]),(cb g2 3 [(vI i)])] ([]:List Int) (fun ys x ys'=> ∃ n,n∈(oO m i (cd m i))∧x=[vI n]∧ys'=ys++[n]) (fun ys=> ∀ n,n∈ys↔n∈(oO m i (cd m i))):=by
 have Ck:=n9 (i:=i) hb;refine vW kr Tryz.func120 U U fun l J Z A0 w0 Q hY A1 Ap hQ hN=>?_
 try dsimp only
 refine aq bT 1 ?_;refine cT bX [6,7] [] [] [0,1,2,3,4] [] U U U U U<|eS U (ZI 3 U bP U)<|eS U (SX (bO U U) U U)<|eS U (FA 12 U eB U)<|eS U (Mz (Value.map (some gs)) 1 U bP U U)<|eS U (ZI 4 U bP U)<|eS U (SX (mF (kV:=iV) (x:=i) (l:=m) (f:=e_) (z:=(aa.mk 0 0)) U U U rY (eE nZ) Lw (by exact mV 2 U)) U U)<|dL U<|bR U fun T2 A2=>AL U dD fun b3=>bG (A2 _ _ (aB [1,2,3,4,5]) ?_);refine bR U fun T4 A3=>eM U cK U<|bG (A3 _ _ (aB [1,2,3,4,5]) ?_);refine eI U<|aq jC 4 ?_;rw [show ((lookup i m).getD (aa.mk 0 0))=(cd m i) from rfl];refine ck aj 3 [] (mc 0 U mn) ?_;refine l_ (k:=([]:List Int)) (k':=(([]:List Int)++[((cd m i).Lo)])) 1 (by first|exact hsz|exact c9 _) hY A1 Ap U U U (by exact ⟨_,bZ ..,U,U⟩) U U (fun B7 b a=>?_) (fun B7 b a=>?_);rotate_left 1
 ·refine aq aj 5 ?_;refine hQ _ _ _ (g4 (vs:=[]) trivial fun w hs=>ti 1 U b a hs)
 refine dF aj 9 [] (mr 4 U mn) U<|rS (SX (bO U U) U U)<|ck aj 2 [] (mr 2 U mn) ?_;refine ku (kV:=iV) (m:=bS e_ m) 3 U U rY U ⟨U,fun h=>h⟩ (by exact mV 3 U) U fun A5=>?_
 try dsimp only
 refine aq aj 3 ?_;have X:(BC m i (cd m i) m (([]:List Int)++[((cd m i).Lo)]))∧(∀ p∈m,p∈m)∧(J (([]:List Int)++[((cd m i).Lo)]) B7)∧(Fo A0 w0 B7):=by exact ⟨NZ,fun p hp=>hp,asm,asm⟩
 refine bw (ι:={z:k9×(List Int)×au // (BC m i (cd m i) z.1 z.2.1)∧(∀ p∈z.1,p∈m)∧(J z.2.1 z.2.2)∧(Fo A0 w0 z.2.2)}) [0,1,2,4,24] [1,3,4,5,6] U U (fun z=>[]) (fun z=>[(Bp iV A5 gs (bS e_ m) (bS e_ z.1.1) none),z.1.2.2]) (fun _=>rfl) (fun _=>rfl) (fun z=>z.1.1.length) ⟨(m,(([]:List Int)++[((cd m i).Lo)]),B7),X⟩ (cV.nil _) (aB [1,3,4,5,6,0,2]) ?_;clear X;rintro ⟨⟨left,ys,A⟩,⟨D,B,E,F⟩⟩ J12 G
 try dsimp only at D B E F
 try dsimp only
 refine aq bT 2 ?_;refine jH (eE nZ).inj (f:=e_) 5 U U U U (fun Y=>?_) (fun x y hm hn=>?_)
 ·refine aU aj 6 U<|aq fz 1 ?_;refine hN _ _ _ (g4 (vs:=[]) trivial fun w hs=>KN 6 U (by rw [Y] at D;exact Sl D) E F hs)
 try dsimp only
 refine aU aj 10 U<|rS (SX (jK 5 U U U) U U)<|aU aj 2 U<|AL U dD fun Ci=>aU aj 1 U<|eM U cK U<|aq aj 5 ?_;have A4:=hb _ (B _ hm);dsimp only at A4;refine dF aj 5 [] (mc 0 U mn) U<|rS (SX (aW (xs:=[(0,.tmp 32),(1,.tmp 35)]) (cs:=[(vI (y.Lo+1)),(vI (y.Hi+1))]) U U (aV XX U)) U U)<|aU aj 4 U<|iX 3<|eh fun R19 T=>aU bT 2 U<|rS (SX (cm (r:= .bool true) U U U hH) U U)<|aU aj 10 U<|rS (SX (uv (v:=(vI (y.Lo+1))) 0 U U U Il bP U dc U) U U)<|ck aj 9 [] (mr 5 U mn) ?_;refine cz (t:=43) U (aJ fun Y=>?_) (aK fun Y=>?_)
 ·refine aU aj 21 U<|rS (SX (cm (r:= .int .i64 1) U U U (jq ⟨dc,dc⟩)) U U)<|aU aj 2 U<|KK T<|eh fun R73 W=>aU bT 2 U<|rS (SX (cm (r:= .bool true) U U U hH) U U)<|aU aj 10 U<|rS (SX (uv (v:=(vI (y.Hi+1))) 1 U U U Il bP U dc U) U U)<|ck aj 9 [] (mr 5 U mn) ?_;refine cz (t:=43) U (aJ fun AC=>?_) (aK fun AC=>?_)
  ·refine aU aj 21 U<|rS (SX (cm (r:= .int .i64 2) U U U (jq ⟨dc,dc⟩)) U U)<|aU aj 2 U<|KK W<|eh fun R91 B3=>aU bT 2 U<|rS (SX (cm (r:= .bool false) U U U hH) U U)<|aU aj 5 U<|aq fz 2 ?_;refine iH 6 U fZ U ?_;refine aL (G ⟨((cJ left x),ys,A),⟨mZ hn hm B D (fun n C=>by first|exact C|(simp [C];done)) (fun n C=>by exact .inl C) (fun L n C K=>by simp only [bI,h_,AAr] at C;rcases C with rfl|rfl<;>first|(simp;done)|(exfalso;omega)),gX B,E,F⟩⟩ _ _ _ rfl (e9 hm) (aN rfl) (aB [1,2,3,4,5,6,7]))
  refine dF aj 5 [] (mc 1 U mn) U<|dC (xs:=[.tmp 48]) (cs:=[(vI (y.Hi+1))]) U cO jU U U U U (by simp [Value.cells]) U U fun g=>rS (CL (dh.eq (mX ((cd m i).Lo) ((cd m i).Hi) ([(y.Hi+1)]) (some ⟨g,0,none⟩) 1 I) cp) (aw (aM 0 U U (by simp [br]) U)<|aA) U)<|aq aj 2 ?_;refine cz (t:=52) U (aH fun AO=>?_) (aG fun AO=>?_)
  ·refine aU aj 12 U<|rS (SX (cm (r:= .int .i64 2) U U U (jq ⟨dc,dc⟩)) U U)<|aU aj 2 U<|KK W<|eh fun R88 Bv=>aU bT 2 U<|rS (SX (cm (r:= .bool false) U U U hH) U U)<|aU aj 5 U<|aq fz 2 ?_;refine iH 7 U fZ U ?_;refine aL (G ⟨((cJ left x),ys,A),⟨mZ hn hm B D (fun n C=>by first|exact C|(simp [C];done)) (fun n C=>by exact .inl C) (fun L n C K=>by simp only [bI,h_,AAr] at C;rcases C with rfl|rfl<;>first|(simp;done)|(exfalso;omega)),gX B,E,F⟩⟩ _ _ _ rfl (e9 hm) (aN rfl) (aB [2,3,4,5,6,7,8]))
  refine aq aj 2 ?_;refine l_ (k:=ys) (k':=(ys++[((y.Hi+1))])) 8 (by first|exact hsz|exact c9 _) hY E F U U U (by exact ⟨_,oR (B _ hm) dso (by first|exact .inl rfl|exact .inr U) I,U,U⟩) U U (fun B82 S O=>?_) (fun B82 S O=>?_);rotate_left 1
  ·refine aq aj 6 ?_;refine hQ _ _ _ (g4 (vs:=[]) trivial fun w hs=>ti 8 U S O hs)
  refine aU aj 9 U<|rS (SX (cm (r:= .int .i64 2) U U U (jq ⟨dc,dc⟩)) U U)<|aU aj 2 U<|KK W<|eh fun R85 Bt=>aU bT 2 U<|rS (SX (cm (r:= .bool false) U U U hH) U U)<|aU aj 5 U<|aq fz 2 ?_;refine iH 7 U fZ U ?_;refine aL (G ⟨((cJ left x),(ys++[((y.Hi+1))]),B82),⟨mZ hn hm B D (fun n C=>by first|exact C|(simp [C];done)) (fun n C=>by (simp only [dZ,bU] at C;rcases C with C|rfl<;>first|exact .inl C|exact .inr (oR (B _ hm) dso sm I))) (fun L n C K=>by simp only [bI,h_,AAr] at C;rcases C with rfl|rfl<;>first|(simp;done)|(exfalso;omega)),gX B,S,O⟩⟩ _ _ _ rfl (e9 hm) (aN rfl) (aB [2,3,4,5,6,7,8]))
 refine ck aj 5 [] (mc 1 U mn) ?_;refine dC (xs:=[.tmp 48]) (cs:=[(vI (y.Lo+1))]) U cO jU U U U U (by simp [Value.cells]) U U fun c=>?_;refine rS (CL (dh.eq (mX ((cd m i).Lo) ((cd m i).Hi) ([(y.Lo+1)]) (some ⟨c,0,none⟩) 1 (by (simp;done))) cp) (aw (aM 0 U U (by simp [br]) U)<|aA) U) ?_;refine aq aj 2 ?_;refine cz (t:=52) U (aH fun j=>?_) (aG fun j=>?_)
 ·refine aU aj 12 U<|rS (SX (cm (r:= .int .i64 1) U U U (jq ⟨dc,dc⟩)) U U)<|aU aj 2 U<|KK T<|eh fun R52 V=>aU bT 2 U<|rS (SX (cm (r:= .bool true) U U U hH) U U)<|aU aj 10 U<|rS (SX (uv (v:=(vI (y.Hi+1))) 1 U U U Il bP U dc U) U U)<|ck aj 9 [] (mr 6 U mn) ?_;refine cz (t:=43) U (aJ fun s=>?_) (aK fun s=>?_)
  ·refine aU aj 21 U<|rS (SX (cm (r:= .int .i64 2) U U U (jq ⟨dc,dc⟩)) U U)<|aU aj 2 U<|KK V<|eh fun R70 BP=>aU bT 2 U<|rS (SX (cm (r:= .bool false) U U U hH) U U)<|aU aj 5 U<|aq fz 2 ?_;refine iH 7 U fZ U ?_;refine aL (G ⟨((cJ left x),ys,A),⟨mZ hn hm B D (fun n C=>by first|exact C|(simp [C];done)) (fun n C=>by exact .inl C) (fun L n C K=>by simp only [bI,h_,AAr] at C;rcases C with rfl|rfl<;>first|(simp;done)|(exfalso;omega)),gX B,E,F⟩⟩ _ _ _ rfl (e9 hm) (aN rfl) (aB [2,3,4,5,6,7,8]))
  refine ck aj 5 [] (mc 2 U mn) ?_;refine dC (xs:=[.tmp 48]) (cs:=[(vI (y.Hi+1))]) U cO jU U U U U (by simp [Value.cells]) U U fun e=>?_;refine rS (CL (dh.eq (mX ((cd m i).Lo) ((cd m i).Hi) ([(y.Hi+1)]) (some ⟨e,0,none⟩) 1 (by (simp;done))) cp) (aw (aM 0 U U (by simp [br]) U)<|aA) U) ?_;refine aq aj 2 ?_;refine cz (t:=52) U (aH fun u=>?_) (aG fun u=>?_)
  ·refine aU aj 12 U<|rS (SX (cm (r:= .int .i64 2) U U U (jq ⟨dc,dc⟩)) U U)<|aU aj 2 U<|KK V<|eh fun R67 BD=>aU bT 2 U<|rS (SX (cm (r:= .bool false) U U U hH) U U)<|aU aj 5 U<|aq fz 2 ?_;refine iH 8 U fZ U ?_;refine aL (G ⟨((cJ left x),ys,A),⟨mZ hn hm B D (fun n C=>by first|exact C|(simp [C];done)) (fun n C=>by exact .inl C) (fun L n C K=>by simp only [bI,h_,AAr] at C;rcases C with rfl|rfl<;>first|(simp;done)|(exfalso;omega)),gX B,E,F⟩⟩ _ _ _ rfl (e9 hm) (aN rfl) (aB [3,4,5,6,7,8,9]))
  refine aq aj 2 ?_;refine l_ (k:=ys) (k':=(ys++[((y.Hi+1))])) 9 (by first|exact hsz|exact c9 _) hY E F U U U (by exact ⟨_,oR (B _ hm) dso (by first|exact .inl rfl|exact .inr U) I,U,U⟩) U U (fun B61 R N=>?_) (fun B61 R N=>?_);rotate_left 1
  ·refine aq aj 6 ?_;refine hQ _ _ _ (g4 (vs:=[]) trivial fun w hs=>ti 9 U R N hs)
  refine aU aj 9 U<|rS (SX (cm (r:= .int .i64 2) U U U (jq ⟨dc,dc⟩)) U U)<|aU aj 2 U<|KK V<|eh fun R64 A9=>aU bT 2 U<|rS (SX (cm (r:= .bool false) U U U hH) U U)<|aU aj 5 U<|aq fz 2 ?_;refine iH 8 U fZ U ?_;refine aL (G ⟨((cJ left x),(ys++[((y.Hi+1))]),B61),⟨mZ hn hm B D (fun n C=>by first|exact C|(simp [C];done)) (fun n C=>by (simp only [dZ,bU] at C;rcases C with C|rfl<;>first|exact .inl C|exact .inr (oR (B _ hm) dso sm I))) (fun L n C K=>by simp only [bI,h_,AAr] at C;rcases C with rfl|rfl<;>first|(simp;done)|(exfalso;omega)),gX B,R,N⟩⟩ _ _ _ rfl (e9 hm) (aN rfl) (aB [3,4,5,6,7,8,9]))
 refine aq aj 2 ?_;refine l_ (k:=ys) (k':=(ys++[((y.Lo+1))])) 8 (by first|exact hsz|exact c9 _) hY E F U U U (by exact ⟨_,oR (B _ hm) dso (by first|exact .inl rfl|exact .inr U) I,U,U⟩) U U (fun B28 AB H=>?_) (fun B28 AB H=>?_);rotate_left 1
 ·refine aq aj 6 ?_;refine hQ _ _ _ (g4 (vs:=[]) trivial fun w hs=>ti 8 U AB H hs)
 refine aU aj 9 U<|rS (SX (cm (r:= .int .i64 1) U U U (jq ⟨dc,dc⟩)) U U)<|aU aj 2 U<|KK T<|eh fun R31 AA=>aU bT 2 U<|rS (SX (cm (r:= .bool true) U U U hH) U U)<|aU aj 10 U<|rS (SX (uv (v:=(vI (y.Hi+1))) 1 U U U Il bP U dc U) U U)<|ck aj 9 [] (mr 6 U mn) ?_;refine cz (t:=43) U (aJ fun o=>?_) (aK fun o=>?_)
 ·refine aU aj 21 U<|rS (SX (cm (r:= .int .i64 2) U U U (jq ⟨dc,dc⟩)) U U)<|aU aj 2 U<|KK AA<|eh fun R49 A8=>aU bT 2 U<|rS (SX (cm (r:= .bool false) U U U hH) U U)<|aU aj 5 U<|aq fz 2 ?_;refine iH 7 U fZ U ?_;refine aL (G ⟨((cJ left x),(ys++[((y.Lo+1))]),B28),⟨mZ hn hm B D (fun n C=>by first|exact C|(simp [C];done)) (fun n C=>by (simp only [dZ,bU] at C;rcases C with C|rfl<;>first|exact .inl C|exact .inr (oR (B _ hm) dso sm I))) (fun L n C K=>by simp only [bI,h_,AAr] at C;rcases C with rfl|rfl<;>first|(simp;done)|(exfalso;omega)),gX B,AB,H⟩⟩ _ _ _ rfl (e9 hm) (aN rfl) (aB [2,3,4,5,6,7,8]))
 refine ck aj 5 [] (mc 2 U mn) ?_;refine dC (xs:=[.tmp 48]) (cs:=[(vI (y.Hi+1))]) U cO jU U U U U (by simp [Value.cells]) U U fun d=>?_;refine rS (CL (dh.eq (mX ((cd m i).Lo) ((cd m i).Hi) ([(y.Hi+1)]) (some ⟨d,0,none⟩) 1 (by (simp;done))) cp) (aw (aM 0 U U (by simp [br]) U)<|aA) U) ?_;refine aq aj 2 ?_;refine cz (t:=52) U (aH fun q=>?_) (aG fun q=>?_)
 ·refine aU aj 12 U<|rS (SX (cm (r:= .int .i64 2) U U U (jq ⟨dc,dc⟩)) U U)<|aU aj 2 U<|KK AA<|eh fun R46 A7=>aU bT 2 U<|rS (SX (cm (r:= .bool false) U U U hH) U U)<|aU aj 5 U<|aq fz 2 ?_;refine iH 8 U fZ U ?_;refine aL (G ⟨((cJ left x),(ys++[((y.Lo+1))]),B28),⟨mZ hn hm B D (fun n C=>by first|exact C|(simp [C];done)) (fun n C=>by (simp only [dZ,bU] at C;rcases C with C|rfl<;>first|exact .inl C|exact .inr (oR (B _ hm) dso sm I))) (fun L n C K=>by simp only [bI,h_,AAr] at C;rcases C with rfl|rfl<;>first|(simp;done)|(exfalso;omega)),gX B,AB,H⟩⟩ _ _ _ rfl (e9 hm) (aN rfl) (aB [3,4,5,6,7,8,9]))
 refine aq aj 2 ?_;refine l_ (k:=(ys++[((y.Lo+1))])) (k':=((ys++[((y.Lo+1))])++[((y.Hi+1))])) 9 (by first|exact hsz|exact c9 _) hY AB H U U U (by exact ⟨_,oR (B _ hm) dso (by first|exact .inl rfl|exact .inr U) I,U,U⟩) U U (fun B40 P M=>?_) (fun B40 P M=>?_);rotate_left 1
 ·refine aq aj 6 ?_;refine hQ _ _ _ (g4 (vs:=[]) trivial fun w hs=>ti 9 U P M hs)
 refine aU aj 9 U<|rS (SX (cm (r:= .int .i64 2) U U U (jq ⟨dc,dc⟩)) U U)<|aU aj 2 U<|KK AA<|eh fun R43 A6=>aU bT 2 U<|rS (SX (cm (r:= .bool false) U U U hH) U U)<|aU aj 5 U<|aq fz 2 ?_;refine iH 8 U fZ U ?_;refine aL (G ⟨((cJ left x),((ys++[((y.Lo+1))])++[((y.Hi+1))]),B40),⟨mZ hn hm B D (fun n C=>by first|exact C|(simp [C];done)) (fun n C=>by (simp only [dZ,bU] at C;rcases C with (C|rfl)|rfl<;>first|exact .inl C|exact .inr (oR (B _ hm) dso sm I))) (fun L n C K=>by simp only [bI,h_,AAr] at C;rcases C with rfl|rfl<;>first|(simp;done)|(exfalso;omega)),gX B,P,M⟩⟩ _ _ _ rfl (e9 hm) (aN rfl) (aB [3,4,5,6,7,8,9]))
theorem P6 (gw:Nat) (i:Int):
 ld Tryz.prog 81 [(vP gw),(vI i)] [] (fun (x:Nat×Nat)=>(Value.func (.func 120) [].toArray [(Value.pointer (some ⟨x.1,0,none⟩)),(Value.pointer (some ⟨x.2,0,none⟩))].toArray)) (fun (x:Nat×Nat)=>True) (fun (x:Nat×Nat)=>[(cb x.1 87 [(vP gw)]),(cb x.2 3 [(vI i)])]):=by
 refine cU kr Tryz.func81 U U fun C Q hQ hN=>?_
 try dsimp only
 refine aU bT 2 U<|sK U U fun A=>sK U U fun B=>aU aj 5 U<|rS (FU U)<|aq aj 4 ?_;refine LX hQ (A,B) [1,0] [] mn U U U U ?_;trivial
end
section
open Go.RowKit
theorem Dw (r:cN) (kA:OA) (kC:Nat) (cA:OA) (cC:Nat) (bA:OA) (bC:Nat) (slA:OA) (slC:Nat) (drA:OA) (drC:Nat) (heA:OA) (heC:Nat) (tA:OA) (tN tC:Nat) (gs gw:Nat) (m:k9) (i:Int) (hb: ∀ p∈m,0≤p.2.Lo∧p.2.Lo≤p.2.Hi∧p.2.Hi≤30000000) (hi:m.lookup i≠none) (hm12:m.length≤12):
 ld Tryz.prog 37 [(vP gw),(vI i)] [(cb gw 98 (hO.cells (hO.mk (pN r kA kC cA cC bA bC slA slC drA drC heA heC) (aX.mk tA tN tC) (Value.map (some gs))))),(iu iV gs (bS e_ m))] (fun (x:(OA)×Nat)=>(vS x.1 ((e7 m i (cd m i)).length) x.2)) (fun (x:(OA)×Nat)=>True) (fun (x:(OA)×Nat)=>[(own x.1 x.2 3 1 ((e7 m i (cd m i)).map iC))]):=by
 refine cU kr Tryz.func37 U U fun w0 Q hQ hN=>?_
 try dsimp only
 refine aU bT 2 U<|sK U U fun b2=>sK U U fun b3=>aq aj 5 ?_;refine lv (kV:=iV) U U fun AA=>?_
 try dsimp only
 refine AL U X0 fun b6=>IV U XV U U<|dF aj 6 [] (mc 3 U mn) U<|rS (SX (bO U U) U U)<|dF aj 2 [] (mr 4 U mn) U<|rS (SX (HC U U rY (by exact mV 5 U)) U U)<|aq aj 4 ?_;have A:(0≤m.length)∧(ki ([]:sZ) (fun u=>1≤u∧u≤(0:Int))):=by exact ⟨c4 _,QQ fun k=>by omega⟩
 refine bw (ι:={z:Nat×sZ // (z.1≤m.length)∧(ki z.2 (fun u=>1≤u∧u≤(z.1:Int)))}) [2,3,5,20] [0,2,3,4,5] U U (fun z=>[(21,(vI (z.1.1:Int)))]) (fun z=>[(iu iV AA (bS vB z.1.2))]) (fun _=>rfl) (fun _=>rfl) (fun z=>m.length-z.1.1) ⟨(0,([]:sZ)),A⟩ (aN U) (aB [0,2,3,4,5,1]) ?_;clear A;rintro ⟨⟨n,nv⟩,⟨d,K⟩⟩ J9 A6
 try dsimp only at d K
 try dsimp only
 refine aq bT 6 ?_;refine bY U (aG fun A3=>?_) (aH fun A3=>?_)
 ·refine dF aY 14 [] (mc 0 U mn) U<|iN (kV:=iV) (x:=((n:Int)+1)) (C':=[_,_,_,_,_,(iu iV AA (bS vB (d_ nv ((n:Int)+1) true)))]) 5 U U U U pV (eE nZ) U (gH _ _ _ _).symm U<|aq aj 7 ?_;have AO:(vI (((n+1):Nat):Int))=(vI ((n:Int)+1)):=by exact cI I
  refine aL (A6 ⟨((n+1),(d_ nv ((n:Int)+1) true)),⟨I,(ON K I).Bv fun k=>by omega⟩⟩ _ _ _ U os (cx 4<|aQ U AO<|cV.nil _) (aB [0,1,2,3,4,5]))
 refine aU aY 1 U<|ck fz 5 [] (mc 0 U mn) ?_;refine cX (PX nv AA) (aP [5]) U fun G C0=>?_
 try dsimp only
 refine ck aj 8 [0,1] (mc 3 U (mc 2 U mn)) ?_;refine cX (P6 gw i) (aA) U fun B7 C1=>?_;obtain ⟨W,X⟩:=B7
 try dsimp only
 refine aq aj 3 ?_;refine iw 6 U (by exact fun _ h=>h)<|iw 8 U (by exact fun _ h=>h) ?_;refine o5 (L0:=[(2,(vP b2)),(3,(vP b3)),(5,(vP b6)),(7,(Value.map (some G)))]) (F:=[(cb gw 98 (hO.cells (hO.mk (pN r kA kC cA cC bA bC slA slC drA drC heA heC) (aX.mk tA tN tC) (Value.map (some gs))))).ro,(iu iV gs (bS e_ m)).ro,(cb W 87 [(vP gw)]),(cb X 3 [(vI i)])]) (fun k (y:sZ)=>(ki y (x5 m i k))) (fun k y=>[(iu iV G (bS vB nv)),(cb b6 134 [(Value.map (some AA))]),(cb b3 3 [(vI i)]),(cb b2 87 [(vP gw)]),(cb gw 98 (hO.cells (hO.mk (pN r kA kC cA cC bA bC slA slC drA drC heA heC) (aX.mk tA tN tC) (Value.map (some gs))))).ro,(iu iV gs (bS e_ m)).ro,(iu iV AA (bS vB y))]) (fun _ (_:Unit)=>False) (fun _ _=>[]) [4,5,6,7,8,9,10] [1,0,2,3] nv rfl rfl (KW r kA kC cA cC bA bC slA slC drA drC heA heC tA tN tC gs gw m i W X (by exact hb)) rfl rfl rfl (by exact Ni (K.Bv fun k=>by omega)) (by simp only [AAI,h_,AAs,AAv,ABC];exact ⟨⟨_,sm,(dj (bM _))⟩,⟨_,sm,(dj (bM _))⟩,⟨_,sm,(bM _)⟩,⟨_,sm,(bM _)⟩⟩) (by rintro k x k2 ⟨n,_,rfl,_⟩;rfl) rfl (aN rfl) ?_ ?_ (fun _ _ _ h=>h.elim) (fun _ _ h=>h.elim);rotate_left 1
 ·rintro Eq k nw Ap c;have T:=c
  try dsimp only
  refine ck jC 6 [] (mc 6 U mn) ?_;refine yb 11 U U pV U U fun Bt=>?_
  try dsimp only
  refine aq aj 3 ?_;have A:(∀ p∈nw,p∈nw)∧(ki nv (fun u=>(1≤u∧u≤(m.length:Int))∧ ¬ (x5 m i k u∧u ∉ nw.map (·.1)))):=by exact ⟨fun p hp=>hp,K.Bv fun u=>⟨fun q=>⟨I,fun z=>z.2 ((T.2 u).2 z.1)⟩,fun q=>by omega⟩⟩
  refine bw (ι:={z:sZ×sZ // (∀ p∈z.1,p∈nw)∧(ki z.2 (fun u=>(1≤u∧u≤(m.length:Int))∧ ¬ (x5 m i k u∧u ∉ z.1.map (·.1))))}) [7,68] [0,1,2,9,10] U U (fun z=>[]) (fun z=>[(iu iV G (bS vB z.1.2)),(CS iV Bt AA (bS vB nw) (bS vB z.1.1) none)]) (fun _=>rfl) (fun _=>rfl) (fun z=>z.1.1.length) ⟨(nw,nv),A⟩ (cV.nil _) (aB [0,1,2,9,10,5,11]) ?_;clear A;rintro ⟨⟨left,rk⟩,⟨AB,J⟩⟩ J55 o
  try dsimp only at AB J
  try dsimp only
  refine aq bT 2 ?_;refine vg (eE nZ).inj (f:=Value.bool) 6 U U U U (fun A5=>?_) (fun u v A0 DR=>?_);rotate_left 1
  ·try dsimp only
   refine aU aj 10 U<|rS (SX (ve 6 U U U) U U)<|aU aj 7 U<|pg (kV:=iV) (x:=u) (C':=[_,_,_,_,_,(iu iV G (bS vB (cJ rk u))),_]) 5 U U U U pV (eE nZ) U (mA _ _ _).symm U<|aq aj 2 ?_;refine iH 6 U zR U ?_;refine aL (o ⟨((cJ left u),(cJ rk u)),⟨gX AB,Si AB T A0 J⟩⟩ _ _ _ U (e9 A0) (aN U) (aB [0,1,2,3,4,5,6]))
  refine aU aj 6 U<|aq fz 4 ?_;have A1:ki rk (fun u=>(1≤u∧u≤(m.length:Int))∧ ¬ x5 m i k u):=J.Bv fun u=>⟨fun q=>⟨q.1,fun z=>q.2 ⟨z,by rw [A5];simp⟩⟩,fun q=>⟨q.1,fun z=>q.2 z.1⟩⟩;have V:eg (rk.map (·.1))=(e7 m i (cd m i)):=GN hi Ap A1;have Dn:rk.length≤m.length:=PR A1 fun k q=>q.1;have A7:rk.length=(e7 m i (cd m i)).length:=by rw [← V];simp
  refine aq aj 1 ?_;refine cX (Q4 G) (aA) U fun A2 C2=>?_
  try dsimp only
  refine cX (Kg rk G A2 I) (aP [6,0]) U fun B9 C3=>?_;obtain ⟨e,g⟩:=B9
  try dsimp only
  rw [V];refine aq aj 4 ?_;refine hQ _ _ _ (nF 2 U U<|g4 (vs:=[(vS e rk.length g)]) ⟨U,trivial⟩ fun w hs=>EM (e,g) [0] ?_ ?_ U U U hs)
  ·(rw [← A7];rfl)
  ·trivial
 rintro k x k2 nw l ra rb S w1 K26 Qr27 EQ hx Z AC Y B3 Ci;obtain ⟨n,Di,rfl,rfl⟩:=hx;have T:=Z
 try dsimp only
 refine aq bT 3 ?_;refine aL (AC _ _ ?_);refine dF bT 11 [] (mc 4 U mn) U<|rS (SX (bO U U) U U)<|ck aj 2 [] (mr 5 U mn) ?_;refine ku (kV:=iV) (m:=bS e_ m) 6 U U rY U ⟨U,fun h=>h⟩ (by exact mV 6 U) U fun BP=>?_
 try dsimp only
 refine aq aj 3 ?_;have A:((1:Int)+(mU m i n:Int)=1+(mU m i n:Int))∧((1:Int)+(qo m i n:Int)=1+(qo m i n:Int))∧(∀ p∈m,p∈m)∧(1≤(1:Int)∧1≤(1:Int)):=by exact ⟨rfl,rfl,fun p hp=>hp,I⟩
 refine bw (ι:={z:k9×Int×Int // (z.2.1+(mU z.1 i n:Int)=1+(mU m i n:Int))∧(z.2.2+(qo z.1 i n:Int)=1+(qo m i n:Int))∧(∀ p∈z.1,p∈m)∧(1≤z.2.1∧1≤z.2.2)}) [2,3,5,7,8,38] [1,2,3,4,5,6,7,8] U U (fun z=>[(9,(vI z.1.2.1)),(10,(vI z.1.2.2))]) (fun z=>[(Bp iV BP gs (bS e_ m) (bS e_ z.1.1) none)]) (fun _=>rfl) (fun _=>rfl) (fun z=>z.1.1.length) ⟨(m,(1:Int),(1:Int)),A⟩ (aN U) (aB [1,2,3,4,5,6,7,8,0]) ?_;clear A;rintro ⟨⟨left,s,t⟩,⟨C,D,B,R⟩⟩ J33 L
 try dsimp only at C D B R
 try dsimp only
 have A8:=Ij (m:=m) (i:=i) (n:=n);have A9:=PI (m:=m) (i:=i) (n:=n);refine aq bT 2 ?_;refine jH (eE nZ).inj (f:=e_) 8 U U U U (fun P=>?_) (fun x y hm hn=>?_)
 ·refine aU aj 6 U<|aq fz 9 ?_;have A:(s≤s∧(s≤t+1∨s=s))∧(ki nw (fun u=>x5 m i k u∧ ¬ (s≤u∧u<s))):=by exact ⟨⟨wt _,.inr rfl⟩,T.Bv fun u=>⟨fun q=>⟨q,fun z=>by omega⟩,fun q=>q.1⟩⟩
  refine bw (ι:={z:Int×sZ // (s≤z.1∧(z.1≤t+1∨z.1=s))∧(ki z.2 (fun u=>x5 m i k u∧ ¬ (s≤u∧u<z.1)))}) [2,3,5,7,8,9,10] [0,1,2,3,4,5,6,8] U U (fun z=>[(13,(vI z.1.1))]) (fun z=>[(iu iV AA (bS vB z.1.2))]) (fun _=>rfl) (fun _=>rfl) (fun z=>(t+1-z.1.1).toNat) ⟨(s,nw),A⟩ (aN U) (aB [0,1,2,3,4,5,6,8,7]) ?_;clear A;rintro ⟨⟨q,n2⟩,⟨N,H⟩⟩ J37 j
  try dsimp only at N H
  try dsimp only
  have A8:=Ij (m:=m) (i:=i) (n:=n);have A9:=PI (m:=m) (i:=i) (n:=n);have Do:s=1+(mU m i n:Int):=by rw [P] at C;simp only [Cy] at C;omega
  have D0:t=1+(qo m i n:Int):=by rw [P] at D;simp only [E4] at D;omega
  refine aq bT 8 ?_;refine bE U (aH fun A4=>?_) (aG fun A4=>?_)
  ·refine aU aY 1 U<|aq fz 2 ?_;exact Y n2 _ _ (by exact P0 (a:=s) (b:=t) (by rw [P,Cy] at C;omega) (by rw [P,E4] at D;omega) (H.Bv fun u=>⟨fun z=>⟨z.1,fun w=>z.2 I⟩,fun z=>⟨z.1,fun w=>z.2 I⟩⟩)) (aB [0,1,2,3,4,5,6,8])
  refine dF aY 7 [] (mc 2 U mn) U<|pg (kV:=iV) (x:=q) (C':=[_,_,_,_,_,_,_,_,(iu iV AA (bS vB (cJ n2 q)))]) 8 U U U U pV (eE nZ) U (mA _ _ _).symm U<|aq aj 8 ?_;refine aL (j ⟨((q+1),(cJ n2 q)),⟨I,G8 N.1 H⟩⟩ _ _ _ U dso (aN U) (aB [0,1,2,3,4,5,6,7,8]))
 try dsimp only
 refine aU aj 10 U<|rS (SX (jK 8 U U U) U U)<|aU aj 2 U<|AL U dD fun DA=>aU aj 1 U<|eM U cK U<|ck aj 10 [] (mc 4 U mn) ?_;refine bY U (aG fun E=>?_) (aH fun E=>?_)
 ·refine aq aY 1 ?_;refine iH 9 U fZ U ?_;refine aL (L ⟨((cJ left x),s,t),(by refine ⟨?_,?_,gX B,?_⟩<;>dsimp only <;>first|omega|(rw [← Kf hn hm E];omega)|(rw [← O2 hn hm E];omega))⟩ _ _ _ U (e9 hm) (aN U) (aB [1,2,3,4,5,6,7,8,9]))
 refine ck aY 11 [] (mc 0 U mn) ?_;refine bE U (aH fun O=>?_) (aG fun O=>?_)
 ·refine ck aY 10 [] (mc 0 U mn) ?_;refine bE U (aH fun M=>?_) (aG fun M=>?_)
  ·refine aq aY 2 ?_;refine iH 9 U fZ U ?_;refine aL (L ⟨((cJ left x),s,t),(by refine ⟨?_,?_,gX B,?_⟩<;>dsimp only <;>first|omega|(have:=Fl hn hm E O;omega)|(have:=II hn hm E M;omega))⟩ _ _ _ U (e9 hm) (aN U) (aB [1,2,3,4,5,6,7,8,9]))
  refine aq aY 6 ?_;refine iH 9 U fZ U ?_;refine aL (L ⟨((cJ left x),s,(t+1)),(by refine ⟨?_,?_,gX B,?_⟩<;>dsimp only <;>first|omega|(have:=Fl hn hm E O;omega)|(have:=E8 hn hm E M;omega))⟩ _ _ _ U (e9 hm) (aN U) (aB [1,2,3,4,5,6,7,8,9]))
 refine ck aY 14 [] (mc 0 U mn) ?_;refine bE U (aH fun M=>?_) (aG fun M=>?_)
 ·refine aq aY 2 ?_;refine iH 9 U fZ U ?_;refine aL (L ⟨((cJ left x),(s+1),t),(by refine ⟨?_,?_,gX B,?_⟩<;>dsimp only <;>first|omega|(have:=BB hn hm E O;omega)|(have:=II hn hm E M;omega))⟩ _ _ _ U (e9 hm) (aN U) (aB [1,2,3,4,5,6,7,8,9]))
 refine aq aY 6 ?_;refine iH 9 U fZ U ?_;refine aL (L ⟨((cJ left x),(s+1),(t+1)),(by refine ⟨?_,?_,gX B,?_⟩<;>dsimp only <;>first|omega|(have:=BB hn hm E O;omega)|(have:=E8 hn hm E M;omega))⟩ _ _ _ U (e9 hm) (aN U) (aB [1,2,3,4,5,6,7,8,9]))
end
end Go.Proofs.YtgnlmfdknlbkkaaGreatDoor
