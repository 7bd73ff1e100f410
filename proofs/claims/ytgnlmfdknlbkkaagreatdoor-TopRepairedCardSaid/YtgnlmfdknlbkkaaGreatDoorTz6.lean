/-
 The statement topRepaired_said, part 6 of 9: B3, B5, B6, Rc1, Frozen, MarkD, Marks, Follow, OpenM, V2, V1, V4, V3, V5, V6, V8, Wh2, Rc2, Rc3, Rc4, Rs3, Rs4, Rs5, Rs6, Rs7, RkB, RaB, RtB, Rp0, Rp1, Rp2.
 Conditions: none.
-/
import Derived.Test.YtgnlmfdknlbkkaaGreatDoorTz1
import Derived.Test.YtgnlmfdknlbkkaaGreatDoorTz2
import Derived.Test.YtgnlmfdknlbkkaaGreatDoorTz3
import Derived.Test.YtgnlmfdknlbkkaaGreatDoorTz4
import Derived.Test.YtgnlmfdknlbkkaaGreatDoorTz5
open List (lookup map mem_of_getElem? range replicate zipWith)
namespace Go.Proofs.YtgnlmfdknlbkkaaGreatDoor
set_option maxRecDepth 100000
set_option maxHeartbeats 4000000
set_option linter.unusedVariables false
variable {A M α:Type} {E:fM} {c:Code} {Q:dk} {D:iF} {L:dH} {C C0 C1:List ar} {X:ar} {w w0:World} {K:Act→World→Prop} {S:BS} {k g i j:Nat} {fn:Func} {R:Ending→World→Prop} {rs bl fb:List Nat} {fs bs:List FM} {q:aI×Int} {t:aI} {v y:Int}
abbrev n4:= @Bool.and_true
abbrev om:= @List.all_nil
abbrev AAS:= @cond_true
abbrev AAy:= @List.map_replicate
abbrev ABR:= @List.length_replicate
abbrev ACT:= @Int.natCast_eq_zero
section
open Go.RowKit
theorem KC (i:Int) (s:cY) (ts:List ai) (tsA:OA) (tsC g1:Nat) (hst: ∀ x∈ts,bV x) (hlen:ts.length≤12):
 de Tryz.prog 219 [(vI i),(vA (cY.cells s)),(vP g1)] [(gQ tsA ts),(cb g1 273 (eQ.cells (eQ.mk (aY.mk (aV.mk tsA ts.length tsC)))))] (vB (!(decide (gr ts s)))):=by
 refine bg kr Tryz.func219 U U fun G Q hQ hN=>?_
 try dsimp only
 refine aS bS 2 U<|dV U fun E=>aq aj 4 ?_;refine mh bX [0,1,2,3,4,5,6] [7,8,9,10,11,12,13,14,15,16,17,18,19,20,21,22,23,24,25,26] [false,false,false,false,false,false,false] [] [(cb E 111 (cY.cells s)),(gQ tsA ts).ro,(cb g1 273 (eQ.cells (eQ.mk (aY.mk (aV.mk tsA ts.length tsC))))).ro] [] kr (aB [0,1,2]) (aB [])<|eS U (FA 0 U eB U)<|eS U (FA 0 U eB U)<|eS U (MO (vS tsA ts.length tsC) 2 U bP U U)<|eS U (LN U VN)<|eS U (BI U (wK ⟨I,I⟩))<|eS U (FA 0 U eB U)<|eS U (L1 (vI s.bk) 0 U bP U U)<|dI U<|N1 7<|NO U U [8,9,10,11,12,13,14,15,16,17,18,19,20,21,22,23,24,25,26] fun T4 B=>dC (xs:=[.tmp 12]) (cs:=[(vI s.bk)]) U cM jW U U U U (by simp [Value.cells]) U U fun F=>RD B 1 U<|NH [14,15,16,17,18,19,20,21,22,23,24,25,26,27,28,29,30,31,5] kr kr U _ U U (aB [1,2,3]) ?_;refine dS (CL (de.eq (qV 0 ((ts.length:Int)-1) ([s.bk]) (some ⟨F,0,none⟩) 1 (by (simp;done))) cp) (aw (aM 0 U U (by simp [br]) U)<|aA) U) ?_;refine dP 2 [] mn ?_;refine iJ (t:=16) U (aJ fun A=>?_) (aK fun A=>?_)
 ·refine iR 9 U<|iR 7 U<|cy<|cr aj 3 hQ U U ?_
  (refine cB ?_;rw [bj (E7 I)];rfl)
 refine iR 1 U<|dS (LP (aa.cells s.mM) 1 U bP U U U)<|dP 5 [0,1] (mr 3 U (mc 1 U mn)) ?_;obtain ⟨x,hx⟩:=ax ts ((s.bk).toNat) I;have C:=bw ai.cells hx;refine dS (IA ((s.bk).toNat) U (au 2 U) vM dc I I)<|dS (pV ((((s.bk).toNat)*9)+1) U (au 2 U) (e6 I dc) eB U) ?_;have D:=(hst x (aF hx)).2.1;simp only [cO] at D;exact dS (pV ((((s.bk).toNat)*9)+1) U (au 2 U) (e6 I dc) eB U)<|dS (gG ((s.bk).toNat) 1 (vI x.jd.Lo) U bP (au 2 U) C U dc U)<|iR 1 U<|dS (CL (zl s.mM 0 (x.jd.Lo-1)) (aA) U)<|iR 3 U<|cy<|cr aj 3 hQ U U<|c7 (fun b=>vB (!b)) (iw.2 (Gp I hx).symm)
variable (ts:List ai) (tsA:OA) (tsC:Nat) (l:List cY) (lA:OA) (lC:Nat)
theorem GJ (f:Value) (p:Int→cY→Bool) (X:ar) (hf:∀ x0 x1,(∃ k:Nat,x0=(k:Int)∧l[k]? =some x1)→BH Tryz.prog f [.int .i64 x0,.agg (cY.cells x1).toArray] [X] (.bool (p x0 x1))) (hlen:l.length≤1000000):
 lf Tryz.prog 218 [(vS lA l.length lC),f] [(Ze lA l),X] (fun (x:(OA)×Nat)=>(vS x.1 ((NK (fun jj yy=>p (jj:Int) yy) l).length) x.2)) (fun (x:(OA)×Nat)=>True) (fun (x:(OA)×Nat)=>[(fB x.1 x.2 (NK (fun jj yy=>p (jj:Int) yy) l))]):=by
 refine cR kr Tryz.func218 U U fun L Q hQ hN=>?_
 try dsimp only
 refine aq bS 19 ?_;refine eC 3 1 ?_;have A:(0≤l.length):=by exact c4 _
 refine bu (ι:={z:Nat×(OA)×Nat // (z.1≤l.length)}) [0,1,8,9] [1,2] U U (fun z=>[(5,(vS z.1.2.1 ((vq (fun jj yy=>p (jj:Int) yy) l z.1.1).length) z.1.2.2)),(10,(vI (z.1.1:Int)))]) (fun z=>[(fB z.1.2.1 z.1.2.2 (vq (fun jj yy=>p (jj:Int) yy) l z.1.1))]) (fun _=>rfl) (fun _=>rfl) (fun z=>l.length-z.1.1) ⟨(0,none,0),A⟩ (aN U) (aB [1,2,0]) ?_;clear A;rintro ⟨⟨i,a,c⟩,B⟩ J5 C
 try dsimp only at B
 try dsimp only
 refine aq bS 6 ?_;refine bE U (aG fun K=>?_) (aH fun K=>?_)
 ·refine aS aW 1 U<|aq fD 4 ?_;rw [Sb (p:=fun (i:Nat) x=>p (i:Int) x) (show i=l.length by omega)];refine aq aj 5 ?_;refine LX hQ (a,c) [2] [] mn U U U U ?_;trivial
 refine aq aW 7 ?_;obtain ⟨x,hx⟩:=ax l i I;have H:=bw cY.cells hx;refine rS (IA i U (au 0 U) OD dc I I)<|rS (ld i 0 (cY.cells x) U bP (au 0 U) H U dc U U)<|AL U Iv fun AA=>aS aj 1 U<|eN U UL U<|dD aj 7 [] (mc 0 U mn) U<|rS (SX (pE U U U (hf (i:Int) x ⟨i,U,hx⟩) (aP [2])) U U)<|aq aj 2 ?_;refine bE U (fun hp=>?_) (fun hp=>?_)
 ·refine aq aW 4 ?_;rw [← Sw (p:=fun (i:Nat) x=>p (i:Int) x) hx hp];refine aq aj 3 ?_;have E:(vI (((i+1):Nat):Int))=(vI ((i:Int)+1)):=by exact cI I
  refine aL (C ⟨((i+1),a,c),(by first|omega|(simp only [];omega))⟩ _ _ _ U os (cx 5<|aQ U E<|cS.nil _) (aB [1,2,3]))
 refine aq aW 3 ?_;refine dC (xs:=[.tmp 20]) (cs:=[(vI (i:Int))]) U cM jW U U U U (by simp [Value.cells]) U U fun J=>?_;refine cZ (es2:=(map iC (vq (fun jj yy=>p (jj:Int) yy) l (i+1)))) (m':=(vq (fun jj yy=>p (jj:Int) yy) l (i+1)).length) 4 U U U pI U U sm (aM (es:=map iC [(i:Int)]) 0 U U (by simp [br]) U) (j4 _) (by have:=E3 (p:=fun (i:Nat) x=>p (i:Int) x) (l:=l) (n:=i);simp;omega) (by have:=E3 (p:=fun (i:Nat) x=>p (i:Int) x) (l:=l) (n:=i);simp only [maxLen];omega) (by rw [Qy hx hp];simp) sm U fun F G=>?_
 try dsimp only
 refine aq aj 8 ?_;have D:(vI (((i+1):Nat):Int))=(vI ((i:Int)+1)):=by exact cI I
 refine aL (C ⟨((i+1),F,G),(by first|omega|(simp only [];omega))⟩ _ _ _ U os (cx 5<|aQ U D<|cS.nil _) (aB [2,3,4]))
theorem F0 (hst:∀ x∈ts,bV x) (hlen:ts.length≤12) (hl:l.length≤4):
 de Tryz.prog 191 [(vA (eQ.cells (eQ.mk (aY.mk (aV.mk tsA ts.length tsC))))),(vS lA l.length lC)] [(gQ tsA ts),(Ze lA l)] (vB (decide (∀ s∈l,gr ts s))):=by
 refine bg kr Tryz.func191 U U fun H Q hQ hN=>?_
 try dsimp only
 refine aS bS 2 U<|dV U fun A=>aq aj 6 ?_;refine rS (FU U) ?_;refine cX (GJ l lA lC (Value.func (.func 219) [].toArray [(vP A)].toArray) (fun C B=>(!(decide (gr ts B)))) (iX [(gQ tsA ts),(cb A 273 (eQ.cells (eQ.mk (aY.mk (aV.mk tsA ts.length tsC)))))]) (by intro C B _;exact kU (fi:=[]) (ca:=[(vP A)]) (jP (KC C B ts tsA tsC A (by first|assumption|omega) (by first|assumption|omega)) (aP [0,1]))) I) (gN 2 U U<|aw (jH (aP [1,0]))<|aA) U fun E D=>?_;obtain ⟨F,G⟩:=E
 try dsimp only
 exact cr aj 6 hQ rfl rfl<|c7 Value.bool (decide_eq_decide.2 (by rw [show ∀ n:Nat,((n:Int)=0)↔n=0 from fun n=>by omega,K9];simp only [m5,r0];exact ⟨fun h s hs=>by obtain ⟨k,hk⟩:=s3 hs;exact h k s hk,fun h k s hk=>h s (mem_of_getElem? hk)⟩))
theorem Hz (z:aa) (hz:ni z):
 de Tryz.prog 194 [(vA (aa.cells z))] [] (vA (aa.cells (pX z))):=by
 unfold ni at hz;refine bg kr Tryz.func194 U U fun C Q hQ hN=>?_
 try dsimp only
 refine aS bS 2 U<|dV U fun A=>AL U dA fun B=>dD aj 6 [] (mc 1 U mn) U<|rS (NG U ⟨I,I⟩)<|dD aj 2 [] (mc 1 U mn) U<|rS (NG U ⟨I,I⟩)<|rS (SX (aU (xs:=[(0,.tmp 5),(1,.tmp 8)]) (cs:=(aa.cells (aa.mk (-z.Hi) (-z.Lo)))) U U (aT gP U)) U U)<|eN U cJ U<|aq aj 3 ?_;exact GG hQ [0] (mc 0 U mn) U U
theorem Yk (s:cY) (hlen:ts.length≤1000000) (hside:∀ x∈ts,0≤x.gp∧x.gp≤255):
 de Tryz.prog 149 [(vA (aY.cells (aY.mk (aV.mk tsA ts.length tsC)))),(vA (cY.cells s))] [(gQ tsA ts)] (vT [(vA (aa.cells (U4 ts s))),(vI (Jv ts s))]):=by
 refine bg kr Tryz.func149 U U fun O Q hQ hN=>?_
 try dsimp only
 refine aS bS 2 U<|dV U fun K=>dV U fun L=>AL U dA fun M=>dD aj 6 [] (mc 2 U mn) U<|rS (CL (JF ts tsA tsC hlen hside) (aP [3]) U)<|aS aj 3 U<|AL U Qw fun N=>eN U Nv U<|aq aj 10 ?_;refine bY U (aJ fun he=>?_) (aK fun he=>?_)
 ·refine aS aW 2 U<|rS (SX (aU (xs:=[]) (cs:=(aa.cells (aa.mk 0 0))) U U (aT gP U)) U U)<|aS aj 1 U<|o8 U cJ U<|aq aj 4 ?_;refine mU hQ [0] (mc 1 U mn) U ?_
  (have e:=Ny (s:=s) (Ce he).1;rw [e.1,e.2,(Ce he).2]<;>rfl)
 refine aq aW 5 ?_;have B:=Hq he;have C:=jK B;have G:=kv B;refine cm aj 2 [0,1] (mc 0 U (mc 2 U mn)) ?_;refine dC (xs:=[.tmp 20]) (cs:=(cY.cells s)) U OD Iv U U U U (by simp [Value.cells,cY.aC]) U U fun D=>?_;refine rS (CL (de.eq (F0 ts tsA tsC ([s]) (some ⟨D,0,none⟩) 1 asm asm (by (simp;done))) Hu) (gN 5 U U<|aw (aM 0 U U (by simp [cY.aC]) U)<|aA) U) ?_;refine aq aj 3 ?_;refine bY U (aJ fun A=>?_) (aK fun A=>?_)
 ·refine aS aW 2 U<|rS (SX (aU (xs:=[]) (cs:=(aa.cells (aa.mk 0 0))) U U (aT gP U)) U U)<|Ec U cJ U<|aq aj 4 ?_;refine mU hQ [0] (mc 2 U mn) U ?_
  (have e:=OC B A;rw [e.1,e.2]<;>rfl)
 refine aq aW 4 ?_;have J:=A.1;have F:=tS C A;refine dD aj 3 [0,1] (mc 1 U (mc 3 U mn)) U<|rS (CL (MW ts tsA tsC 0 s.bk asm asm I) (aP [5]) U)<|aS aj 3 U<|AL U dA fun H=>AL U dA fun AA=>o8 U cJ U<|eN U cJ U<|cm aj 6 [] (mc 1 U mn) ?_;refine rS (LP (aa.cells s.mM) 5 U bP U U U)<|dC (xs:=[.tmp 34]) (cs:=(aa.cells s.mM)) U iA dA U U U U (by simp [Value.cells,aa.aC]) U U fun E=>?_;refine rS (CL (de.eq (sw (eW ts (0:Int).toNat (s.bk-0).toNat) ([s.mM]) (some ⟨E,0,none⟩) 1 (by exact tW C I) (by intro z hz;simp only [bT] at hz;subst hz;exact F) sm) pq) (aw (aM 0 rfl rfl (by simp [aa.aC]) rfl)<|aA) rfl) ?_;refine MK U cJ U<|aq aj 4 ?_;refine mU hQ [0] (mc 5 U mn) U ?_
 (have e:=zV B A;rw [e.1,e.2];unfold Q4;rw [show (s.bk-0).toNat=s.bk.toNat by rw [Int.sub_zero]]<;>rfl)
theorem Rp (p:cY) (q:cY) (hlen:ts.length≤1000000) (hside:∀ x∈ts,0≤x.gp∧x.gp≤255):
 de Tryz.prog 150 [(vA (aY.cells (aY.mk (aV.mk tsA ts.length tsC)))),(vA (cY.cells p)),(vA (cY.cells q))] [(gQ tsA ts)] (vT [(vA (aa.cells (mq ts p q))),(vI (nA ts p q))]):=by
 refine bg kr Tryz.func150 U U fun g Q hQ hN=>?_
 try dsimp only
 refine aS bS 2 U<|dV U fun X=>dV U fun Y=>dV U fun Z=>AL U dA fun c=>dD aj 6 [] (mc 3 U mn) U<|rS (CL (JF ts tsA tsC hlen hside) (aP [4]) U)<|aS aj 3 U<|AL U Qw fun d=>eN U Nv U<|aq aj 10 ?_;refine bY U (aJ fun he=>?_) (aK fun he=>?_)
 ·refine aS aW 2 U<|rS (SX (aU (xs:=[]) (cs:=(aa.cells (aa.mk 0 0))) U U (aT gP U)) U U)<|aS aj 1 U<|o8 U cJ U<|aq aj 4 ?_;refine mU hQ [0] (mc 1 U mn) U ?_
  (have e:=xQ (a:=p) (b:=q) (Ce he).1;rw [e.1,e.2,(Ce he).2]<;>rfl)
 refine aq aW 5 ?_;have A:=Hq he;have E:=jK A;have S:=kv A;refine cm aj 3 [0,1,2] (mc 0 U (mc 3 U (mc 2 U mn))) ?_;refine dC (xs:=[.tmp 22,.tmp 23]) (cs:=((cY.cells p)++(cY.cells q))) U OD Iv U U U U (by simp [Value.cells,cY.aC]) U U fun N=>?_;refine rS (CL (de.eq (F0 ts tsA tsC ([p,q]) (some ⟨N,0,none⟩) 2 asm asm (by (simp;done))) Hw) (gN 6 U U<|aw (aM 0 U U (by simp [cY.aC]) U)<|aA) U) ?_;refine aq aj 3 ?_;refine bY U (aJ fun C=>?_) (aK fun C=>?_)
 ·refine aS aW 2 U<|rS (SX (aU (xs:=[]) (cs:=(aa.cells (aa.mk 0 0))) U U (aT gP U)) U U)<|Ec U cJ U<|aq aj 4 ?_;refine mU hQ [0] (mc 2 U mn) U ?_
  (have e:=qP A C;rw [e.1,e.2]<;>rfl)
 refine aq aW 4 ?_;obtain ⟨hp,hq⟩:=C;have V:=hp.1;have W:=hq.1;have R:=tS E hp;have M:=tS E hq;have L:=Dl R;have B:=tW E (f:=(min p.bk q.bk).toNat) (k:=(max p.bk q.bk-min p.bk q.bk).toNat) I;refine dD aj 5 [0,1,2] (mc 1 U (mc 4 U (mc 3 U mn))) U<|rS (MN U)<|dD aj 4 [0,1] (mc 4 U (mc 3 U mn)) U<|rS (MX U)<|rS (CL (MW ts tsA tsC (min p.bk q.bk) (max p.bk q.bk) asm asm I) (aP [6]) U)<|aS aj 3 U<|AL U dA fun T=>AL U dA fun AA=>o8 U cJ U<|eN U cJ U<|cm aj 12 [0,1] (mc 5 U (mc 6 U mn)) ?_;refine bE U (aG fun D=>?_) (aH fun D=>?_)
 ·refine aq aW 3 ?_;refine cP bX [6,7,8] [] [] [0,1,2,3,5,6,7,8] [] U U U U U<|eS U (LW 1 U bP U U)<|eS U (FA 1 U eB U)<|eS U (LP (aa.cells q.mM) 4 U bP U U U)<|eS U (FA 1 U eB U)<|eS U (LP (aa.cells p.mM) 5 U bP U U U)<|eS U (CL (Hz p.mM asm) (aA) U)<|eS U (AG U)<|dI U<|bQ U fun T26 AB=>dC (xs:=[.tmp 52,.tmp 55]) (cs:=((aa.cells q.mM)++(aa.cells (pX p.mM)))) U iA dA U U U U (by simp [Value.cells,aa.aC]) U U fun P=>bG (AB _ _ (aB [1,2,3,4,6,7,8,9]) ?_);refine bQ U fun T28 J=>?_;refine rS (CL (de.eq (sw (eW ts (min p.bk q.bk).toNat ((max p.bk q.bk)-(min p.bk q.bk)).toNat) ([q.mM,(pX p.mM)]) (some ⟨P,0,none⟩) 2 (by first|exact B|exact Dl B) (by intro z hz;simp only [bH,h_,AAr] at hz;rcases hz with rfl|rfl;exact M;exact L) sm) E1) (aw (aM 0 rfl rfl (by simp [aa.aC]) rfl)<|aA) rfl) ?_;refine bG (J _ _ (aB [1,2,3,4,6,7,8,9]) ?_);refine bQ U fun T29 K=>MK U cJ U<|bG (K _ _ (aB [1,2,3,4,6,7,8,9]) ?_);refine eJ U<|aq jE 2 ?_;refine mU hQ [0] (mc 5 U mn) U ?_
  (have e:=mW A ⟨hp,hq⟩;rw [e.1,e.2];unfold lu zF;rw [c1 D]<;>rfl)
 refine dD aW 2 [] (mc 1 U mn) U<|rS (CL (Hz (eW ts (min p.bk q.bk).toNat ((max p.bk q.bk)-(min p.bk q.bk)).toNat) asm) (aA) U)<|o8 U cJ U<|aq aj 3 ?_;refine cP bX [6,7,8] [] [] [0,1,2,3,5,6,7,8] [] U U U U U<|eS U (LW 1 U bP U U)<|eS U (FA 1 U eB U)<|eS U (LP (aa.cells q.mM) 4 U bP U U U)<|eS U (FA 1 U eB U)<|eS U (LP (aa.cells p.mM) 5 U bP U U U)<|eS U (CL (Hz p.mM asm) (aA) U)<|eS U (AG U)<|dI U<|bQ U fun T21 F=>dC (xs:=[.tmp 52,.tmp 55]) (cs:=((aa.cells q.mM)++(aa.cells (pX p.mM)))) U iA dA U U U U (by simp [Value.cells,aa.aC]) U U fun O=>bG (F _ _ (aB [1,2,3,4,6,7,8,9]) ?_);refine bQ U fun T23 G=>?_;refine rS (CL (de.eq (sw (pX (eW ts (min p.bk q.bk).toNat ((max p.bk q.bk)-(min p.bk q.bk)).toNat)) ([q.mM,(pX p.mM)]) (some ⟨O,0,none⟩) 2 (by first|exact B|exact Dl B) (by intro z hz;simp only [bH,h_,AAr] at hz;rcases hz with rfl|rfl;exact M;exact L) sm) E1) (aw (aM 0 rfl rfl (by simp [aa.aC]) rfl)<|aA) rfl) ?_;refine bG (G _ _ (aB [1,2,3,4,6,7,8,9]) ?_);refine bQ U fun T24 H=>MK U cJ U<|bG (H _ _ (aB [1,2,3,4,6,7,8,9]) ?_);refine eJ U<|aq jE 2 ?_;refine mU hQ [0] (mc 5 U mn) U ?_
 (have e:=mW A ⟨hp,hq⟩;rw [e.1,e.2];unfold lu zF;rw [c0 D]<;>rfl)
theorem uz (s:cY) (hst:∀ x∈ts,bV x) (hlen:ts.length≤12):
 de Tryz.prog 126 [(vA (aY.cells (aY.mk (aV.mk tsA ts.length tsC)))),(vA (cY.cells s))] [(gQ tsA ts)] (vB (decide (gr ts s))):=by
 refine bg kr Tryz.func126 U U fun F Q hQ hN=>?_
 try dsimp only
 refine aS bS 2 U<|dV U fun D=>dV U fun E=>aS aj 4 U<|cK bX 22 kr<|jZ 6 [0,1] (mc 0 U (mc 1 U mn)) U<|dS (CL (qQ s.bk 0 ((ts.length:Int)-1)) (aA) U)<|dP 1 [] mn ?_;refine iQ (t:=12) U (aG fun A=>?_) (aH fun A=>?_)
 ·refine iR 8 U<|iR 6 U<|cy<|cr aj 3 hQ U U ?_
  (refine cB ?_;rw [bj (E7 I)])
 refine iR 1 U<|dS (LP (aa.cells s.mM) 0 U bP U U U)<|dP 4 [0,1] (mc 1 U (mc 0 U mn)) ?_;obtain ⟨x,hx⟩:=ax ts ((s.bk).toNat) I;have B:=bw ai.cells hx;refine dS (IA ((s.bk).toNat) U (au 2 U) vM dc I I)<|dS (pV ((((s.bk).toNat)*9)+1) U (au 2 U) (e6 I dc) eB U) ?_;have C:=(hst x (aF hx)).2.1;simp only [cO] at C;exact dS (pV ((((s.bk).toNat)*9)+1) U (au 2 U) (e6 I dc) eB U)<|dS (gG ((s.bk).toNat) 1 (vI x.jd.Lo) U bP (au 2 U) B U dc U)<|iR 1 U<|dS (CL (rI s.mM 0 (x.jd.Lo-1)) (aA) U)<|iR 2 U<|cy<|cr aj 3 hQ U U<|cB (iw.2 (Gp I hx).symm)
theorem DS (f t:Int) (hst:∀ x∈ts,bV x) (hlen:ts.length≤12) (hf:0≤f∧f≤t∧t≤ts.length):
 de Tryz.prog 208 [(vA (aY.cells (aY.mk (aV.mk tsA ts.length tsC)))),(vI f),(vI t)] [(gQ tsA ts)] (vT [(vA (aa.cells (eW ts f.toNat (t-f).toNat))),(vA (aa.cells (hH ts f.toNat (t-f).toNat)))]):=by
 refine bg kr Tryz.func208 U U fun X Q hQ hN=>?_
 try dsimp only
 refine aS bS 2 U<|dV U fun AA=>AL U dA fun V=>AL U dA fun W=>aS aj 4 U<|AL U dA fun P=>AL U dA fun R=>aq aj 10 ?_;have A:(0≤(t-f).toNat):=by exact c4 _
 have E:(vI (f+(0:Int)))=(vI f):=by exact cI I
 refine bu (ι:={z:Nat // (z≤(t-f).toNat)}) [1,2,3,6,7,8,9] [2,3,4,5] U U (fun z=>[(10,(vI (f+(z.1:Int))))]) (fun z=>[(cb R 38 (aa.cells (hH ts f.toNat z.1))),(cb P 38 (aa.cells (eW ts f.toNat z.1)))]) (fun _=>rfl) (fun _=>rfl) (fun z=>(t-f).toNat-z.1) ⟨0,A⟩ (aQ U E<|cS.nil _) (aB [2,3,4,5,0,1]) ?_;clear A;rintro ⟨k,K⟩ J11 B
 try dsimp only
 refine aq bS 8 ?_;refine bE U (aG fun J=>?_) (aH fun J=>?_)
 ·refine aS aW 1 U<|aq fD 3 ?_;refine cP bX [2,3] [] [] [2,3,4,5] [] U U U U U<|eS U (LW 3 U bP U U)<|eS U (LW 2 U bP U U)<|dI U<|bQ U fun T23 C=>o8 U cJ U<|bG (C _ _ (aB [2,3,4,5]) ?_);refine bQ U fun T24 D=>eN U cJ U<|bG (D _ _ (aB [2,3,4,5]) ?_);refine eJ U<|aq jE 2 ?_;refine mU hQ [0,1] (mc 1 U (mc 0 U mn)) U ?_;obtain rfl:k=(t-f).toNat:=I;rfl
 refine cm aW 9 [] (mc 2 U mn) ?_;obtain ⟨x,hx⟩:=ax ts (f.toNat+k) I;have N:=bw ai.cells hx;refine rS (IA (f.toNat+k) U (au 3 U) vM dc I I)<|rS (ld (f.toNat+k) 0 (ai.cells x) U bP (au 3 U) N U dc U U)<|AL U GQ fun O=>eN U SG U<|aq aj 4 ?_;have AB:=hst x (aF hx);have T:=nY hst f.toNat k;have S:=Jf hst f.toNat k;have L:=AB.2.1;have M:=AB.2.2.1;simp only [cO] at L M;refine dD aj 12 [0,1,0,1] (mc 6 U (mc 0 U mn)) U<|rS (SX (aU (xs:=[(0,.tmp 28),(1,.tmp 34)]) (cs:=(aa.cells (aa.mk (((eW ts f.toNat k).Lo)+x.jd.Lo) (((eW ts f.toNat k).Hi)+x.jd.Hi)))) U U (aT gP U)) U U)<|Zn U cJ U<|dD aj 15 [0,1,0,1] (mc 5 U (mc 0 U mn)) U<|rS (SX (aU (xs:=[(0,.tmp 41),(1,.tmp 47)]) (cs:=(aa.cells (aa.mk (((hH ts f.toNat k).Lo)+x.kR.Lo) (((hH ts f.toNat k).Hi)+x.kR.Hi)))) U U (aT gP U)) U U)<|MK U cJ U<|aq aj 3 ?_;have F:(aa.cells (aa.mk (((eW ts f.toNat k).Lo)+x.jd.Lo) (((eW ts f.toNat k).Hi)+x.jd.Hi)))=(aa.cells (eW ts f.toNat (k+1))):=by rw [rF hx];rfl
 rw [F];have G:(aa.cells (aa.mk (((hH ts f.toNat k).Lo)+x.kR.Lo) (((hH ts f.toNat k).Hi)+x.kR.Hi)))=(aa.cells (hH ts f.toNat (k+1))):=by rw [sx hx];rfl
 rw [G];refine aq aW 5 ?_;have H:(vI (f+(((k+1):Nat):Int)))=(vI ((f+(k:Int))+1)):=by exact cI I
 refine aL (B ⟨(k+1),(by first|omega|(simp only [];omega))⟩ _ _ _ U os (cx 7<|aQ U H<|cS.nil _) (aB [1,2,3,4,5,6]))
end
section
open Go.RowKit
variable (b:dT) (l:a_) (kA:OA) (kC:Nat) (az:List RA) (cA:OA) (cC:Nat) (bA:OA) (bC:Nat)
theorem UX (hin:dW l az):
 de Tryz.prog 158 [(vA (bU.cells (kN l kA kC cA cC bA bC)))] (rE l kA az cA bA) (vB (decide (fj l))):=by
 have O:=hin.sS;have N:=hin.sT;have L:=hin.mD;have M:=hin.sU;refine bg kr Tryz.func158 U U fun R Q hQ hN=>?_
 try dsimp only
 refine aS bS 2 U<|dV U fun P=>cm aj 7 [] (mc 0 U mn) ?_;refine dC (xs:=[.tmp 4]) (cs:=[(vI l.g7)]) U cM jW U U U U (by simp [Value.cells]) U U fun F=>?_;refine rS (CL (de.eq (iE 1 5000 ([l.g7]) (some ⟨F,0,none⟩) 1 (by (simp;done))) cp) (aw (aM 0 U U (by simp [br]) U)<|aA) U) ?_;refine aq aj 1 ?_;refine cz (t:=7) U (aG fun AA=>?_) (aH fun AA=>?_)
 ·exact cr aj 39 hQ U U<|cB (bj (by unfold fj;omega)).symm
 refine cm aj 3 [] (mc 1 U mn) ?_;refine dC (xs:=[.tmp 10]) (cs:=[(vI (l.aD.length:Int))]) U cM jW U U U U (by simp [Value.cells]) U U fun G=>?_;refine rS (CL (de.eq (iE 1 4 ([(l.aD.length:Int)]) (some ⟨G,0,none⟩) 1 (by (simp;done))) cp) (aw (aM 0 U U (by simp [br]) U)<|aA) U) ?_;refine aq aj 2 ?_;refine cz (t:=14) U (aG fun J=>?_) (aH fun J=>?_)
 ·exact cr aj 32 hQ U U<|cB (bj (by unfold fj;omega)).symm
 refine cm aj 3 [] (mc 2 U mn) ?_;refine dC (xs:=[.tmp 17]) (cs:=[(vI (l.ag.length:Int))]) U cM jW U U U U (by simp [Value.cells]) U U fun H=>?_;refine rS (CL (de.eq (iE 1 6 ([(l.ag.length:Int)]) (some ⟨H,0,none⟩) 1 (by (simp;done))) cp) (aw (aM 0 U U (by simp [br]) U)<|aA) U) ?_;refine aq aj 2 ?_;refine cz (t:=21) U (aG fun K=>?_) (aH fun K=>?_)
 ·exact cr aj 25 hQ U U<|cB (bj (by unfold fj;omega)).symm
 refine cm aj 6 [] (mc 3 U mn) ?_;refine dC (xs:=[.tmp 27]) (cs:=[(vI l.b_)]) U cM jW U U U U (by simp [Value.cells]) U U fun A=>?_;refine rS (CL (de.eq (iE 0 ((l.ag.length:Int)-1) ([l.b_]) (some ⟨A,0,none⟩) 1 (by (simp;done))) cp) (aw (aM 0 U U (by simp [br]) U)<|aA) U) ?_;refine aq aj 2 ?_;refine cz (t:=31) U (aG fun D=>?_) (aH fun D=>?_)
 ·exact cr aj 15 hQ U U<|cB (bj (by unfold fj;omega)).symm
 refine cm aj 2 [] (mc 4 U mn) ?_;refine dC (xs:=[.tmp 33]) (cs:=[(vI l.e_)]) U cM jW U U U U (by simp [Value.cells]) U U fun B=>?_;refine rS (CL (de.eq (iE 0 3 ([l.e_]) (some ⟨B,0,none⟩) 1 (by (simp;done))) cp) (aw (aM 0 U U (by simp [br]) U)<|aA) U) ?_;refine aq aj 2 ?_;refine cz (t:=37) U (aG fun E=>?_) (aH fun E=>?_)
 ·exact cr aj 9 hQ U U<|cB (bj (by unfold fj;omega)).symm
 refine cm aj 2 [] (mc 5 U mn) ?_;refine dC (xs:=[.tmp 39]) (cs:=[(vI l.di)]) U cM jW U U U U (by simp [Value.cells]) U U fun C=>?_;refine rS (CL (de.eq (iE 0 3 ([l.di]) (some ⟨C,0,none⟩) 1 (by (simp;done))) cp) (aw (aM 0 U U (by simp [br]) U)<|aA) U) ?_;exact cr aj 5 hQ U U<|cB (iw.2 (by unfold fj;omega))
theorem U9 (hin:dW l az):
 de Tryz.prog 159 [(vA (bU.cells (kN l kA kC cA cC bA bC)))] (rE l kA az cA bA) (vB (decide (∀ c∈l.aD,fF c))):=by
 have F:=hin.sS;have E:=hin.sT;have C:=hin.mD;have D:=hin.sU;refine bg kr Tryz.func159 U U fun AA Q hQ hN=>?_
 try dsimp only
 refine aS bS 2 U<|dV U fun H=>cm aj 7 [] (mc 0 U mn) ?_;refine rS (CL (Ds l.aD az cA cC (Value.func (.func 161) [].toArray [].toArray) (fun m=>(!(decide (fF m)))) (iX (bx aX.lG l.aD az)) (by intro G m a B A;exact kU (fi:=[]) (ca:=[]) (ZA l.aD az G m a (by exact B) (by exact A) (by exact hin.U8 _ _ _ B A))) asm asm) (Rk 2 3 3 U U U U U U) U) ?_;exact cr aj 5 hQ U U<|cB (by rw [AAB,r0];exact G7)
theorem Vp (g1:Nat) (hin:dW l az) (htr:cE l.bW=true):
 de Tryz.prog 165 [(vA (dT.cells b)),(vP g1)] ((rE l kA az cA bA)++[(cb g1 28 (bU.cells (kN l kA kC cA cC bA bC)))]) (vB (!(decide (lB l b)))):=by
 have G:=hin.sS;have E:=hin.sT;have C:=hin.mD;have D:=hin.sU;have F:=hin.side;refine bg kr Tryz.func165 U U fun J Q hQ hN=>?_
 try dsimp only
 refine aS bS 2 U<|dV U fun H=>aS aj 6 U<|rS (LPR (aY.cells (aY.mk (aV.mk kA l.bW.length kC))) 5 U bP U U U)<|aS aj 1 U<|rS (LP (cY.cells b.mx) 0 U bP U U U)<|rS (CL (Yk l.bW kA kC b.mx asm asm) (aP [1]) U)<|aS aj 3 U<|AL U dA fun AA=>eN U cJ U<|aq aj 8 ?_;refine bJ (t:=16) U (aJ fun A=>?_) (aK fun A=>?_)
 ·refine cr aj 14 hQ U U ?_
  (refine cB ?_;rw [bj (fun h:lB l b=>A ((IJ htr).2 h.1))];rfl)
 refine cm aj 6 [0,1] (mr 6 U (mc 1 U mn)) ?_;refine dC (xs:=[.tmp 22]) (cs:=[(vI b.kE)]) U cM jW U U U U (by simp [Value.cells]) U U fun B=>?_;refine rS (CL (de.eq (iE 0 ((l.aD.length:Int)-1) ([b.kE]) (some ⟨B,0,none⟩) 1 (by (simp;done))) cp) (aw (aM 0 U U (by simp [br]) U)<|aA) U) ?_;refine cr aj 6 hQ U U ?_
 (refine cB ?_;refine c7 Bool.not (iw.2 ⟨fun h=>⟨(IJ htr).1 A,I,I⟩,fun h=>by have:=h.2;omega⟩))
theorem Vg (hin:dW l az) (htr:cE l.bW=true):
 de Tryz.prog 163 [(vA (bU.cells (kN l kA kC cA cC bA bC)))] (rE l kA az cA bA) (vB (decide (∀ b∈l.ag,lB l b))):=by
 have F:=hin.sS;have E:=hin.sT;have C:=hin.mD;have D:=hin.sU;refine bg kr Tryz.func163 U U fun G Q hQ hN=>?_
 try dsimp only
 refine aS bS 2 U<|dV U fun A=>cm aj 7 [] (mc 0 U mn) ?_;refine rS (FU U) ?_;refine rS (CL (Dd l.ag bA bC (Value.func (.func 165) [].toArray [(vP A)].toArray) (fun B=>(!(decide (lB l B)))) (iX [(gQ kA l.bW),(pb cA l.aD az),(iX (bx aX.lG l.aD az)),(oG bA l.ag),(cb A 28 (bU.cells (kN l kA kC cA cC bA bC)))]) (by intro B _;exact kU (fi:=[]) (ca:=[(vP A)]) (jP (Vp B l kA kC az cA cC bA bC A (by first|assumption|omega) (by first|assumption|omega)) (aP [0,1,2,3,4]))) asm) (gN 4 U U<|aw (jH (aP [1,2,3,4,0]))<|aA) U) ?_;exact cr aj 5 hQ U U<|cB (by rw [AAB,r0];exact MF)
theorem IL (n:Int) (hin:dW l az) (htr:cE l.bW=true) (hbk:∀ b∈l.ag,lB l b) (hn:0≤n∧n<(l.ag.length:Int)):
 de Tryz.prog 98 [(vA (bU.cells (kN l kA kC cA cC bA bC))),(vI n)] (rE l kA az cA bA) (vI (mL l n.toNat)):=by
 have AA:=hin.sS;have G:=hin.sT;have E:=hin.mD;have F:=hin.sU;have H:=hin.side;refine bg kr Tryz.func98 U U fun M Q hQ hN=>?_
 try dsimp only
 refine aS bS 2 U<|dV U fun J=>cm aj 8 [] (mc 0 U mn) ?_;obtain ⟨x,hx⟩:=ax l.ag ((n).toNat) I;have C:=bw dT.cells hx;refine rS (IA ((n).toNat) U (au 4 U) wN dc I I)<|rS (pV (((n).toNat)*4) U (au 4 U) (e6 I dc) eB U)<|rS (ld ((n).toNat) 0 (cY.cells x.mx) U bP (au 4 U) C U dc U U)<|AL U Iv fun K=>eN U UL U<|aS aj 5 U<|rS (LP (aY.cells (aY.mk (aV.mk kA l.bW.length kC))) 1 U bP U U U)<|dD aj 1 [] (mc 0 U mn) U<|rS (CL (Yk l.bW kA kC x.mx asm asm) (aP [2]) U)<|aS aj 3 U<|AL U dA fun L=>eN U cJ U<|aq aj 10 ?_;refine bE U (aG fun A=>?_) (aH fun A=>?_)
 ·refine yY aW 10 hQ [] (mc 0 U mn) U U ?_
  (refine c7 (Value.int .i64) ?_;rw [show n.toNat=0 by omega] at hx ⊢;rw [xX hx,(zV htr (hbk _ (mem_of_getElem? hx)).1).2])
 refine cP bX [14] [] [] [1,2,3,4,5,6] [] U U U U U<|eS U (FA 0 U eB U)<|eS U (LP (aY.cells (aY.mk (aV.mk kA l.bW.length kC))) 1 U bP U U U)<|eS U (FA 3 U eB U)<|eS U (L1 (vS bA l.ag.length bC) 1 U bP U U)<|eS U (MV U)<|eS U (BI U (wK ⟨I,I⟩)) ?_;obtain ⟨y,hy⟩:=ax l.ag (((n-1)).toNat) I;have D:=bw dT.cells hy;refine eS U (IA (((n-1)).toNat) U (au 5 U) wN dc I I)<|eS U (pV ((((n-1)).toNat)*4) U (au 5 U) (e6 I dc) eB U)<|eS U (ld (((n-1)).toNat) 0 (cY.cells y.mx) U bP (au 5 U) D U dc U U)<|eS U (LW 0 U bP U U)<|eS U (CL (Rp l.bW kA kC y.mx x.mx asm asm) (aP [2]) U)<|eS U (MV U)<|eS U (EX U)<|eS U (EX U)<|dI U<|bQ U fun T9 B=>eN U cJ U<|bG (B _ _ (aB [1,2,3,4,5,6]) ?_);refine eJ U<|yY jE 9 hQ [] (mc 0 U mn) U U ?_
 (refine c7 (Value.int .i64) ?_;rw [Ey I hx (by rw [show n.toNat-1=(n-1).toNat by omega];exact hy),(mW htr ⟨(hbk _ (mem_of_getElem? hy)).1,(hbk _ (mem_of_getElem? hx)).1⟩).2])
theorem WC (hin:dW l az) (htr:cE l.bW=true) (hbk:∀ b∈l.ag,lB l b):
 de Tryz.prog 166 [(vA (bU.cells (kN l kA kC cA cC bA bC)))] (rE l kA az cA bA) (vB (decide (∀ i,i<l.ag.length→1≤mL l i))):=by
 have K:=hin.sS;have J:=hin.sT;have H:=hin.mD;have AA:=hin.sU;refine bg kr Tryz.func166 U U fun M Q hQ hN=>?_
 try dsimp only
 refine aS bS 2 U<|dV U fun L=>cm aj 13 [] (mc 0 U mn) ?_;have A:(0≤l.ag.length)∧(∀ j,j<0→1≤mL l j):=by exact ⟨c4 _,fun j hj=>absurd hj (s4 _)⟩
 refine bu (ι:={z:Nat // (z≤l.ag.length)∧(∀ j,j<z→1≤mL l j)}) [1,6] [0,1,2,3,4] U U (fun z=>[(7,(vI (z.1:Int)))]) (fun z=>[]) (fun _=>rfl) (fun _=>rfl) (fun z=>l.ag.length-z.1) ⟨0,A⟩ (aN U) (aB [0,1,2,3,4]) ?_;clear A;rintro ⟨i,⟨F,B⟩⟩ J5 E
 try dsimp only
 refine aq bS 6 ?_;refine bE U (aG fun G=>?_) (aH fun G=>?_)
 ·exact aS aW 1 U<|cr fD 8 hQ U U<|cB (cT (fun j hj=>B j I)).symm
 refine dD aW 14 [] (mc 0 U mn) U<|rS (CL (IL l kA kC az cA cC bA bC (i:Int) hin htr hbk I) (aP [1,2,3,4]) U)<|aq aj 3 ?_;refine bY U (aH fun C=>?_) (aG fun C=>?_)
 ·exact cr aW 6 hQ U U<|cB (bj (fun h=>by have:=h i I;simp only [AAP] at C;omega)).symm
 refine aq aW 7 ?_;have D:(vI (((i+1):Nat):Int))=(vI ((i:Int)+1)):=by exact cI I
 refine aL (E ⟨(i+1),⟨I,fun j hj=>by rcases r4 j i with q|q;exact B j q;(obtain rfl:j=i:=by omega);simp only [AAP] at C;omega⟩⟩ _ _ _ rfl os (cS.cons rfl<|cS.cons rfl<|aQ rfl D<|cS.nil _) (aB [0,1,2,3,4]))
end
section
open Go.RowKit
theorem VQ:
 de Tryz.prog 112 [] [] (vA ((iz.cells (iz.mk (Value.func (.func 158) [].toArray [].toArray)))++(iz.cells (iz.mk (Value.func (.func 159) [].toArray [].toArray)))++(iz.cells (iz.mk (Value.func (.func 163) [].toArray [].toArray)))++(iz.cells (iz.mk (Value.func (.func 166) [].toArray [].toArray))))):=by
 refine bg kr Tryz.func112 U U fun B Q hQ hN=>?_
 try dsimp only
 refine aS bS 2 U<|AL U Xn fun A=>aS aj 4 U<|rS (SX (aU (xs:=[(0,.func 158)]) (cs:=(iz.cells (iz.mk (Value.func (.func 158) [].toArray [].toArray)))) U U (aT IE U)) U U)<|rS (SX (aU (xs:=[(0,.func 159)]) (cs:=(iz.cells (iz.mk (Value.func (.func 159) [].toArray [].toArray)))) U U (aT IE U)) U U)<|rS (SX (aU (xs:=[(0,.func 163)]) (cs:=(iz.cells (iz.mk (Value.func (.func 163) [].toArray [].toArray)))) U U (aT IE U)) U U)<|rS (SX (aU (xs:=[(0,.func 166)]) (cs:=(iz.cells (iz.mk (Value.func (.func 166) [].toArray [].toArray)))) U U (aT IE U)) U U)<|rS (SX (aU (xs:=[(0,.tmp 1),(1,.tmp 2),(2,.tmp 3),(3,.tmp 4)]) (cs:=((iz.cells (iz.mk (Value.func (.func 158) [].toArray [].toArray)))++(iz.cells (iz.mk (Value.func (.func 159) [].toArray [].toArray)))++(iz.cells (iz.mk (Value.func (.func 163) [].toArray [].toArray)))++(iz.cells (iz.mk (Value.func (.func 166) [].toArray [].toArray))))) U U (aT ZE U)) U U)<|eN U X1 U<|aq aj 3 ?_;exact GG hQ [0] (mc 0 U mn) U U
variable (l:a_) (kA:OA) (kC:Nat) (az:List RA) (cA:OA) (cC:Nat) (bA:OA) (bC:Nat) (s:aZ)
theorem xp (hin:dW l az):
 de Tryz.prog 70 [(vA (bU.cells (kN l kA kC cA cC bA bC)))] (rE l kA az cA bA) (vI (dU l)):=by
 have AA:=hin.sS;have S:=hin.sT;have P:=hin.mD;have R:=hin.sU;have T:=hin.side;refine bg kr Tryz.func70 U U fun W Q hQ hN=>?_
 try dsimp only
 refine aS bS 2 U<|dV U fun V=>aS aj 7 U<|rS (LP (aY.cells (aY.mk (aV.mk kA l.bW.length kC))) 0 U bP U U U)<|rS (CL (wL l.bW kA kC asm asm) (aP [1]) U)<|aq aj 9 ?_;refine bY U (aJ fun B=>?_) (aK fun B=>?_)
 ·refine cr aW 7 hQ U U ?_
  (refine cI ?_;rw [(Ce B).2,CD (Ce B).1])
 refine aq aW 5 ?_;have A:=Hq B;refine rS (CL VQ (aA) U)<|aS aj 4 U<|iY 5<|eh fun R9 J=>aS bS 2 U<|rS (SX (ck (r:= .bool true) U U U g_) U U)<|aS aj 10 U<|rS (SX (qD (vs:=(iz.cells (iz.mk (Value.func (.func 158) [].toArray [].toArray)))) 0 U U U Jl bP U dc U) U U)<|AL U I7 fun L=>eN U IC U<|dD aj 7 [0,1] (mc 0 U (mc 1 U mn)) U<|rS (CL (UX l kA kC az cA cC bA bC hin) (aP [2,3,4,5]) U)<|aq aj 3 ?_;refine bY U (aJ fun F=>?_) (aK fun F=>?_)
 ·exact cr aW 6 hQ U U<|cI (tH A fun h=>absurd h.head asm).symm
 refine aS aW 4 U<|rS (SX (ck (r:= .int .i64 1) U U U (jw ⟨dc,dc⟩)) U U)<|aS aj 2 U<|KK J<|eh fun R18 C=>aS bS 2 U<|rS (SX (ck (r:= .bool true) U U U g_) U U)<|aS aj 10 U<|rS (SX (qD (vs:=(iz.cells (iz.mk (Value.func (.func 159) [].toArray [].toArray)))) 1 U U U Jl bP U dc U) U U)<|AL U I7 fun M=>eN U IC U<|dD aj 7 [0,1] (mc 0 U (mc 2 U mn)) U<|rS (CL (U9 l kA kC az cA cC bA bC hin) (aP [3,4,5,6]) U)<|aq aj 3 ?_;refine bY U (aJ fun G=>?_) (aK fun G=>?_)
 ·exact cr aW 6 hQ U U<|cI (tH A fun h=>absurd h.clock asm).symm
 refine aS aW 4 U<|rS (SX (ck (r:= .int .i64 2) U U U (jw ⟨dc,dc⟩)) U U)<|aS aj 2 U<|KK C<|eh fun R27 D=>aS bS 2 U<|rS (SX (ck (r:= .bool true) U U U g_) U U)<|aS aj 10 U<|rS (SX (qD (vs:=(iz.cells (iz.mk (Value.func (.func 163) [].toArray [].toArray)))) 2 U U U Jl bP U dc U) U U)<|AL U I7 fun N=>eN U IC U<|dD aj 7 [0,1] (mc 0 U (mc 3 U mn)) U<|rS (CL (Vg l kA kC az cA cC bA bC hin asm) (aP [4,5,6,7]) U)<|aq aj 3 ?_;refine bY U (aJ fun H=>?_) (aK fun H=>?_)
 ·exact cr aW 6 hQ U U<|cI (tH A fun h=>absurd h.vt asm).symm
 refine aS aW 4 U<|rS (SX (ck (r:= .int .i64 3) U U U (jw ⟨dc,dc⟩)) U U)<|aS aj 2 U<|KK D<|eh fun R36 E=>aS bS 2 U<|rS (SX (ck (r:= .bool true) U U U g_) U U)<|aS aj 10 U<|rS (SX (qD (vs:=(iz.cells (iz.mk (Value.func (.func 166) [].toArray [].toArray)))) 3 U U U Jl bP U dc U) U U)<|AL U I7 fun O=>eN U IC U<|dD aj 7 [0,1] (mc 0 U (mc 4 U mn)) U<|rS (CL (WC l kA kC az cA cC bA bC hin asm asm) (aP [5,6,7,8]) U)<|aq aj 3 ?_;refine bY U (aJ fun AB=>?_) (aK fun AB=>?_)
 ·exact cr aW 6 hQ U U<|cI (tH A fun h=>absurd h.TZ asm).symm
 exact aS aW 4 U<|rS (SX (ck (r:= .int .i64 4) U U U (jw ⟨dc,dc⟩)) U U)<|aS aj 2 U<|KK E<|eh fun R45 K=>aS bS 2 U<|rS (SX (ck (r:= .bool false) U U U g_) U U)<|aS aj 5 U<|cr fD 8 hQ U U<|cI (Bl A (C8 asm asm asm asm)).symm
theorem ER (lo hi:Int) (f:Value) (p:Int→Bool) (X:ar) (r:Int) (hf: ∀ x0,0≤x0∧x0<hi→BH Tryz.prog f [.int .i64 x0] [X] (.bool (p x0))) (hb:0≤lo∧lo≤r∧r≤hi∧hi≤100000000) (hno: ∀ x,lo≤x→x<r→p x=false) (hyes: ∀ x,r≤x→x<hi→p x=true):
 de Tryz.prog 256 [(vI lo),(vI hi),f] [X] (vI r):=by
 refine bg kr Tryz.func256 U U fun G Q hQ hN=>?_
 try dsimp only
 refine aq bS 7 ?_;have A:(lo≤lo∧lo≤r)∧(r≤hi∧hi≤hi):=by omega
 refine bu (ι:={z:Int×Int // (lo≤z.1∧z.1≤r)∧(r≤z.2∧z.2≤hi)}) [2] [0] U U (fun z=>[(0,(vI z.1.1)),(1,(vI z.1.2))]) (fun z=>[]) (fun _=>rfl) (fun _=>rfl) (fun z=>(z.1.2-z.1.1).toNat) ⟨(lo,hi),A⟩ (aN U) (aB [0]) ?_;clear A;rintro ⟨⟨a,b⟩,⟨B,C⟩⟩ J3 D
 try dsimp only at B C
 try dsimp only
 refine aq bS 8 ?_;refine bE U (aG fun F=>?_) (aH fun F=>?_)
 ·exact aS aW 1 U<|cr fD 9 hQ U U<|cI I
 refine aS aW 9 U<|rS (BI U (sM I I I))<|aS aj 8 U<|rS (SX (pE U U U (hf (a+((b-a)/2)) I) (aP [0])) U U)<|aq aj 2 ?_;refine bY U (fun hp=>?_) (fun hp=>?_)
 ·refine aq aW 5 ?_;refine aL (D ⟨(a,(a+((b-a)/2))),(by dsimp only;rcases AAe (a+(b-a)/2) r with q|q;(have E:=hno _ I q;(rw [E] at hp;cases hp));(have E:=hyes _ q I;(refine ⟨⟨I,I⟩,I,I⟩)))⟩ _ _ _ rfl (by simp only [];omega) (aN rfl) (aB [0]))
 refine aq aW 6 ?_;refine aL (D ⟨(((a+((b-a)/2))+1),b),(by dsimp only;rcases AAe (a+(b-a)/2) r with q|q;(have E:=hno _ I q;(refine ⟨⟨I,I⟩,I,I⟩));(have E:=hyes _ q I;(rw [E] at hp;cases hp)))⟩ _ _ _ rfl (by simp only [];omega) (aN rfl) (aB [0]))
theorem Qv (u:Int) (c:aX) (sA:OA) (sC g1:Nat) (s:aZ) (g2:Nat) (hc:fF c) (hu:0≤u∧u≤90000000):
 de Tryz.prog 257 [(vI u),(vP g1),(vP g2)] [(nG sA c.bo),(cb g1 109 (dB.cells (dB.mk c.dG (aV.mk sA c.bo.length sC)))),(cb g2 85 (aZ.cells s))] (vB (decide (s.Read≤u+(jo c u).Hi))):=by
 have A:=tY hc hu;refine bg kr Tryz.func257 U U fun B Q hQ hN=>?_
 try dsimp only
 refine aS bS 6 U<|cK bX 10 kr<|jZ 3 [] (mr 1 U mn) U<|dS (CL (IQ c sA sC u hc hu) (aP [0]) U)<|dS (SX (oW (v:=(vI ((jo c u).Hi))) U U eB Nf U) U U)<|dP 5 [] (mr 2 U mn) ?_;refine cy ?_;exact cr aj 3 hQ U U U
theorem M_ (u:Int) (c:aX) (sA:OA) (sC g1:Nat) (s:aZ) (g2:Nat) (hc:fF c) (hu:0≤u∧u≤90000000):
 de Tryz.prog 259 [(vI u),(vP g1),(vP g2)] [(nG sA c.bo),(cb g1 109 (dB.cells (dB.mk c.dG (aV.mk sA c.bo.length sC)))),(cb g2 85 (aZ.cells s))] (vB (decide (s.Read<u+(jo c u).Lo))):=by
 have A:=tY hc hu;refine bg kr Tryz.func259 U U fun B Q hQ hN=>?_
 try dsimp only
 refine aS bS 6 U<|cK bX 10 kr<|jZ 3 [] (mr 1 U mn) U<|dS (CL (IQ c sA sC u hc hu) (aP [0]) U)<|dS (SX (oW (v:=(vI ((jo c u).Lo))) U U eB Du U) U U)<|dP 5 [] (mr 2 U mn) ?_;refine cy ?_;exact cr aj 3 hQ U U U
theorem D_ (hin:dW l az) (hok:nP l) (hs:(0≤s.fR∧s.fR≤(l.ag.length:Int)-1)∧0≤s.Read∧s.Read≤86400000):
 de Tryz.prog 235 [(vA (bU.cells (kN l kA kC cA cC bA bC))),(vA (aZ.cells s))] (rE l kA az cA bA) (vA (aa.cells (du l s))):=by
 have S:=hin.sS;have O:=hin.sT;have M:=hin.mD;have N:=hin.sU;refine bg kr Tryz.func235 U U fun W Q hQ hN=>?_
 try dsimp only
 refine aS bS 2 U<|dV U fun AA=>dV U fun D=>AL U dA fun V=>aq aj 3 ?_;refine cP bX [11,12] [] [] [0,1,2,3,4,5,6] [] U U U U U<|eS U (FA 2 U eB U)<|eS U (L1 (vS cA l.aD.length cC) 2 U bP U U)<|eS U (FA 3 U eB U)<|eS U (L1 (vS bA l.ag.length bC) 2 U bP U U)<|eS U (FA 0 U eB U)<|eS U (L1 (vI s.fR) 1 U bP U U) ?_;obtain ⟨y,hy⟩:=ax l.ag ((s.fR).toNat) I;have L:=bw dT.cells hy;refine eS U (IA ((s.fR).toNat) U (au 6 U) wN dc I I)<|eS U (pV ((((s.fR).toNat)*4)+3) U (au 6 U) (e6 I dc) eB U)<|eS U (gG ((s.fR).toNat) 3 (vI y.kE) U bP (au 6 U) L U dc U) ?_;have T:=(hok.vt _ (aF hy)).2;obtain ⟨x,hx⟩:=ax l.aD ((y.kE).toNat) I;obtain ⟨xa,F⟩:=ax az ((y.kE).toNat) I;have K:(zipWith aX.cells l.aD az)[(y.kE).toNat]? =some (aX.cells x xa):=cD hx F;refine eS U (IA ((y.kE).toNat) U (au 4 U) xK dc I I)<|eS U (ld ((y.kE).toNat) 0 (dB.cells (dB.mk x.dG (aV.mk xa.1 x.bo.length xa.2))) U bP (au 4 U) K U dc U U)<|dI U<|bQ U fun T6 AB=>AL U zK fun E=>bG (AB _ _ (aB [1,2,3,4,5,6,7]) ?_);refine bQ U fun T8 J=>eN U B4 U<|bG (J _ _ (aB [1,2,3,4,5,6,7]) ?_);refine eJ U<|aq jE 3 ?_;have A:=hok.clock _ (aF hx);have R:=jL (p:=iW x s.Read) (n:=86400001);have P:=jL (p:=iU x s.Read) (n:=86400001);refine rS (FU U) ?_;refine rS (CL (ER 0 86400001 (Value.func (.func 257) [].toArray [(vP E),(vP D)].toArray) (fun B=>(decide (s.Read≤B+(jo x B).Hi))) (iX [(nG xa.1 x.bo),(cb E 109 (dB.cells (dB.mk x.dG (aV.mk xa.1 x.bo.length xa.2)))),(cb D 85 (aZ.cells s))]) (gS (iW x s.Read) 86400001) (by intro B _;exact kU (fi:=[]) (ca:=[(vP E),(vP D)]) (jP (Qv B x xa.1 xa.2 E s D (by first|assumption|omega) (by first|assumption|omega)) (Rk 0 1 2 U U U U U U))) I (by intro z G hz;exact (mH A G I).1 hz) (by intro z hz H;exact (mH A I H).2.1 hz)) (aw (jH (aw (show ij _ (nG xa.1 x.bo).holds from (ct 6 U (bq hx F (by simp [aX.lG]))))<|gN 0 U U<|gN 2 U U<|aA))<|aA) U) ?_;refine rS (FU U) ?_;refine rS (CL (ER 0 86400001 (Value.func (.func 259) [].toArray [(vP E),(vP D)].toArray) (fun C=>(decide (s.Read<C+(jo x C).Lo))) (iX [(nG xa.1 x.bo),(cb E 109 (dB.cells (dB.mk x.dG (aV.mk xa.1 x.bo.length xa.2)))),(cb D 85 (aZ.cells s))]) (gS (iU x s.Read) 86400001) (by intro C _;exact kU (fi:=[]) (ca:=[(vP E),(vP D)]) (jP (M_ C x xa.1 xa.2 E s D (by first|assumption|omega) (by first|assumption|omega)) (Rk 0 1 2 U U U U U U))) I (by intro z G hz;exact (mH A G I).2.2.1 hz) (by intro z hz H;exact (mH A I H).2.2.2 hz)) (aw (jH (aw (show ij _ (nG xa.1 x.bo).holds from (ct 6 U (bq hx F (by simp [aX.lG]))))<|gN 0 U U<|gN 2 U U<|aA))<|aA) U) ?_;refine aS aj 1 U<|rS (SX (aU (xs:=[(0,.tmp 18),(1,.tmp 21)]) (cs:=(aa.cells (aa.mk (gS (iW x s.Read) 86400001) ((gS (iU x s.Read) 86400001)-1)))) U U (aT gP U)) U U)<|o8 U cJ U<|aq aj 3 ?_;refine GG hQ [0] (mc 1 U mn) U ?_;unfold du EB;rw [zQ hy hx]
theorem Tq (n:Int) (hin:dW l az):
 de Tryz.prog 50 [(vA (bU.cells (kN l kA kC cA cC bA bC))),(vI n)] (rE l kA az cA bA) (vT [(vI (te l n)),(vI (pt l n))]):=by
 have J:=hin.sS;have AA:=hin.sT;have G:=hin.mD;have H:=hin.sU;refine bg kr Tryz.func50 U U fun N Q hQ hN=>?_
 try dsimp only
 refine aS bS 2 U<|dV U fun M=>dD aj 8 [] (mc 0 U mn) U<|rS (CL (xp l kA kC az cA cC bA bC hin) (aP [1,2,3,4]) U)<|aq aj 9 ?_;refine bY U (aJ fun A=>?_) (aK fun A=>?_)
 ·refine aq aW 8 ?_;refine Q2 hQ U U U U ?_
  first|(have e:=x7 (i:=n) A;rw [e.1,e.2]<;>rfl)|(have e:=xe (i:=n) A I;rw [e.1,e.2]<;>rfl)|(have e:=xE (i:=n) A I;rw [e.1,e.2]<;>rfl)
 refine aq aW 6 ?_;obtain ⟨E,B⟩:=ep A;have D:=B.head;unfold fj at D;refine cm aj 4 [] (mc 0 U mn) ?_;refine dC (xs:=[.tmp 16]) (cs:=[(vI n)]) U cM jW U U U U (by simp [Value.cells]) U U fun F=>?_;refine rS (CL (de.eq (iE 0 ((l.ag.length:Int)-1) ([n]) (some ⟨F,0,none⟩) 1 sd) cp) (aw (aM 0 U U (by simp [br]) U)<|aA) U) ?_;refine aq aj 3 ?_;refine bY U (aJ fun C=>?_) (aK fun C=>?_)
 ·refine aq aW 7 ?_;refine Q2 hQ U U U U ?_
  first|(have e:=x7 (i:=n) A;rw [e.1,e.2]<;>rfl)|(have e:=xe (i:=n) A I;rw [e.1,e.2]<;>rfl)|(have e:=xE (i:=n) A I;rw [e.1,e.2]<;>rfl)
 refine aS aW 3 U<|cK bX 9 kr<|dP 2 [] (mc 1 U mn) ?_;refine dS (CL (IL l kA kC az cA cC bA bC n hin sd (by exact B.vt) sd) (aP [2,3,4,5]) U) ?_;have K:=CZ E B.vt n.toNat;have L:=B.TZ n.toNat I;refine dS (BI U (nq ⟨I,I⟩))<|dP 2 [] (mc 1 U mn) ?_;refine dS (CL (Jo (1000*(mL l n.toNat)) l.g7 sd sd) (aA) U) ?_;refine iR 2 U<|cy<|aq aj 3 ?_;refine Q2 hQ U U U U ?_
 first|(have e:=x7 (i:=n) A;rw [e.1,e.2]<;>rfl)|(have e:=xe (i:=n) A I;rw [e.1,e.2]<;>rfl)|(have e:=xE (i:=n) A I;rw [e.1,e.2]<;>rfl)
end
section
open Go.RowKit
theorem MU (n lo hi:Int) (g1 g2:Nat):
 de Tryz.prog 114 [(vI n),(vP g1),(vP g2)] [(cb g1 3 [(vI lo)]),(cb g2 3 [(vI hi)])] (vB (decide (n<lo∨hi<n))):=by
 refine bg kr Tryz.func114 U U fun B Q hQ hN=>?_
 try dsimp only
 refine cm bS 11 [] (mr 0 U mn) ?_;refine bJ (t:=8) U (aH fun A=>?_) (aG fun A=>?_)
 ·exact cr aj 8 hQ U U<|cB (cT I).symm
 exact yY aj 8 hQ [] (mr 1 U mn) U U<|cB (iw.2 I)
theorem mR (lo hi:Int) (l:List Int) (lA:OA) (lC:Nat) (hlen:l.length≤1000000):
 de Tryz.prog 72 [(vI lo),(vI hi),(vS lA l.length lC)] [(eE lA l)] (vB (oK lo hi l)):=by
 refine bg kr Tryz.func72 U U fun D Q hQ hN=>?_
 try dsimp only
 refine aS bS 2 U<|sR U U fun A=>sR U U fun B=>aq aj 6 ?_;refine rS (FU U) ?_;refine rS (CL (pk l lA lC (Value.func (.func 114) [].toArray [(vP A),(vP B)].toArray) (fun C=>(decide (C<lo∨hi<C))) (iX [(cb A 3 [(vI lo)]),(cb B 3 [(vI hi)])]) (by intro C _;exact kU (fi:=[]) (ca:=[(vP A),(vP B)]) (jP (MU C lo hi A B) (aP [0,1]))) hlen) (gN 2 U U<|aw (jH (aP [1,0]))<|aA) U) ?_;exact cr aj 5 hQ U U U
theorem II (s:aa):
 de Tryz.prog 76 [(vA (aa.cells s))] [] (vB (decide (iv s))):=by
 refine bg kr Tryz.func76 U U fun D Q hQ hN=>?_
 try dsimp only
 refine aS bS 2 U<|dV U fun C=>cm aj 9 [] (mc 0 U mn) ?_;refine dC (xs:=[.tmp 4,.tmp 6]) (cs:=[(vI s.Lo),(vI s.Hi)]) U cM jW U U U U (by simp [Value.cells]) U U fun A=>?_;refine rS (CL (de.eq (mR 1 600000 ([s.Lo,s.Hi]) (some ⟨A,0,none⟩) 2 (by (simp;done))) qE) (aw (aM 0 U U (by simp [br]) U)<|aA) U) ?_;refine aq aj 1 ?_;refine cz (t:=9) U (aG fun B=>?_) (aH fun B=>?_)
 ·refine cr aj 10 hQ U U ?_;simp only [iv];exact cB (bj I).symm
 refine yY aj 10 hQ [] (mc 1 U mn) U U ?_;simp only [iv];exact cB (iw.2 I)
variable (d:ao) (sgA:OA) (sgC:Nat)
theorem QB:
 de Tryz.prog 300 [(vA (aO.cells (aO.mk d.Out d.cV d.Time (jR d.bp sgA sgC))))] [(gR sgA d.bp.ab)] (vB (decide (oh d.bp))):=by
 refine bg kr Tryz.func300 U U fun D Q hQ hN=>?_
 try dsimp only
 refine aS bS 2 U<|dV U fun C=>cm aj 10 [] (mc 0 U mn) ?_;refine cz (t:=7) U (aG fun A=>?_) (aH fun A=>?_)
 ·refine cr aj 16 hQ U U ?_;simp only [oh];exact cB (bj I).symm
 refine cm aj 6 [] (mc 0 U mn) ?_;refine cz (t:=13) U (aG fun B=>?_) (aH fun B=>?_)
 ·refine cr aj 10 hQ U U ?_;simp only [oh];exact cB (bj I).symm
 refine yY aj 10 hQ [] (mc 0 U mn) U U ?_;simp only [oh];exact cB (iw.2 I)
theorem Yh:
 de Tryz.prog 298 [(vA (aO.cells (aO.mk d.Out d.cV d.Time (jR d.bp sgA sgC))))] [(gR sgA d.bp.ab)] (vB d.Out):=by
 refine bg kr Tryz.func298 U U fun B Q hQ hN=>?_
 try dsimp only
 refine aq bS 2 ?_;refine dV U fun A=>yY aj 11 hQ [] (mc 0 U mn) U U ?_;rfl
theorem YG:
 de Tryz.prog 301 [(vA (aO.cells (aO.mk d.Out d.cV d.Time (jR d.bp sgA sgC))))] [(gR sgA d.bp.ab)] (vB d.cV):=by
 refine bg kr Tryz.func301 U U fun B Q hQ hN=>?_
 try dsimp only
 refine aq bS 2 ?_;refine dV U fun A=>yY aj 11 hQ [] (mc 0 U mn) U U ?_;rfl
theorem Y0:
 de Tryz.prog 303 [(vA (aO.cells (aO.mk d.Out d.cV d.Time (jR d.bp sgA sgC))))] [(gR sgA d.bp.ab)] (vB true):=by
 refine bg kr Tryz.func303 U U fun B Q hQ hN=>?_
 try dsimp only
 refine aS bS 2 U<|dV U fun A=>cr aj 9 hQ U U ?_;rfl
end
section
open Go.RowKit
structure N_ (S:BS) (w0:World) (X:ar) (C0:List ar) (w:World) (S':BS):Prop where
 st:St S w0 (X::C0) w
 w_: ∀ b,S'.w b↔ ∃ A∈C0,A.wf b
theorem Hb {A B:ar} (h:GB A B):GB A.ro B:=fun b C D=>⟨fun h=>h,(h b C D).2⟩
theorem Fl (i:Nat) (hn:decide (i::(range C.length).filter fun k=>k != i).Nodup=true) (hC:kT C (i::(range C.length).filter fun k=>k != i)=X::C0) (h:∀ w S',N_ E.S E.w0 X C0 w S'→WJ ⟨E.P,E.r,E.n,S',w⟩ c Q D L (X.ro::C0)):WJ E c Q D L C:=fun a w hf hs=>by
 have F:=St.kT _ hn hC hs;obtain ⟨G,H⟩:=AAT.1 F.sep;refine h w ⟨fun b=> ∃ A∈C0,A.wf b,fun _=>True⟩ ⟨F,fun b=>Iff.rfl⟩ a w hf ⟨ed.refl _ _,fun A hA=>?_,List.Pairwise.cons (fun B hB=>Hb (G B hB)) H,fun A hA b hb=>?_,fun A hA b hb=> .inr trivial⟩
 ·rcases bH.1 hA with rfl|hA
  ·exact F.holds X (bZ ..)
  ·exact F.holds A (dg _ hA)
 ·rcases bH.1 hA with rfl|hA
  ·exact hb.elim
  ·exact .inr ⟨A,hA,hb⟩
theorem Dy {S':BS} {C2:List ar} (hz:N_ E.S E.w0 X C0 w S') (is:List Nat) (hn:decide is.Nodup=true) (hC:kT C2 is=C1) (hwr:C1.all (·.wr)=true) (h:KJ E K D L (X::C1)):KJ ⟨E.P,E.r,E.n,S',w⟩ K D L C2:=fun a w' hf hs=>by
 have F:=St.kT is hn hC hs;have C:=hz.st;obtain ⟨J,M⟩:=AAT.1 C.sep;have AA: ∀ b,X.fP b→ ¬ S'.w b:=fun b hb hw=>by
  obtain ⟨A,hA,hw⟩:=(hz.w_ b).1 hw;exact (J A hA b hb (A.l7 b hw)).2 hw
 have G: ∀ b,S'.w b→E.w0.heap.size≤b∨E.S.w b:=fun b hb=>by
  obtain ⟨A,hA,hw⟩:=(hz.w_ b).1 hb;exact C.own A (dg _ hA) b hw
 have H: ∀ A∈C1,∀ b,A.fP b→w.heap.size≤b∨S'.w b:=fun A hA b hb=>F.own A hA b (A.whole (db.1 hwr A hA) b hb);refine h a w' hf ⟨?_,fun A hA=>?_,List.Pairwise.cons (fun B hB b hb hb'=>?_) F.sep,fun A hA b hb=>?_,fun A hA b hb=>?_⟩
 ·refine ⟨F.keeps.os.trans C.keeps.os,F.keeps.tape.trans C.keeps.tape,F.keeps.output.trans C.keeps.output,c6 C.keeps.size F.keeps.size,fun k hk hn'=>?_⟩;refine (F.keeps.block k (ABN hk C.keeps.size) fun hw=>?_).trans (C.keeps.block k hk hn');rcases G k hw with q|q
  ·omega
  ·exact hn' q
 ·rcases bH.1 hA with rfl|hA
  ·have hh:=C.holds A (bZ ..);exact A.qK w w' (fun b hb=>F.keeps.block b (A.lt w hh b hb) (AA b hb)) hh
  ·exact F.holds A hA
 ·exfalso;have hl:=X.lt w (C.holds X (bZ ..)) b hb;rcases H B hB b hb' with q|q
  ·omega
  ·exact AA b hb q
 ·rcases bH.1 hA with rfl|hA
  ·exact C.own A (bZ ..) b hb
  ·rcases F.own A hA b hb with q|q
   ·exact .inl (c6 C.keeps.size q)
   ·exact G b q
 ·rcases bH.1 hA with rfl|hA
  ·exact C.seen A (bZ ..) b hb
  ·rcases H A hA b hb with q|q
   ·exact .inl (c6 C.keeps.size q)
   ·obtain ⟨B,hB,hw⟩:=(hz.w_ b).1 q;exact C.seen B (dg _ hB) b (B.l7 b hw)
/-- put back, as it was -/
theorem Le {f:M→A→List ar} {ms:List M} {asl:List A} {m:M} {a:A} (hm:ms[k]? =some m) (ha:asl[k]? =some a) (hf:f m a=[X]) (h:St S w0 (X::bD (fH f ms asl k)::C) w):St S w0 (bD (bx f ms asl)::C) w:=by
 have B:St S w0 (bD (fH f ms asl k)::X::C) w:=h.perm (List.Perm.swap _ _ _);have D:St S w0 ((f m a++fH f ms asl k)++C) w:=by
  rw [hf];exact B.iI.perm (v5 (a:=X) (l₁:=fH f ms asl k) (l₂:=C))
 exact kP (kO hm ha).symm D.tied
theorem O2 {f:M→A→List ar} {ms:List M} {asl:List A} {m:M} {a:A} (i j:Nat) (hm:ms[k]? =some m) (ha:asl[k]? =some a) (hf:f m a=[X]) (hn:decide (j::i::(range C.length).filter fun k=>k != i&&k != j).Nodup=true) (hC:kT C (j::i::(range C.length).filter fun k=>k != i&&k != j)=X::bD (fH f ms asl k)::C1) (h:KJ E K D L (bD (bx f ms asl)::C1)):KJ E K D L C:=fun a w hf' hs=>h a w hf' (Le hm ha hf (St.kT _ hn hC hs))
theorem Cj {f:M→A→List ar} {ms:List M} {asl:List A} {m:M} {a:A} (hl:ms.length=asl.length) (hf:f m a=[X]):bx f ms asl++[X]=bx f (ms++[m]) (asl++[a]):=by
 rw [lp hl,← hf];simp [bx]
theorem Cg {f:M→A→List ar} {ms:List M} {asl:List A} {m:M} {a:A} (i j:Nat) (hf:f m a=[X]) (hn:decide (j::i::(range C.length).filter fun k=>k != i&&k != j).Nodup=true) (hC:kT C (j::i::(range C.length).filter fun k=>k != i&&k != j)=X::bD (bx f ms asl)::C1) (h:KJ E K D L (bD (bx f (m::ms) (a::asl))::C1)):KJ E K D L C:=fun b w hf' hs=>by
 have B:=St.kT _ hn hC hs;have F:St E.S E.w0 (bD (bx f ms asl)::X::C1) w:=B.perm (List.Perm.swap _ _ _);have G:St E.S E.w0 (bx f (m::ms) (a::asl)++C1) w:=by
  show St E.S E.w0 ((f m a++bx f ms asl)++C1) w
  rw [hf];exact F.iI.perm (v5 (a:=X) (l₁:=bx f ms asl) (l₂:=C1))
 exact h b w hf' G.tied
end
section
open Go.RowKit
abbrev ny (r:Nat):ar:=jU r (.deferred (some []))
theorem RL (rs:List Nat):(bD (rs.map ny)).wr=true:=by
 show (rs.map ny).all (·.wr)=true
 rw [db];intro X hX;obtain ⟨r,_,rfl⟩:=cu.1 hX;rfl
theorem zf {ι:Type} (Di:ι→iF) (Li:ι→dH) (Ci:ι→List ar) (μ:ι→Nat) (x0:ι) (hD:D=Di x0) (h0:cS L (Li x0)) (hC:∀ w,St E.S E.w0 C w→St E.S E.w0 (Ci x0) w) (round:∀ x (J:Act→World→Prop),(∀ y D' L' C',D'=Di y→μ y<μ x→cS L' (Li y)→(∀ w,St E.S E.w0 C' w→St E.S E.w0 (Ci y) w)→KJ E J D' L' C')→WJ E c (Exit.then J Q) (Di x) (Li x) (Ci x)):WJ E (.loop c) Q D L C:=by
 intro a w hf hs;subst hD;have H: ∃ x,Fr E.n (Di x) (Li x) a∧St E.S E.w0 (Ci x) w:=⟨x0,hf.sub h0,hC w hs⟩;clear hf hs;have key: ∀ (m:Nat) (a:Act) (w:World),(∃ x,μ x=m∧Fr E.n (Di x) (Li x) a∧St E.S E.w0 (Ci x) w)→(Code.loop c).wpIn (Fw E.r) 0 E.P Q a w:=by
  intro m a w hx;refine wpIn_loop (fun a w=> ∃ x,Fr E.n (Di x) (Li x) a∧St E.S E.w0 (Ci x) w) (fun a w=>leastOf fun k=> ∃ x,μ x=k∧Fr E.n (Di x) (Li x) a∧St E.S E.w0 (Ci x) w) (by obtain ⟨x,_,h⟩:=hx;exact ⟨x,h⟩) ?_;intro a w hx;have F: ∃ k,∃ x,μ x=k∧Fr E.n (Di x) (Li x) a∧St E.S E.w0 (Ci x) w:=by obtain ⟨x,h⟩:=hx;exact ⟨_,x,rfl,h⟩
  obtain ⟨x,K,AA,M⟩:=(leastOf_spec F).1;refine round x _ ?_ a w AA M;intro y D' L' C' hD G A B a' w' hf' hs';subst hD;refine ⟨⟨y,hf'.sub A,B _ hs'⟩,?_⟩;rw [← K];exact ACX ((leastOf_spec ⟨_,y,U,hf'.sub A,B _ hs'⟩).2 _ ⟨y,U,hf'.sub A,B _ hs'⟩) G
 obtain ⟨x,h⟩:=H;exact key _ a w ⟨x,U,h⟩
theorem St.aa_ {X:List ar} {A:ar} (h:St S w0 (A::bD X::C) w):St S w0 (bD (A::X)::C) w:=by
 have B:St S w0 (bD X::A::C) w:=h.perm (List.Perm.swap _ _ _);have D:St S w0 ((A::X)++C) w:=B.iI.perm (v5 (a:=A) (l₁:=X) (l₂:=C));exact D.tied
theorem No {X:List ar} {A:ar} (i j:Nat) (hn:decide (j::i::(range C.length).filter fun k=>k != i&&k != j).Nodup=true) (hC:kT C (j::i::(range C.length).filter fun k=>k != i&&k != j)=A::bD X::C1) (h:KJ E K D L (bD (A::X)::C1)):KJ E K D L C:=fun a w hf hs=>h a w hf ((St.kT _ hn hC hs).aa_)
theorem Hp (h:KJ E K D L (bD []::C)):KJ E K D L C:=fun a w hf hs=>h a w hf hs.VR
theorem UY (C1 C2:List ar) (h:KJ E K D L (bD C1::C2)):KJ E K D L (C1++C2):=fun a w hf hs=>h a w hf (St.tied hs)
theorem RG (i:Nat) (hn:decide (i::(range C.length).filter fun k=>k != i).Nodup=true) (hC:kT C (i::(range C.length).filter fun k=>k != i)=bD (rs.map ny)::C1) (h:LJ E fn R D L C1):LJ E fn R (rs.map jD++D) L C:=by
 have key: ∀ rs:List Nat,LJ E fn R (rs.map jD++D) L (bD (rs.map ny)::C1):=by
  intro rs
  induction rs with
  |nil=>exact fun a w hf hs=>h a w hf (hs.take (ABJ _ _))
  |cons r rs ih=>
   have A:LJ E fn R (jD r::(rs.map jD++D)) L (ny r::bD (rs.map ny)::C1):=nI 0 rfl rfl (fun a w hf hs=>ih a w hf (hs.take (ABJ _ _)));intro a w hf hs;refine A a w hf ?_;have B:St E.S E.w0 ((ny r::rs.map ny)++C1) w:=St.iI (C1:=ny r::rs.map ny) hs;have F:St E.S E.w0 (rs.map ny++(ny r::C1)) w:=B.perm (v5 (a:=ny r) (l₁:=rs.map ny) (l₂:=C1)).symm;exact F.tied.perm (List.Perm.swap _ _ _)
 exact fun a w hf hs=>key rs a w hf (St.kT _ hn hC hs)
theorem Qp (i:Nat) (hn:decide (i::(range C.length).filter fun k=>k != i).Nodup=true) (hC:kT C (i::(range C.length).filter fun k=>k != i)=bD (rs.map ny)::C1) (h:LJ E fn R [] L C1):LJ E fn R (rs.map jD) L C:=by
 have:=RG (D:=[]) i hn hC h
 rwa [AAJ] at this
end
section
open Go.RowKit
theorem Iw (fs:List FM) (fb:List Nat):(bD (bx oL fs fb)).wr=true:=by
 show (bx oL fs fb).all (·.wr)=true
 rw [db];intro X hX;obtain ⟨k,m,a,_,_,h⟩:=lD hX;simp only [oL,bT] at h;subst h;rfl
theorem UE (fs:List TM) (fb:List Nat):(bD (bx rJ fs fb)).wr=true:=by
 show (bx rJ fs fb).all (·.wr)=true
 rw [db];intro X hX;obtain ⟨k,m,a,_,_,h⟩:=lD hX;simp only [rJ,bT] at h;subst h;rfl
end
section
def dJ (bl:List Nat) (n:Nat):List (Option Nat):=bl.map some++replicate (n-bl.length) none
def iZ (bl:List Nat) (n:Nat):List (Option Nat):=replicate (n-bl.length) none++bl.map some
theorem oX {n:Nat} (h:bl.length≤n):(dJ bl n).length=n:=by simp [dJ];omega
theorem CX {n:Nat} (h:bl.length≤n):(iZ bl n).length=n:=by simp [iZ];omega
theorem ym {n:Nat}:replicate n none=dJ [] n:=by simp [dJ]
theorem Kn {n:Nat}:replicate n none=iZ [] n:=by simp [iZ]
theorem BZ {n:Nat} (h:bl.length=n):dJ bl n=bl.map some:=by simp [dJ,h]
theorem KW {n:Nat} (h:bl.length=n):iZ bl n=bl.map some:=by simp [iZ,h]
theorem ox {n:Nat} (h:bl[k]? =some g):(dJ bl n)[k]? =some (some g):=by
 have hk:=(aR.1 h).1;unfold dJ;rw [v3 (by simpa using hk),gM,h];rfl
theorem vY {n:Nat} (h:bl[i]? =some g) (hk:k=n-bl.length+i):(iZ bl n)[k]? =some (some g):=by
 subst hk;unfold iZ;rw [k_ sm,gM,ABR,Nat.add_sub_cancel_left,h];rfl
theorem ua {n:Nat} (hk:k=bl.length) (h:bl.length<n):(dJ bl n).set k (some g)=dJ (bl++[g]) n:=by
 subst hk;unfold dJ;rw [AAu _ _ sm];have e:n-bl.length=(n-(bl++[g]).length)+1:=by simp;omega
 rw [e,List.replicate_succ];simp
theorem Kg {n:Nat} (hk:k+1+bl.length=n):(iZ bl n).set k (some g)=iZ (g::bl) n:=by
 unfold iZ;have e:n-bl.length=k+1:=by omega
 have A:n-(g::bl).length=k:=by simp;omega
 rw [e,A,List.set_append_left _ _ sm,ABw,AAu _ _ sm];simp
theorem sJ {l:List (Option Nat)} (h:l[k]? =some (some g)):(l.map oC)[k]? =some (oC (some g)):=by rw [gM,h];rfl
theorem D0 {l:List α} {x:α} (h:k=l.length):(l++[x])[k]? =some x:=by subst h;simp
theorem Nx {l:List α} {x y:α} (h:l[k]? =some y):(l++[x])[k]? =some y:=by rw [v3 (aR.1 h).1];exact h
structure sG (w:cw) (fs:List FM):Prop where
 all: ∀ (b:Nat) m,fs[b]? =some m→wX m (sE w b)∧(m.map (·.1)).Nodup
structure jh (w:cw) (k:Nat) (bs:List FM):Prop where
 all: ∀ (i:Nat) m,bs[i]? =some m→yP m (back w (k+i))∧(m.map (·.1)).Nodup
variable {w:cw} {b:Nat} {mb m left:List (aI×Int)} {o:Int×aa} {os:List (Int×aa)} {p:aI×Int}
theorem sG.first:sG w [[(⟨0,0⟩,w.Start)]]:=⟨fun b m h=>by
 match b with
 |0=>simp at h;subst h;exact ⟨Lj,sm⟩
 |n+1=>simp at h⟩
theorem sG.add (h:sG w fs) (hl:fs.length=b+1) (hmb:fs[b]? =some mb) (hm:AY w b m) (hd:lv w b mb m left) (h0:left=[]):sG w (fs++[m]):=⟨fun i x hx=>by
 rcases r4 i fs.length with q|q
 ·rw [v3 q] at hx;exact h.all i x hx
 ·rw [k_ q] at hx;have hi:i-fs.length=0:=by
   rcases AB6 (i-fs.length) with z|z
   ·exact z
   ·rw [AAo (by simp;omega)] at hx;cases hx
  rw [hi] at hx;simp at hx;subst hx;obtain rfl:i=b+1:=by omega
  have A:=h.all b mb hmb;exact ⟨PZ A.2 A.1 hm.snd (hd.fin h0),hm.keys⟩⟩
theorem sG.ok (h:sG w fs) (hl:fs.length=w.n+1):yN w fs:=⟨hl,fun b m hm=>(h.all b m hm).1,fun b m hm=>(h.all b m hm).2⟩
theorem jh.none_:jh w b []:=⟨fun i m h=>by simp at h⟩
theorem jh.last (hb:w.n≤b):jh w b [[(⟨0,0⟩,w.hU)]]:=⟨fun i m h=>by
 match i with
 |0=>simp at h;subst h;exact ⟨PB I,sm⟩
 |n+1=>simp at h⟩
theorem jh.add (h:jh w (b+1) bs) (hb:b<w.n) (hmb:bs[0]? =some mb) (hm:zc w b m) (hd:kS w b mb m left) (h0:left=[]):jh w b (m::bs):=⟨fun i x hx=>by
 match i with
 |0=>
  simp at hx;subst hx;have A:=h.all 0 mb hmb;exact ⟨PT hb A.2 A.1 hm.snd hm.zero (hd.fin h0),hm.keys⟩
 |n+1=>
  have:=h.all n x (by simpa using hx);rw [show b+1+n=b+(n+1) by omega] at this;exact this⟩
theorem jh.ok (h:jh w 0 bs) (hl:bs.length=w.n+1):vE w bs:=⟨hl,fun b m hm=>by have:=(h.all b m hm).1;rwa [AAk] at this,fun b m hm=>(h.all b m hm).2⟩
/-- on the way through one entry's options -/
structure pK (w:cw) (b:Nat) (mb left m:List (aI×Int)) (p:aI×Int) (os:List (Int×aa)):Prop where
 on:AY w b m
 wc:lv w b mb m left
 done:kl w b m p os
structure py (w:cw) (b:Nat) (mb left m:List (aI×Int)) (p:aI×Int) (os:List (Int×aa)):Prop where
 on:zc w b m
 wc:kS w b mb m left
 done:kf w b m p os
theorem pK.start (h:AY w b m) (h2:lv w b mb m left):pK w b mb left m p []:=⟨h,h2,fun o ho=>by cases ho⟩
theorem py.start (h:zc w b m) (h2:kS w b mb m left):py w b mb left m p []:=⟨h,h2,fun o ho=>by cases ho⟩
theorem Mp (h:(m.lookup q.1).isSome=false∨q.2<(m.lookup q.1).getD 0):ry m q=d_ m q.1 q.2:=by
 unfold ry;cases e:m.lookup q.1 with
 |none=>rfl
 |some v=>rw [e] at h;simp at h;simp only;rw [c0 h]
theorem HE (h:(m.lookup q.1).isSome=true) (h2:¬ q.2<(m.lookup q.1).getD 0):ry m q=m:=by
 unfold ry;cases e:m.lookup q.1 with
 |none=>rw [e] at h;cases h
 |some v=>rw [e] at h2;simp only [ABa] at h2;simp only;rw [c1 h2]
theorem Ki (h:(m.lookup q.1).isSome=false∨(m.lookup q.1).getD 0<q.2):qT m q=d_ m q.1 q.2:=by
 unfold qT;cases e:m.lookup q.1 with
 |none=>rfl
 |some v=>rw [e] at h;simp at h;simp only;rw [c0 h]
theorem H3 (h:(m.lookup q.1).isSome=true) (h2:¬ (m.lookup q.1).getD 0<q.2):qT m q=m:=by
 unfold qT;cases e:m.lookup q.1 with
 |none=>rw [e] at h;cases h
 |some v=>rw [e] at h2;simp only [ABa] at h2;simp only;rw [c1 h2]
theorem Dm (hy:w.sH[b]? =some y) (h:max (v+y) o.2.Lo≤min o.2.Hi w.hU):oE w b (t,v) o=some (dZ t (gT o.1),max (v+y) o.2.Lo):=by
 have e:=o9 hy;subst e;exact N7 h
theorem QT (hy:w.sH[b]? =some y) (h:¬ max (v+y) o.2.Lo≤min o.2.Hi w.hU):oE w b (t,v) o=none:=by
 have e:=o9 hy;subst e;exact Sm h
theorem Dq (hy:w.sH[b]? =some y) (h:o.2.Lo≤min v o.2.Hi):rr w b (t,v) o=some (dZ t (gT o.1),min v o.2.Hi-y):=by
 have e:=o9 hy;subst e;exact N2 h
theorem pK.set (h:pK w b mb left m p os) (hp:p∈sE w b) (ho:o∈kX w b) (he:oE w b p o=some q) (hs:(m.lookup q.1).isSome=false∨q.2<(m.lookup q.1).getD 0):pK w b mb left (d_ m q.1 q.2) p (os++[o]):=by
 rw [← Mp hs];exact ⟨h.on.add hp ho he,h.wc.lower yC,h.done.Pn he⟩
theorem pK.qK (h:pK w b mb left m p os) (he:oE w b p o=some q) (hs:(m.lookup q.1).isSome=true) (h2:¬ q.2<(m.lookup q.1).getD 0):pK w b mb left m p (os++[o]):=by
 have:=h.done.Pn he;rw [HE hs h2] at this;exact ⟨h.on,h.wc,this⟩
theorem pK.skip (h:pK w b mb left m p os) (he:oE w b p o=none):pK w b mb left m p (os++[o]):=⟨h.on,h.wc,h.done.none_ he⟩
theorem py.set (hb:b<w.n) (h:py w b mb left m p os) (hp:p∈back w (b+1)) (ho:o∈kX w b) (he:rr w b p o=some q) (hs:(m.lookup q.1).isSome=false∨(m.lookup q.1).getD 0<q.2):py w b mb left (d_ m q.1 q.2) p (os++[o]):=by
 rw [← Ki hs];exact ⟨h.on.add hb hp ho he,h.wc.upper sZ,h.done.Pn he⟩
theorem py.qK (h:py w b mb left m p os) (he:rr w b p o=some q) (hs:(m.lookup q.1).isSome=true) (h2:¬ (m.lookup q.1).getD 0<q.2):py w b mb left m p (os++[o]):=by
 have:=h.done.Pn he;rw [H3 hs h2] at this;exact ⟨h.on,h.wc,this⟩
theorem py.skip (h:py w b mb left m p os) (he:rr w b p o=none):py w b mb left m p (os++[o]):=⟨h.on,h.wc,h.done.none_ he⟩
theorem pK.next (hn:(left.map (·.1)).Nodup) (hm:(t,v)∈left) (h:pK w b mb left m (t,v) os) (ho:∀ o∈kX w b,o∈os):lv w b mb m (cH left t):=h.wc.next hn hm h.done ho
theorem py.next (hn:(left.map (·.1)).Nodup) (hm:(t,v)∈left) (h:py w b mb left m (t,v) os) (ho:∀ o∈kX w b,o∈os):kS w b mb m (cH left t):=h.wc.next hn hm h.done ho
theorem sG.mem (h:sG w fs) (hm:fs[b]? =some mb) (hp:p∈mb):p∈sE w b:=(h.all b mb hm).1.1 _ _ ((gj (h.all b mb hm).2).1 hp)
theorem jh.aaQ (h:jh w k bs) (hk:k=b+1) (hm:bs[0]? =some mb) (hp:p∈mb):p∈back w (b+1):=by
 subst hk;exact (h.all 0 mb hm).1.1 _ _ ((gj (h.all 0 mb hm).2).1 hp)
theorem jh.end_ (h:jh w k bs) (hj:bs.length=0) (hk:j=b) (hb:w.n≤b):jh w j ([(⟨0,0⟩,w.hU)]::bs):=by
 subst hk;rw [kq hj];exact jh.last hb
theorem jh.more (h:jh w k bs) (hk:k=b+1) (hj:j=b) (hb:b<w.n) (hmb:bs[0]? =some mb) (hm:zc w b m) (hd:kS w b mb m left) (h0:left=[]):jh w j (m::bs):=by
 subst hk hj;exact h.add hb hmb hm hd h0
end
section
open Go.RowKit
theorem kb {a:OA} {c e sz n:Nat} {es:List (List Value)} (h:es.length=n):Pm (own a c e sz es) (rd a n sz es):=by subst h;exact SI
theorem tJ {L:List ar}:Pm (bD L) (iX L):=⟨fun w h=>h.1,fun b h=>h⟩
theorem IT {b:Nat} (h:fb.length=b):bx rJ (replicate b ([]:TM)) fb++[iu iV g (bR fg [])]=bx rJ (replicate (b+1) ([]:TM)) (fb++[g]):=by
 rw [ABw];exact Cj (by rw [ABR];exact h.symm) U
theorem Y9 {ms:List α} {n:Nat} (h:fb.length=n) (h2:ms.length=n):map oC (dJ fb n)=zipWith g5 ms fb:=by
 rw [BZ h];exact (Dk I).symm
theorem pZ {l:a_} {r:cW} {x:aZ} (hx:r.ab[i]? =some x) (h:¬ j9 l r.ab i x): ¬ gl l r:=fun q=>h (q.sig i x hx)
end
section
open Go.RowKit
theorem vy (ln:bU) (ri:dx) (e:List Int) (tms:List TM) (e_A:OA) (e_C:Nat) (tb:List Nat) (t_A:OA) (t_C:Nat) (fA:OA) (fN fC:Nat) (bA:OA) (bN bC:Nat) (gw b:Nat) (g1 g2:Nat) (hb:b<tms.length) (htb:tb.length=tms.length):
 H6 Tryz.prog 260 [] [(vP g1),(vP g2)] [(eE e_A e),(rd t_A tms.length 1 (zipWith g5 tms tb)),(iX (bx rJ tms tb)),(cb gw 343 (cj.cells (cj.mk ln ri (aV.mk e_A e.length e_C) (aV.mk t_A tms.length t_C) (aV.mk fA fN fC) (aV.mk bA bN bC)))),(cb g1 301 [(vP gw)]),(cb g2 3 [(vI (b:Int))])] ([]:List (Int×aa)) (fun ys x ys'=> ∃ o,o∈kX (cQ ln ri e tms) b∧x=Uj o∧ys'=ys++[o]) (fun ys=> ∀ o∈kX (cQ ln ri e tms) b,o∈ys):=by
 refine xh kr Tryz.func260 U U fun l J Z A0 T Q hY P O hQ hN=>?_
 try dsimp only
 refine aS bS 2 U<|cK bX 12 kr<|jZ 2 [] (mr 5 U mn) U<|dS (SX (bK U U) U U)<|jZ 4 [0,1] (mr 4 U (mr 5 U mn)) U<|dS (SX (bK U U) U U)<|dP 3 [] (mr 4 U mn) ?_;refine dS (SX (aU (xs:=[(0,.tmp 11),(1,.tmp 16)]) (cs:=(aa.cells (aa.mk ri.Start ri.hU))) U U (aT gP U)) U U)<|cy<|mg (k:=([]:List (Int×aa))) (k':=(([]:List (Int×aa))++[((-1),(aa.mk ri.Start ri.hU))])) 0 (by first|exact hsz|exact c9 _) hY P O U U U (by exact ⟨(-1,⟨ri.Start,ri.hU⟩),bZ ..,U,U⟩) U U (fun B3 M L=>?_) (fun B3 M L=>?_);rotate_left 1
 ·refine aq aj 5 ?_;refine hQ _ _ _ (g4 (vs:=[]) trivial fun w hs=>sY 0 U M L hs)
 refine aS aj 7 U<|cK bX 7 kr<|jZ 1 [] (mr 5 U mn) U<|dS (SX (bK U U) U U)<|dP 3 [0,1] (mr 4 U (mr 6 U mn)) ?_;obtain ⟨x,hx⟩:=ax tms b I;obtain ⟨xa,K⟩:=ax tb b I;have S:(zipWith g5 tms tb)[b]? =some (g5 x xa):=cD hx K;refine dS (IA b U (au 2 U) AZ dc I I)<|dS (gG b 0 (Value.map (some xa)) U bP (au 2 U) S U dc U)<|cy<|kz (kV:=iV) (m:=bR fg x) 3 U U rX U ⟨⟨(iu iV xa (bR fg x)),(bq hx K (by simp [rJ])),U⟩,fun h=>h⟩ (show ij _ (iu iV xa (bR fg x)).holds from ct 3 U (bq hx K (by simp [rJ]))) U fun V=>?_
 try dsimp only
 refine aq aj 3 ?_;have G:(∀ o∈x,o∈x∨o∈(([]:List (Int×aa))++[((-1),(aa.mk ri.Start ri.hU))]))∧(∀ o∈x,o∈x)∧(J (([]:List (Int×aa))++[((-1),(aa.mk ri.Start ri.hU))]) B3)∧(Fo A0 T B3)∧((-1,(⟨ri.Start,ri.hU⟩:aa))∈(([]:List (Int×aa))++[((-1),(aa.mk ri.Start ri.hU))])):=by exact ⟨fun o ho=> .inl ho,fun o ho=>ho,asm,asm,sm⟩
 refine bu (ι:={z:TM×(List (Int×aa))×ar // (∀ o∈x,o∈z.1∨o∈z.2.1)∧(∀ o∈z.1,o∈x)∧(J z.2.1 z.2.2)∧(Fo A0 T z.2.2)∧((-1,(⟨ri.Start,ri.hU⟩:aa))∈z.2.1)}) [0,1,2,27] [2,3,4,6,7] U U (fun z=>[]) (fun z=>[(BA iV V xa (bR fg x) (bR fg z.1.1) none),z.1.2.2]) (fun _=>rfl) (fun _=>rfl) (fun z=>z.1.1.length) ⟨(x,(([]:List (Int×aa))++[((-1),(aa.mk ri.Start ri.hU))]),B3),G⟩ (cS.nil _) (aB [2,3,4,6,7,0,1]) ?_;clear G;rintro ⟨⟨left,ys,A⟩,⟨B,C,D,E,F⟩⟩ J8 R
 try dsimp only at B C D E F
 try dsimp only
 refine aq bS 2 ?_;refine jQ (eD nZ).inj (f:=fg) 5 U U U U (fun N=>?_) (fun i z hm hn=>?_)
 ·refine aS aj 6 U<|aq fD 1 ?_;refine hN _ _ _ (g4 (vs:=[]) trivial fun w hs=>LF 6 U (by exact Kw hx B N F) D E hs)
 try dsimp only
 refine aS aj 10 U<|rS (SX (jI 5 U U U) U U)<|aS aj 2 U<|AL U dA fun AA=>aS aj 1 U<|eN U cJ U<|cm aj 7 [] (mc 0 U mn) ?_;refine mg (k:=ys) (k':=(ys++[(i,z)])) 7 (by first|exact hsz|exact c9 _) hY D E U U U (by exact ⟨(i,z),(AT hx).2 (.inr (C _ hm)),U,U⟩) U U (fun B15 AB H=>?_) (fun B15 AB H=>?_);rotate_left 1
 ·refine aq aj 5 ?_;refine hQ _ _ _ (g4 (vs:=[]) trivial fun w hs=>sY 7 U AB H hs)
 refine aq aj 6 ?_;refine iM 6 U fX U ?_;refine aL (R ⟨((cH left i),(ys++[(i,z)]),B15),⟨Ms hn hm B,ot C,asm,asm,by simp [F]⟩⟩ _ _ _ U (e7 hm) (aN U) (aB [1,2,3,4,5,6,7]))
theorem yr (gw b:Nat):
 lf Tryz.prog 238 [(vP gw),(vI (b:Int))] [] (fun (x:Nat×Nat)=>(Value.func (.func 260) [].toArray [(Value.pointer (some ⟨x.1,0,none⟩)),(Value.pointer (some ⟨x.2,0,none⟩))].toArray)) (fun (x:Nat×Nat)=>True) (fun (x:Nat×Nat)=>[(cb x.1 301 [(vP gw)]),(cb x.2 3 [(vI (b:Int))])]):=by
 refine cR kr Tryz.func238 U U fun C Q hQ hN=>?_
 try dsimp only
 refine aS bS 2 U<|sR U U fun A=>sR U U fun B=>aS aj 5 U<|rS (FU U)<|aq aj 4 ?_;refine LX hQ (A,B) [1,0] [] mn U U U U ?_;trivial
theorem QN (gw b:Nat):
 lf Tryz.prog 213 [(vP gw),(vI (b:Int))] [] (fun (x:Nat×Nat)=>(Value.func (.func 237) [].toArray [(Value.pointer (some ⟨x.1,0,none⟩)),(Value.pointer (some ⟨x.2,0,none⟩))].toArray)) (fun (x:Nat×Nat)=>True) (fun (x:Nat×Nat)=>[(cb x.1 301 [(vP gw)]),(cb x.2 3 [(vI (b:Int))])]):=by
 refine cR kr Tryz.func213 U U fun C Q hQ hN=>?_
 try dsimp only
 refine aS bS 2 U<|sR U U fun A=>sR U U fun B=>aS aj 5 U<|rS (FU U)<|aq aj 4 ?_;refine LX hQ (A,B) [1,0] [] mn U U U U ?_;trivial
end
section
open Go.RowKit
theorem rh:x3 Tryz.prog 348 eO:=Rr Ul (fun x y w=>Wz 9998 x y w) (fun x y h=>by cases x;cases y;simp [aI.cells] at h;simp [h]) (fun x=>by simp [aI.cells,Instr.sameBits]) (fun x w=>⟨_,rfl,fun p hp=>by
 simp only [bH,h_,AAr] at hp;rcases hp with rfl|rfl
 ·exact ⟨⟨_,dM bP U w⟩,_,nZ⟩
 ·exact ⟨⟨_,dM bP U w⟩,_,nZ⟩⟩)
theorem Pc (s:Int):
 de Tryz.prog 241 [(vI s)] [] (vA (aI.cells (gT s))):=by
 refine bg kr Tryz.func241 U U fun C Q hQ hN=>?_
 try dsimp only
 refine aS bS 2 U<|AL U wJ fun B=>aq aj 9 ?_;refine bY U (aH fun A=>?_) (aG fun A=>?_)
 ·refine aS aW 2 U<|rS (SX (aU (xs:=[(1,.const (vI 1))]) (cs:=(aI.cells (aI.mk 0 1))) U U (aT Fs U)) U U)<|eN U uY U<|aq aj 3 ?_;refine GG hQ [0] (mc 0 U mn) U ?_;unfold gT;first|rw [c0 A]|rw [c1 A]
 refine aS aW 4 U<|rS (SX (aU (xs:=[(0,.const (vI 1))]) (cs:=(aI.cells (aI.mk 1 0))) U U (aT Fs U)) U U)<|eN U uY U<|aq aj 3 ?_;refine GG hQ [0] (mc 0 U mn) U ?_;unfold gT;first|rw [c0 A]|rw [c1 A]
theorem ze (x:aI) (y:aI) (hx:(0≤x.right∧x.right≤1000)∧0≤x.fK∧x.fK≤1000) (hy:(0≤y.right∧y.right≤1000)∧0≤y.fK∧y.fK≤1000):
 de Tryz.prog 240 [(vA (aI.cells x)),(vA (aI.cells y))] [] (vA (aI.cells (dZ x y))):=by
 refine bg kr Tryz.func240 U U fun D Q hQ hN=>?_
 try dsimp only
 refine aS bS 2 U<|dV U fun A=>dV U fun B=>AL U wJ fun C=>dD aj 14 [0,1,0,1] (mc 2 U (mc 1 U mn)) U<|rS (SX (aU (xs:=[(0,.tmp 9),(1,.tmp 14)]) (cs:=(aI.cells (aI.mk (x.right+y.right) (x.fK+y.fK)))) U U (aT Fs U)) U U)<|eN U uY U<|aq aj 3 ?_;exact GG hQ [0] (mc 0 U mn) U U
theorem UR (ln:bU) (ri:dx) (e:List Int) (tms:List TM) (e_A:OA) (e_C:Nat) (tb:List Nat) (t_A:OA) (t_C:Nat) (fs:List FM) (bs:List FM) (fb:List Nat) (f_A:OA) (f_C:Nat) (bb:List Nat) (b_A:OA) (b_C gw:Nat) (x:aI) (hx:(0≤x.right∧x.right≤1000)∧0≤x.fK∧x.fK≤1000) (hn:ri.ab.n≤1000):
 de Tryz.prog 239 [(vP gw),(vA (aI.cells x))] [(eE e_A e),(rd t_A tms.length 1 (zipWith g5 tms tb)),(iX (bx rJ tms tb)),(rd f_A fs.length 1 (zipWith g5 fs fb)),(iX (bx oL fs fb)),(rd b_A bs.length 1 (zipWith g5 bs bb)),(iX (bx oL bs bb)),(cb gw 343 (cj.cells (cj.mk ln ri (aV.mk e_A e.length e_C) (aV.mk t_A tms.length t_C) (aV.mk f_A fs.length f_C) (aV.mk b_A bs.length b_C))))] (vB (oH (cQ ln ri e tms) x)):=by
 refine bg kr Tryz.func239 U U fun C Q hQ hN=>?_
 try dsimp only
 refine aS bS 2 U<|dV U fun B=>aS aj 4 U<|cK bX 26 kr<|jZ 3 [] (mc 0 U mn) U<|dS (SX (bK U U) U U)<|dP 5 [] (mr 8 U mn) ?_;refine iQ (t:=13) U (aG fun A=>?_) (aH fun A=>?_)
 ·exact iR 17 U<|cy<|cr aj 3 hQ U U<|cB (bj (fun h=>A h.1)).symm
 exact iR 1 U<|dS (SX (bK U U) U U)<|jZ 8 [0,1] (mr 8 U (mc 0 U mn)) U<|dS (SX (bK U U) U U)<|jZ 6 [] (mr 8 U mn) U<|cy<|cr aj 3 hQ U U<|cB (iw.2 ⟨fun h=>⟨A,h⟩,fun h=>h.2⟩)
end
section
open Go.RowKit
theorem Mj (ln:bU) (ri:dx) (e:List Int) (tms:List TM) (e_A:OA) (e_C:Nat) (tb:List Nat) (t_A:OA) (t_C:Nat) (fs:List FM) (bs:List FM) (fb:List Nat) (f_A:OA) (f_C:Nat) (bb:List Nat) (b_A:OA) (b_C gw:Nat) (b g1 g2:Nat) (mf:FM) (mb:FM) (hb:b<e.length) (hw:Kk (cQ ln ri e tms)) (htb:tb.length=tms.length) (hfw:yN (cQ ln ri e tms) fs) (hfb:fb.length=fs.length) (hbw:vE (cQ ln ri e tms) bs) (hbb:bb.length=bs.length) (hsg:ri.ab.n≤1000) (hm1:fs[b]? =some mf) (hm2:bs[b+1]? =some mb):
 H6 Tryz.prog 237 [] [(vP g1),(vP g2)] [(eE e_A e),(rd t_A tms.length 1 (zipWith g5 tms tb)),(iX (bx rJ tms tb)),(rd f_A fs.length 1 (zipWith g5 fs fb)),(iX (bx oL fs fb)),(rd b_A bs.length 1 (zipWith g5 bs bb)),(iX (bx oL bs bb)),(cb gw 343 (cj.cells (cj.mk ln ri (aV.mk e_A e.length e_C) (aV.mk t_A tms.length t_C) (aV.mk f_A fs.length f_C) (aV.mk b_A bs.length b_C)))),(cb g1 301 [(vP gw)]),(cb g2 3 [(vI (b:Int))])] ([]:List (Int×aa)) (fun ys x ys'=> ∃ q,q∈sL (cQ ln ri e tms) b mf mb∧x=Uj q∧ys'=ys++[q]) (fun ys=> ∀ q∈sL (cQ ln ri e tms) b mf mb,q∈ys):=by
 have GT:e.length≤6:=hw.n;have GV:tms.length=e.length:=hw.times;have Eq:fs.length=e.length+1:=hfw.len;have EY:bs.length=e.length+1:=hbw.len;refine xh kr Tryz.func237 U U fun l J Z A0 w0 Q hY Ci CI hQ hN=>?_
 try dsimp only
 refine aS bS 2 U<|sR U U fun b2=>cm aj 6 [0,1] (mr 10 U (mr 11 U mn)) ?_;refine cX (yr gw b) (aA) U fun y4 Go=>?_;obtain ⟨A9,Bx⟩:=y4
 try dsimp only
 refine aq aj 3 ?_;refine iy 4 U (by exact fun _ h=>h)<|iy 6 U (by exact fun _ h=>h)<|iy 8 U (by exact fun _ h=>h)<|iy 14 U (by exact fun _ h=>h) ?_;refine px (L0:=[(0,(Value.func (.yield l) #[] #[])),(1,(vP g1)),(2,(vP g2)),(3,(vP b2))]) (F:=[(eE e_A e).ro,(rd t_A tms.length 1 (zipWith g5 tms tb)).ro,(iX (bx rJ tms tb)).ro,(cb gw 343 (cj.cells (cj.mk ln ri (aV.mk e_A e.length e_C) (aV.mk t_A tms.length t_C) (aV.mk f_A fs.length f_C) (aV.mk b_A bs.length b_C)))).ro,(cb A9 301 [(vP gw)]),(cb Bx 3 [(vI (b:Int))])]) (fun k (y:(List (Int×aa))×ar)=>(nj (cQ ln ri e tms) b mf mb k y.1)∧(J y.1 y.2)∧(Fo A0 w0 y.2)) (fun k y=>[(cb b2 345 [(Value.func (.yield l) #[] #[])]),y.2,(eE e_A e).ro,(rd t_A tms.length 1 (zipWith g5 tms tb)).ro,(iX (bx rJ tms tb)).ro,(rd f_A fs.length 1 (zipWith g5 fs fb)).ro,(iX (bx oL fs fb)).ro,(rd b_A bs.length 1 (zipWith g5 bs bb)).ro,(iX (bx oL bs bb)).ro,(cb gw 343 (cj.cells (cj.mk ln ri (aV.mk e_A e.length e_C) (aV.mk t_A tms.length t_C) (aV.mk f_A fs.length f_C) (aV.mk b_A bs.length b_C)))).ro,(cb g1 301 [(vP gw)]).ro,(cb g2 3 [(vI (b:Int))]).ro]) (fun c (z:ar)=>(c= .ret∧(Z z)∧(Fo A0 w0 z))) (fun _ z=>[(cb b2 345 [(Value.func (.yield l) #[] #[])]),z,(eE e_A e).ro,(rd t_A tms.length 1 (zipWith g5 tms tb)).ro,(iX (bx rJ tms tb)).ro,(rd f_A fs.length 1 (zipWith g5 fs fb)).ro,(iX (bx oL fs fb)).ro,(rd b_A bs.length 1 (zipWith g5 bs bb)).ro,(iX (bx oL bs bb)).ro,(cb gw 343 (cj.cells (cj.mk ln ri (aV.mk e_A e.length e_C) (aV.mk t_A tms.length t_C) (aV.mk f_A fs.length f_C) (aV.mk b_A bs.length b_C)))).ro,(cb g1 301 [(vP gw)]).ro,(cb g2 3 [(vI (b:Int))]).ro]) [6,7,8,9,10,11,12,13,14,15,16,17] [3,2,1,0,4,5] (([]:List (Int×aa)),A0) rfl rfl (vy ln ri e tms e_A e_C tb t_A t_C f_A fs.length f_C b_A bs.length b_C gw b A9 Bx I I) rfl rfl rfl (by exact ⟨nj.nil,Ci,CI⟩) (by simp only [AAI,h_,AAs,AAv,ABC];exact ⟨⟨_,aF (i:=0) rfl,(df (bL _))⟩,⟨_,aF (i:=1) rfl,(df (bL _))⟩,⟨_,aF (i:=2) rfl,(df (bL _))⟩,⟨_,aF (i:=3) rfl,(df (bL _))⟩,⟨_,aF (i:=4) rfl,(bL _)⟩,⟨_,aF (i:=5) rfl,(bL _)⟩⟩) (by rintro k x k2 ⟨o,_,rfl,_⟩;rfl) rfl (aN rfl) ?_ ?_ ?_ ?_;rotate_left 1
 ·rintro H1 k ⟨ys,A⟩ A4 s;obtain ⟨W,X,Y⟩:=s
  try dsimp only at W X Y
  try dsimp only
  refine aq jE 1 ?_;refine hN _ _ _ (nI 0 U U<|g4 (vs:=[]) trivial fun w hs=>LF 8 U (by exact nj.fin W A4) X Y hs)
 ·rintro IO id A A7;simp at A7
 ·rintro IR A A8;obtain ⟨hc,Cx,C0⟩:=A8
  try dsimp only
  refine hQ _ _ _ (nI 0 U U<|g4 (vs:=[]) trivial fun w hs=>sY 8 U Cx C0 hs)
 rintro k x k2 ⟨ys,A⟩ lr ra rb S w1 K8 Qr9 C1 hx r Ck An DL By;obtain ⟨o,ho,rfl,rfl⟩:=hx;obtain ⟨W,X,Y⟩:=r
 try dsimp only at W X Y
 try dsimp only
 refine aS bS 6 U<|AL U dA fun Di=>eN U cJ U<|aq aj 1 ?_;refine ke (fun _ _ h=>h) (aB [1,0,2,3,4,5,6,7,8,9,10,11,12,13])<|aL (Ck _ _ ?_);refine aS bS 2 U<|cK bX 7 kr<|jZ 1 [] (mr 12 U mn) U<|dS (SX (bK U U) U U)<|dP 3 [0,1] (mr 11 U (mr 13 U mn)) ?_;obtain ⟨ga,g⟩:=ax fb b I;have A5:(zipWith g5 fs fb)[b]? =some (g5 mf ga):=cD hm1 g;refine dS (IA b U (au 7 U) p6 dc I I)<|dS (gG b 0 (Value.map (some ga)) U bP (au 7 U) A5 U dc U)<|cy<|kz (kV:=eO) (m:=bR iV mf) 8 U U qN U ⟨⟨(iu eO ga (bR iV mf)),(bq hm1 g (by simp [oL])),U⟩,fun h=>h⟩ (show ij _ (iu eO ga (bR iV mf)).holds from ct 8 U (bq hm1 g (by simp [oL]))) U fun DA=>?_
 try dsimp only
 refine aq aj 3 ?_;have C:(∀ p∈mf,p∈mf)∧(o_ (cQ ln ri e tms) b mf mb o mf ys)∧(nj (cQ ln ri e tms) b mf mb k ys)∧(J ys A)∧(Fo A0 w0 A):=by exact ⟨fun p hp=>hp,o_.start,W,X,Y⟩
 refine bu (ι:={z:FM×(List (Int×aa))×ar // (∀ p∈z.1,p∈mf)∧(o_ (cQ ln ri e tms) b mf mb o z.1 z.2.1)∧(nj (cQ ln ri e tms) b mf mb k z.2.1)∧(J z.2.1 z.2.2)∧(Fo A0 w0 z.2.2)}) [0,1,2,3,4,5,23] [1,2,3,5,6,7,8,9,10,11,12,13,14] U U (fun z=>[]) (fun z=>[(BA eO DA ga (bR iV mf) (bR iV z.1.1) none),z.1.2.2]) (fun _=>rfl) (fun _=>rfl) (fun z=>z.1.1.length) ⟨(mf,ys,A),C⟩ (cS.nil _) (aB [1,2,3,5,6,7,8,9,10,11,12,13,14,0,4]) ?_;clear C;rintro ⟨⟨left,ys,A⟩,⟨K,M,N,O,P⟩⟩ J15 AP
 try dsimp only at K M N O P
 try dsimp only
 refine aq bS 2 ?_;refine jQ rh.inj (f:=iV) 13 U U U U (fun B7=>?_) (fun t v hm hn=>?_)
 ·refine aS aj 6 U<|aq fD 2 ?_;exact An (ys,A) _ _ (by exact ⟨nj.next N M B7,O,P⟩) (aB [0,2,14,3,4,5,6,7,8,9,10,11,12])
 try dsimp only
 refine aS aj 10 U<|rS (SX (jI 13 U U U) U U)<|aS aj 2 U<|AL U wJ fun Do=>eN U uY U<|aS aj 4 U<|cK bX 8 kr<|jZ 1 [] (mr 12 U mn) U<|dS (SX (bK U U) U U)<|dP 4 [0,1] (mr 11 U (mr 13 U mn)) ?_;obtain ⟨gb,j⟩:=ax bb (b+1) I;have A6:(zipWith g5 bs bb)[(b+1)]? =some (g5 mb gb):=cD hm2 j;refine dS (IA (b+1) U (au 9 U) p6 dc I I)<|dS (gG (b+1) 0 (Value.map (some gb)) U bP (au 9 U) A6 U dc U)<|cy<|kz (kV:=eO) (m:=bR iV mb) 10 U U qN U ⟨⟨(iu eO gb (bR iV mb)),(bq hm2 j (by simp [oL])),U⟩,fun h=>h⟩ (show ij _ (iu eO gb (bR iV mb)).holds from ct 10 U (bq hm2 j (by simp [oL]))) U fun DC=>?_
 try dsimp only
 refine aq aj 3 ?_;have C:(∀ p∈mb,p∈mb)∧(pd (cQ ln ri e tms) b mb o (t,v) mb ys)∧(o_ (cQ ln ri e tms) b mf mb o left ys)∧(nj (cQ ln ri e tms) b mf mb k ys)∧(J ys A)∧(Fo A0 w0 A):=by exact ⟨fun p hp=>hp,pd.start,M,N,O,P⟩
 refine bu (ι:={z:FM×(List (Int×aa))×ar // (∀ p∈z.1,p∈mb)∧(pd (cQ ln ri e tms) b mb o (t,v) z.1 z.2.1)∧(o_ (cQ ln ri e tms) b mf mb o left z.2.1)∧(nj (cQ ln ri e tms) b mf mb k z.2.1)∧(J z.2.1 z.2.2)∧(Fo A0 w0 z.2.2)}) [0,1,2,3,4,5,6,7,23,37] [1,2,3,4,5,6,7,8,9,10,11,12,13,14,15] U U (fun z=>[]) (fun z=>[(BA eO DC gb (bR iV mb) (bR iV z.1.1) none),z.1.2.2]) (fun _=>rfl) (fun _=>rfl) (fun z=>z.1.1.length) ⟨(mb,ys,A),C⟩ (cS.nil _) (aB [1,2,3,4,5,6,7,8,9,10,11,12,13,14,15,0,16]) ?_;clear C;rintro ⟨⟨l2,R,A2⟩,⟨B,D,E,G,H,AB⟩⟩ J23 AA
 try dsimp only at B D E G H AB
 try dsimp only
 refine aq bS 2 ?_;refine jQ rh.inj (f:=iV) 15 U U U U (fun B9=>?_) (fun u z L AC=>?_)
 ·refine aS aj 6 U<|aq fD 2 ?_;refine iM 14 U fX U ?_;refine aL (AP ⟨((cH left t),R,A2),⟨ot K,o_.next hn hm E D B9,G,H,AB⟩⟩ _ _ _ U (e7 hm) (aN U) (aB [1,2,3,4,5,6,7,8,9,10,11,12,13,14,16]))
 try dsimp only
 refine aS aj 10 U<|rS (SX (jI 15 U U U) U U)<|aS aj 2 U<|AL U wJ fun Dw=>eN U uY U<|aq aj 4 ?_;refine cP bX [17,18] [] [] [0,1,2,3,4,5,6,7,8,9,10,11,12,13,14,15,16,17] [] U U U U U<|eS U (MV U)<|eS U (ZR 13 U bP U)<|eS U (SX (bK U U) U U)<|eS U (FA 10 U eB U)<|eS U (MO (vS e_A e.length e_C) 12 U bP U U)<|eS U (ZR 14 U bP U) ?_;obtain ⟨y,hy⟩:=ax e b I;have C2:=bw iC hy;refine eS U (IA b U (au 5 U) cM dc I I)<|eS U (gG b 0 (vI y) U bP (au 5 U) C2 U dc U) ?_;have FS:=hw.least y (aF hy);have Ct:=PU hw _ _ (hfw.mem hm1 (K _ hm));have Cp:=PD hw (hbw.mem hm2 (B _ L));have Fd:=xy o.1;have Fi:=hw.opt ho;dsimp only at Ct Cp;refine eS U (BI U (jw ⟨I,I⟩))<|eS U (FA 0 U eB U)<|eS U (L1 (vI o.2.Lo) 3 U bP U U)<|eS U (MX U)<|eS U (MV U)<|eS U (FA 1 U eB U)<|eS U (L1 (vI o.2.Hi) 3 U bP U U)<|eS U (MN U)<|eS U (SX (aU (xs:=[(0,.tmp 54),(1,.tmp 58)]) (cs:=(aa.cells (aa.mk (max (v+y) o.2.Lo) (min z o.2.Hi)))) U U (aT gP U)) U U)<|dI U<|bQ U fun T30 A1=>AL U dA fun EQ=>bG (A1 _ _ (aB [1,2,3,4,5,6,7,8,9,10,11,12,13,14,15,16,17,18]) ?_);refine bQ U fun T32 A3=>eN U cJ U<|bG (A3 _ _ (aB [1,2,3,4,5,6,7,8,9,10,11,12,13,14,15,16,17,18]) ?_);refine eJ U<|aS jE 2 U<|cK bX 19 kr<|dP 6 [] (mc 0 U mn) ?_;refine iQ (t:=65) U (aG fun a=>?_) (aH fun a=>?_)
 ·refine iR 3 U<|iR 10 U<|cy<|aq aj 8 ?_;refine iM 17 U fX U ?_;refine aL (AA ⟨((cH l2 u),R,A2),⟨ot B,pd.skip AC L D (by exact Kp hy a),E,G,H,AB⟩⟩ _ _ _ U (e7 L) (aN U) (aB [2,3,4,5,6,7,8,9,10,11,12,13,14,15,16,17,18]))
 refine dP 3 [0,1,2] (mr 14 U (mc 2 U (mc 1 U mn))) ?_;have GE:(0≤(dZ t u).right∧(dZ t u).right≤1000)∧0≤(dZ t u).fK∧(dZ t u).fK≤1000:=by simp only [dZ];omega
 have Fn:(0≤(dZ (dZ t u) (gT o.1)).right∧(dZ (dZ t u) (gT o.1)).right≤1000)∧0≤(dZ (dZ t u) (gT o.1)).fK∧(dZ (dZ t u) (gT o.1)).fK≤1000:=by simp only [dZ];omega
 refine dS (CL (ze t u I I) (aA) U)<|iR 1 U<|dS (CL (Pc o.1) (aA) U)<|dS (CL (ze (dZ t u) (gT o.1) asm I) (aA) U)<|dS (CL (UR ln ri e tms e_A e_C tb t_A t_C fs bs fb f_A f_C bb b_A b_C gw (dZ (dZ t u) (gT o.1)) asm hsg) (aP [6,7,8,9,10,11,12,13]) U)<|dP 2 [] mn ?_;refine iQ (t:=75) U (fun d=>?_) (fun d=>?_)
 ·refine iR 3 U<|cy<|aq aj 8 ?_;refine iM 17 U fX U ?_;refine aL (AA ⟨((cH l2 u),R,A2),⟨ot B,pd.skip AC L D (by exact Km d),E,G,H,AB⟩⟩ _ _ _ U (e7 L) (aN U) (aB [2,3,4,5,6,7,8,9,10,11,12,13,14,15,16,17,18]))
 refine dP 3 [0,1] (mc 5 U (mc 0 U mn)) ?_;refine cy<|mg (k:=R) (k':=(R++[(o.1,(aa.mk (max (v+y) o.2.Lo) (min z o.2.Hi)))])) 18 (by first|exact C1|exact c9 _) hY H AB U U U (by exact ⟨(o.1,_),kj.2 ⟨o,ho,(t,v),K _ hm,(u,z),B _ L,(F5 hy a d)⟩,U,U⟩) U U (fun B34 V T=>?_) (fun B34 V T=>?_);rotate_left 1
 ·refine aq aj 6 ?_;exact By B34 _ _ (by exact ⟨U,V,T⟩) (aB [3,5,18,6,7,8,9,10,11,12,13,14,15])
 refine aq aj 7 ?_;refine iM 17 U fX U ?_;refine aL (AA ⟨((cH l2 u),(R++[(o.1,(aa.mk (max (v+y) o.2.Lo) (min z o.2.Hi)))]),B34),⟨ot B,pd.aa6 AC L D (F5 hy a d),E.app,G.app,V,T⟩⟩ _ _ _ U (e7 L) (aN U) (aB [2,3,4,5,6,7,8,9,10,11,12,13,14,15,16,17,18]))
end
section
open Go.RowKit
theorem xY (ln:bU) (ri:dx) (e:List Int) (tms:List TM) (e_A:OA) (e_C:Nat) (tb:List Nat) (t_A:OA) (t_C:Nat) (fs:List FM) (bs:List FM) (fb:List Nat) (f_A:OA) (f_C:Nat) (bb:List Nat) (b_A:OA) (b_C gw:Nat) (hw:Kk (cQ ln ri e tms)) (hsg:ri.ab.n≤1000) (hn:ln.ag.n=e.length) (hfw:yN (cQ ln ri e tms) fs) (hfb:fb.length=fs.length):
 lf Tryz.prog 214 [(vP gw)] [(eE e_A e),(rd t_A tms.length 1 (zipWith g5 tms tb)),(iX (bx rJ tms tb)),(rd f_A fs.length 1 (zipWith g5 fs fb)),(iX (bx oL fs fb)),(rd b_A bs.length 1 (zipWith g5 bs bb)),(iX (bx oL bs bb)),(cb gw 343 (cj.cells (cj.mk ln ri (aV.mk e_A e.length e_C) (aV.mk t_A tms.length t_C) (aV.mk f_A fs.length f_C) (aV.mk b_A bs.length b_C))))] (fun (x:(OA)×Nat)=>(vS x.1 ((ou (cQ ln ri e tms)).length) x.2)) (fun (x:(OA)×Nat)=>True) (fun (x:(OA)×Nat)=>[(fB x.1 x.2 (ou (cQ ln ri e tms)))]):=by
 have V:e.length≤6:=hw.n;have AA:fs.length=e.length+1:=hfw.len;refine cR kr Tryz.func214 U U fun W Q hQ hN=>?_
 try dsimp only
 refine aS bS 14 U<|rS (SX (bK U U) U U)<|cm aj 9 [] (mr 7 U mn) ?_;refine eC 3 1 ?_;have A:(0≤e.length+1):=by exact c4 _
 refine bu (ι:={z:Nat×(OA)×Nat // (z.1≤e.length+1)}) [0,12] [1,2,3,4,5,6,7,8] U U (fun z=>[(3,(vS z.1.2.1 ((ml (cQ ln ri e tms) z.1.1).length) z.1.2.2)),(13,(vI (z.1.1:Int)))]) (fun z=>[(fB z.1.2.1 z.1.2.2 (ml (cQ ln ri e tms) z.1.1))]) (fun _=>rfl) (fun _=>rfl) (fun z=>e.length+1-z.1.1) ⟨(0,none,0),A⟩ (aN U) (aB [1,2,3,4,5,6,7,8,0]) ?_;clear A;rintro ⟨⟨n,a,c⟩,F⟩ J5 H
 try dsimp only at F
 try dsimp only
 refine aq bS 6 ?_;refine bE U (aG fun T=>?_) (aH fun T=>?_)
 ·refine aS aW 1 U<|aq fD 4 ?_;rw [show ml (cQ ln ri e tms) n=ou (cQ ln ri e tms) by (obtain rfl:n=e.length+1:=by omega);rfl];refine aq aj 5 ?_;refine LX hQ (a,c) [8] [] mn U U U U ?_;trivial
 refine aS aW 13 U<|rS (SX (bK U U) U U)<|cm aj 3 [] (mr 7 U mn) ?_;obtain ⟨m,B⟩:=ax fs n I;obtain ⟨ma,hm0a⟩:=ax fb n I;have hm0m:(zipWith g5 fs fb)[n]? =some (g5 m ma):=cD B hm0a;refine rS (IA n U (au 3 U) p6 dc I I)<|rS (gG n 0 (Value.map (some ma)) U bP (au 3 U) hm0m U dc U)<|kz (kV:=eO) (m:=bR iV m) 4 U U qN U ⟨⟨(iu eO ma (bR iV m)),(bq B hm0a (by simp [oL])),U⟩,fun h=>h⟩ (show ij _ (iu eO ma (bR iV m)).holds from ct 4 U (bq B hm0a (by simp [oL]))) U fun P=>?_
 try dsimp only
 refine aq aj 3 ?_;have A:(∀ p∈m,p∈m)∧(∀ p∈m,p∈m∨oH (cQ ln ri e tms) p.1=false):=by exact ⟨fun p hp=>hp,fun p hp=> .inl hp⟩
 refine bu (ι:={z:FM // (∀ p∈z,p∈m)∧(∀ p∈m,p∈z∨oH (cQ ln ri e tms) p.1=false)}) [0,3,4,12,13,23] [1,2,3,4,5,6,7,8,9] U U (fun z=>[]) (fun z=>[(BA eO P ma (bR iV m) (bR iV z.1) none)]) (fun _=>rfl) (fun _=>rfl) (fun z=>z.1.length) ⟨m,A⟩ (cS.nil _) (aB [1,2,3,4,5,6,7,8,9,0]) ?_;clear A;rintro ⟨left,⟨C,D⟩⟩ J13 G
 try dsimp only
 refine aq bS 2 ?_;refine jQ rh.inj (f:=iV) 9 U U U U (fun M=>?_) (fun t v hm N=>?_)
 ·refine aS aj 6 U<|aq fD 7 ?_;rw [← Kx (w:=(cQ ln ri e tms)) (k:=n) ((Ge (hfw.min _ _ B) (hfw.keys _ _ B)).symm.trans (NJ D M))];have AB:(vI (((n+1):Nat):Int))=(vI ((n:Int)+1)):=by exact cI I
  refine aL (H ⟨((n+1),a,c),(by first|omega|(simp only [];omega))⟩ _ _ _ U os (cx 3<|aQ U AB<|cS.nil _) (aB [0,1,2,3,4,5,6,7,8]))
 try dsimp only
 refine aS aj 10 U<|rS (SX (jI 9 U U U) U U)<|aS aj 1 U<|AL U wJ fun R=>eN U uY U<|cm aj 6 [] (mc 0 U mn) ?_;have O:=PU hw _ _ (hfw.mem B (C _ hm));dsimp only at O;refine rS (CL (UR ln ri e tms e_A e_C tb t_A t_C fs bs fb f_A f_C bb b_A b_C gw t I hsg) (aP [1,2,3,4,5,6,7,8]) U)<|aq aj 2 ?_;refine bE U (fun E=>?_) (fun E=>?_)
 ·refine aq aW 2 ?_;refine iM 10 U fX U ?_;refine aL (G ⟨(cH left t),⟨ot C,QR N hm D (by first|exact E|simpa using E)⟩⟩ _ _ _ U (e7 hm) (aN U) (aB [1,2,3,4,5,6,7,8,9,10]))
 refine aq aW 4 ?_;refine dC (xs:=[.tmp 32]) (cs:=[(vI (n:Int))]) U cM jW U U U U (by simp [Value.cells]) U U fun S=>?_;have hy:mO (cQ ln ri e tms) (sE (cQ ln ri e tms) n)=true:=(Ge (hfw.min _ _ B) (hfw.keys _ _ B)).symm.trans (Tk (C _ hm) E);refine cZ (es2:=(map iC (ml (cQ ln ri e tms) (n+1)))) (m':=(ml (cQ ln ri e tms) (n+1)).length) 10 U U U pI U U sm (aM (es:=map iC [(n:Int)]) 0 U U (by simp [br]) U) (j4 _) (by have:=vv (w:=(cQ ln ri e tms)) (k:=n);first|omega|(simp;omega)) (by have:=vv (w:=(cQ ln ri e tms)) (k:=n);simp only [maxLen];omega) (by rw [GY hy];simp) sm U fun K L=>?_
 try dsimp only
 refine aS aj 4 U<|aq fD 7 ?_;have J:(vI (((n+1):Nat):Int))=(vI ((n:Int)+1)):=by exact cI I
 refine aL (H ⟨((n+1),K,L),(by first|omega|(simp only [];omega))⟩ _ _ _ U os (cx 3<|aQ U J<|cS.nil _) (aB [2,3,4,5,6,7,8,9,10]))
end
section
open Go.RowKit
theorem Fm (ln:bU) (ri:dx) (e:List Int) (tms:List TM) (e_A:OA) (e_C:Nat) (tb:List Nat) (t_A:OA) (t_C gw:Nat) (hw:Kk (cQ ln ri e tms)) (hn:ln.ag.n=e.length) (htb:tb.length=tms.length):
 JN Tryz.prog 236 [(vP gw)] [(eE e_A e),(rd t_A tms.length 1 (zipWith g5 tms tb)),(iX (bx rJ tms tb))] (cb gw 343 (cj.cells (cj.mk ln ri (aV.mk e_A e.length e_C) (aV.mk t_A tms.length t_C) (aV.mk none 0 0) (aV.mk none 0 0)))) (fun (x:(List FM)×(List Nat)×(OA)×Nat×(List FM)×(List Nat)×(OA)×Nat)=>(vT [])) (fun (x:(List FM)×(List Nat)×(OA)×Nat×(List FM)×(List Nat)×(OA)×Nat)=>yN (cQ ln ri e tms) x.1∧vE (cQ ln ri e tms) x.2.2.2.2.1∧x.2.1.length=x.1.length∧x.2.2.2.2.2.1.length=x.2.2.2.2.1.length) (fun (x:(List FM)×(List Nat)×(OA)×Nat×(List FM)×(List Nat)×(OA)×Nat)=>(bD [(cb gw 343 (cj.cells (cj.mk ln ri (aV.mk e_A e.length e_C) (aV.mk t_A tms.length t_C) (aV.mk x.2.2.1 x.1.length x.2.2.2.1) (aV.mk x.2.2.2.2.2.2.1 x.2.2.2.2.1.length x.2.2.2.2.2.2.2)))),(own x.2.2.1 x.2.2.2.1 346 1 (zipWith g5 x.1 x.2.1)),(bD (bx oL x.1 x.2.1)),(own x.2.2.2.2.2.2.1 x.2.2.2.2.2.2.2 346 1 (zipWith g5 x.2.2.2.2.1 x.2.2.2.2.2.1)),(bD (bx oL x.2.2.2.2.1 x.2.2.2.2.2.1))])):=by
 have T4:e.length≤6:=hw.n;have T6:tms.length=e.length:=hw.times;refine qp kr Tryz.func236 U U fun w0 Q hQ hN=>?_
 try dsimp only
 refine aS bS 2 U<|sR U U fun W=>dD aj 5 [] (mc 0 U mn) U<|rS (SX (bK U U) U U)<|cm aj 7 [] (mc 1 U mn) ?_;refine nV (ι:={z:(OA)×(OA) // True}) [0,1,2] [0,2,3,4] U U (fun z=>[]) (fun z=>[(pO z.1.1 (ln.ag.n+1) (replicate (ln.ag.n+1) (none:Option Nat))),(pO z.1.2 (ln.ag.n+1) (replicate (ln.ag.n+1) (none:Option Nat))),(cb gw 343 (cj.cells (cj.mk ln ri (aV.mk e_A e.length e_C) (aV.mk t_A tms.length t_C) (aV.mk z.1.1 (ln.ag.n+1) (ln.ag.n+1)) (aV.mk z.1.2 (ln.ag.n+1) (ln.ag.n+1)))))]) (fun _=>rfl) (fun _=>rfl) ?_ fun K4 B3=>?_
 ·rintro ⟨⟨fA,bA⟩,_⟩
  try dsimp only
  refine Fl 6 U U fun wz Sz hz=>?_;have To:(replicate (ln.ag.n+1) (none:Option Nat)).length=(ln.ag.n+1):=ABR
  try dsimp only
  refine nV (ι:={z:Nat // True}) [0,1,2] [0,1,2,3,4,6] U U (fun z=>[]) (fun z=>[(bD (bx oL [[((aI.mk 0 0),ri.Start)]] [z.1])),(pO fA (ln.ag.n+1) (dJ [z.1] (ln.ag.n+1)))]) (fun _=>rfl) (fun _=>rfl) ?_ fun K5 Nl=>?_
  ·rintro ⟨ga,_⟩
   try dsimp only
   refine aq aW 8 ?_;refine mj ?_;have C:(0≤ln.ag.n)∧(([[((aI.mk 0 0),ri.Start)]]).length=0+1)∧(([ga]).length=0+1)∧(sG (cQ ln ri e tms) ([[((aI.mk 0 0),ri.Start)]])):=by exact ⟨c4 _,rfl,rfl,sG.first⟩
   refine zf (ι:={z:Nat×(List FM)×(List Nat)×(List Nat) // (z.1≤ln.ag.n)∧(z.2.1.length=z.1+1)∧(z.2.2.1.length=z.1+1)∧(sG (cQ ln ri e tms) z.2.1)}) (fun z=>z.1.2.2.2.map jD) (fun z=>[(0,(vP gw)),(1,(vP W)),(2,(vI (ln.ag.n:Int))),(52,(vI (ln.ag.n:Int))),(53,(vI (z.1.1:Int)))]) (fun z=>[(bD (z.1.2.2.2.map ny)),(cb gw 343 (cj.cells (cj.mk ln ri (aV.mk e_A e.length e_C) (aV.mk t_A tms.length t_C) (aV.mk fA (ln.ag.n+1) (ln.ag.n+1)) (aV.mk bA (ln.ag.n+1) (ln.ag.n+1))))).ro,(cb W 301 [(vP gw)]),(eE e_A e).ro,(rd t_A tms.length 1 (zipWith g5 tms tb)).ro,(iX (bx rJ tms tb)).ro,(pO bA (ln.ag.n+1) (replicate (ln.ag.n+1) (none:Option Nat))),(bD (bx oL z.1.2.1 z.1.2.2.1)),(pO fA (ln.ag.n+1) (dJ z.1.2.2.1 (ln.ag.n+1)))]) (fun z=>ln.ag.n-z.1.1) ⟨(0,[[((aI.mk 0 0),ri.Start)]],[ga],([]:List Nat)),C⟩ U (aN U) (aB [0,1,2,3,4,5,6,7,8]) ?_;clear C;rintro ⟨⟨b,fs,fb,Lk⟩,⟨DA,AP,DC,M⟩⟩ J8 Ne
   try dsimp only at DA AP DC M
   try dsimp only
   have T0:(dJ fb (ln.ag.n+1)).length=(ln.ag.n+1):=oX I;refine aq bS 6 ?_;refine bY U (aH fun M2=>?_) (aG fun M2=>?_)
   ·refine aS aW 7 U<|AL U jW fun r=>IN U GI U U<|aq aj 3 ?_;refine cP bX [6,8] [6] [0] [0,1,2,3,4,5,6,7,8] [0,1,2,3,4,5,6,7,8,9] U U U U U<|eS U (FQ 3 U bP U)<|eS U (SX (bK U U) U U)<|eS U (FA 12 U eB U)<|eS U (MO (vS fA (ln.ag.n+1) (ln.ag.n+1)) 2 U bP U U)<|eS U (FQ 0 U bP U)<|eS U (BI U (jw ⟨I,I⟩)) ?_;obtain ⟨Qr,LT⟩:=ax (dJ fb (ln.ag.n+1)) (b+1) I;have hx17m:(map oC (dJ fb (ln.ag.n+1)))[(b+1)]? =some (oC Qr):=by rw [gM,LT];rfl
    refine fS U (IA (b+1) U (ak (n:=(ln.ag.n+1)) 9 U sq) p6 dc I I) ?_;refine dI U<|gu U fun T18 IO=>lj (kV:=eO) U U fun B=>?_
    try dsimp only
    refine bG (IO _ _ (aB [1,2,3,4,5,6,7,8,9]) (aB [1,2,3,4,5,6,7,8,9,10]) ?_);refine bQ U fun T20 IR=>?_;have J5:((dJ fb (ln.ag.n+1)).set (b+1) (some B))=(dJ (fb++[B]) (ln.ag.n+1)):=by exact ua I I
    refine ej (k:=(b+1)) (o:=0) (vs:=[(Value.map (some B))]) (es':=(map oC (dJ (fb++[B]) (ln.ag.n+1)))) (C':=[_,_,_,_,_,_,_,_,_,_,(pO fA (ln.ag.n+1) (dJ (fb++[B]) (ln.ag.n+1)))]) 10 U U U N0 U U U U hx17m U dc (by exact (AAl (f:=oC) (l:=(dJ fb (ln.ag.n+1))) (i:=(b+1)) (a:=(some B))).symm.trans (c7 _ J5)) U<|bG (IR _ _ (aB [1,2,3,4,5,6,7,8,9]) ?_);refine eJ U<|aq jE 2 ?_;have Or:(dJ (fb++[B]) (ln.ag.n+1)).length=(ln.ag.n+1):=oX (by simp;omega);obtain ⟨mb,N⟩:=ax fs b I;obtain ⟨ga,Y⟩:=ax fb b I;refine BJ 9 N Y U U U ?_
    try dsimp only
    refine cK bX 7 kr<|jZ 1 [] (mc 6 U mn) U<|dS (SX (bK U U) U U)<|dP 3 [0,1] (mr 5 U (mc 3 U mn)) ?_;have Ke:(map oC (dJ (fb++[B]) (ln.ag.n+1)))[b]? =some (oC (some ga)):=sJ (ox (Nx Y));refine dS (IA b U (ak (n:=(ln.ag.n+1)) 11 U sq) p6 dc I I) ?_;refine dS (gG b 0 (Value.map (some ga)) U bP (ak (n:=(dJ (fb++[B]) (ln.ag.n+1)).length) 11 U sm) Ke U dc U)<|cy<|xO 0 U U qN U U fun A5=>?_
    try dsimp only
    refine aq aj 3 ?_;have C:(∀ p∈mb,p∈mb)∧(AY (cQ ln ri e tms) b ([]:FM))∧(lv (cQ ln ri e tms) b mb ([]:FM) mb):=by exact ⟨fun p hp=>hp,AY.start,lv.start⟩
    refine zf (ι:={z:FM×FM×(List Nat) // (∀ p∈z.1,p∈mb)∧(AY (cQ ln ri e tms) b z.2.1)∧(lv (cQ ln ri e tms) b mb z.2.1 z.1)}) (fun z=>z.1.2.2.map jD) (fun z=>[(0,(vP gw)),(1,(vP W)),(2,(vI (ln.ag.n:Int))),(3,(vP r)),(52,(vI (ln.ag.n:Int))),(53,(vI (b:Int))),(71,(vP A5))]) (fun z=>[(CF eO A5 ga (bR iV mb) (bR iV z.1.1) none),(bD (fH oL fs fb b)),(iu eO B (bR iV z.1.2.1)),(cb r 3 [(vI (b:Int))]),(bD (z.1.2.2.map ny)),(cb gw 343 (cj.cells (cj.mk ln ri (aV.mk e_A e.length e_C) (aV.mk t_A tms.length t_C) (aV.mk fA (ln.ag.n+1) (ln.ag.n+1)) (aV.mk bA (ln.ag.n+1) (ln.ag.n+1))))).ro,(cb W 301 [(vP gw)]),(eE e_A e).ro,(rd t_A tms.length 1 (zipWith g5 tms tb)).ro,(iX (bx rJ tms tb)).ro,(pO bA (ln.ag.n+1) (replicate (ln.ag.n+1) (none:Option Nat))),(pO fA (ln.ag.n+1) (dJ (fb++[B]) (ln.ag.n+1)))]) (fun z=>z.1.1.length) ⟨(mb,([]:FM),Lk),C⟩ U (aN U) (aB [0,1,2,3,4,5,6,7,8,9,10,11]) ?_;clear C;rintro ⟨⟨left,m,An⟩,⟨Z,c,d⟩⟩ J26 GE
    try dsimp only at Z c d
    try dsimp only
    refine aq bS 2 ?_;refine vp rh.inj (f:=iV) 0 U U U U (fun NE=>?_) (fun t v hm DL=>?_)
    ·refine aS aj 6 U<|aq fD 7 ?_;refine O9 (C':=[(iu eO ga (bR iV mb)),(bD (fH oL fs fb b)),(iu eO B (bR iV m)),(cb r 3 [(vI (b:Int))]),(bD (An.map ny)),(cb gw 343 (cj.cells (cj.mk ln ri (aV.mk e_A e.length e_C) (aV.mk t_A tms.length t_C) (aV.mk fA (ln.ag.n+1) (ln.ag.n+1)) (aV.mk bA (ln.ag.n+1) (ln.ag.n+1))))).ro,(cb W 301 [(vP gw)]),(eE e_A e).ro,(rd t_A tms.length 1 (zipWith g5 tms tb)).ro,(iX (bx rJ tms tb)).ro,(pO bA (ln.ag.n+1) (replicate (ln.ag.n+1) (none:Option Nat))),(pO fA (ln.ag.n+1) (dJ (fb++[B]) (ln.ag.n+1)))]) 0 U QD U<|O2 1 0 N Y U U U ?_
     try dsimp only
     refine Cd (X':=bx oL (fs++[m]) (fb++[B])) 0 1 U U (Cj I U) ?_
     try dsimp only
     have J6:(vI (((b+1):Nat):Int))=(vI ((b:Int)+1)):=by exact cI I
     refine aL (Ne ⟨((b+1),(fs++[m]),(fb++[B]),An),⟨I,by simp;omega,by simp;omega,M.add AP N c d NE⟩⟩ _ _ _ U os (cx 4<|aQ U J6<|cS.nil _) (aB [2,3,4,5,6,7,8,0,9]))
    try dsimp only
    refine aS aj 10 U<|rS (SX (vK 0 U U U) U U)<|aS aj 2 U<|AL U wJ fun Dw=>AL U jW fun EQ=>o8 U uY U<|IN U GI U U<|cm aj 6 [0,1] (mc 8 U (mc 5 U mn)) ?_;refine cX (yr gw b) (aA) U fun R2 R8=>?_;obtain ⟨A8,Bx⟩:=R2
    try dsimp only
    refine aq aj 3 ?_;refine iy 11 U (by exact fun _ h=>h)<|iy 13 U (by exact fun _ h=>h)<|iy 15 U (by exact fun _ h=>h)<|iy 12 U (by exact fun _ h=>h) ?_;refine px (L0:=[(0,(vP gw)),(1,(vP W)),(2,(vI (ln.ag.n:Int))),(3,(vP r)),(4,(vP Dw)),(5,(vP EQ)),(52,(vI (ln.ag.n:Int))),(53,(vI (b:Int))),(71,(vP A5))]) (F:=[(eE e_A e).ro,(rd t_A tms.length 1 (zipWith g5 tms tb)).ro,(iX (bx rJ tms tb)).ro,(cb gw 343 (cj.cells (cj.mk ln ri (aV.mk e_A e.length e_C) (aV.mk t_A tms.length t_C) (aV.mk fA (ln.ag.n+1) (ln.ag.n+1)) (aV.mk bA (ln.ag.n+1) (ln.ag.n+1))))).ro,(cb A8 301 [(vP gw)]),(cb Bx 3 [(vI (b:Int))])]) (fun k (y:FM)=>(pK (cQ ln ri e tms) b mb left y (t,v) k)) (fun k y=>[(cb EQ 3 [(vI v)]),(cb Dw 348 (aI.cells t)),(CF eO A5 ga (bR iV mb) (bR iV (cH left t)) (some (t,(vI v)))),(bD (fH oL fs fb b)),(iu eO B (bR iV y)),(cb r 3 [(vI (b:Int))]),(bD (An.map ny)),(cb gw 343 (cj.cells (cj.mk ln ri (aV.mk e_A e.length e_C) (aV.mk t_A tms.length t_C) (aV.mk fA (ln.ag.n+1) (ln.ag.n+1)) (aV.mk bA (ln.ag.n+1) (ln.ag.n+1))))).ro,(cb W 301 [(vP gw)]),(eE e_A e).ro,(rd t_A tms.length 1 (zipWith g5 tms tb)).ro,(iX (bx rJ tms tb)).ro,(pO bA (ln.ag.n+1) (replicate (ln.ag.n+1) (none:Option Nat))),(pO fA (ln.ag.n+1) (dJ (fb++[B]) (ln.ag.n+1)))]) (fun _ (_:Unit)=>False) (fun _ _=>[]) [6,7,8,9,10,11,12,13,14,15,16,17,18,19] [3,2,1,0,4,5] m rfl rfl (vy ln ri e tms e_A e_C tb t_A t_C fA (ln.ag.n+1) (ln.ag.n+1) bA (ln.ag.n+1) (ln.ag.n+1) gw b A8 Bx I I) rfl rfl rfl (by exact pK.start c d) (by simp only [AAI,h_,AAs,AAv,ABC];exact ⟨⟨_,aF (i:=0) rfl,(df (bL _))⟩,⟨_,aF (i:=1) rfl,(df (bL _))⟩,⟨_,aF (i:=2) rfl,(df (bL _))⟩,⟨_,aF (i:=3) rfl,(df (bL _))⟩,⟨_,aF (i:=4) rfl,(bL _)⟩,⟨_,aF (i:=5) rfl,(bL _)⟩⟩) (by rintro k x k2 ⟨o,_,rfl,_⟩;rfl) rfl (aN rfl) ?_ ?_ (fun _ _ _ h=>h.elim) (fun _ _ h=>h.elim);rotate_left 1
    ·rintro P4 k O AO Ct;have D:=Ct
     try dsimp only
     refine aq jE 2 ?_;refine No (X:=An.map ny) 13 0 U U ?_
     try dsimp only
     refine iM 9 U z8 U ?_;refine aL (GE ⟨((cH left t),O,(P4::An)),⟨ot Z,D.on,D.next DL hm AO⟩⟩ _ _ _ U (e7 hm) (aN U) (aB [9,10,11,12,0,4,14,1,2,3,18,19]))
    rintro k x k2 O l ra rb S w1 K39 Qr40 Pi hx Cp GV H R0 R4;obtain ⟨o,ho,rfl,rfl⟩:=hx;have D:=Cp
    try dsimp only
    refine aS bS 6 U<|AL U dA fun ST=>eN U cJ U<|aq aj 1 ?_;refine ke (fun _ _ h=>h) (aB [1,0,2,3,4,5,6,7,8,9,10,11,12,13,14,15])<|aL (GV _ _ ?_);refine aq bS 2 ?_;refine cP bX [16,18] [] [] [0,1,2,3,4,5,6,7,8,9,10,11,12,13,14,15] [] U U U U U<|eS U (FQ 2 U bP U)<|eS U (FQ 10 U bP U)<|eS U (SX (bK U U) U U)<|eS U (FA 10 U eB U)<|eS U (MO (vS e_A e.length e_C) 9 U bP U U)<|eS U (FQ 7 U bP U) ?_;obtain ⟨y,hy⟩:=ax e b I;have Di:=bw iC hy;refine eS U (IA b U (au 11 U) cM dc I I)<|eS U (gG b 0 (vI y) U bP (au 11 U) Di U dc U) ?_;have Op:=hw.least y (aF hy);have hp:=M.mem N (Z _ hm);have Od:=PU hw _ _ hp;have PP:=xy o.1;have PR:=hw.opt ho;have T2:=hw.now;dsimp only at Od;refine eS U (BI U (jw ⟨I,I⟩))<|eS U (FA 0 U eB U)<|eS U (L1 (vI o.2.Lo) 1 U bP U U)<|eS U (MX U)<|eS U (LW 3 U bP U U)<|eS U (MV U)<|eS U (CL (Pc o.1) (aA) U)<|eS U (CL (ze t (gT o.1) I I) (aA) U)<|eS U (AG U)<|dI U<|bQ U fun T45 Id=>AL U wJ fun S1=>bG (Id _ _ (aB [1,2,3,4,5,6,7,8,9,10,11,12,13,14,15,16]) ?_);refine bQ U fun T47 If=>eN U uY U<|bG (If _ _ (aB [1,2,3,4,5,6,7,8,9,10,11,12,13,14,15,16]) ?_);refine eJ U<|aS jE 2 U<|cK bX 15 kr<|jZ 1 [] (mc 11 U mn) U<|dS (SX (bK U U) U U)<|dP 4 [0,1] (mr 10 U (mc 8 U mn)) ?_;have K0:(map oC (dJ (fb++[B]) (ln.ag.n+1)))[(b+1)]? =some (oC (some B)):=sJ (ox (D0 I));refine dS (IA (b+1) U (ak (n:=(ln.ag.n+1)) 16 U sq) p6 dc I I) ?_;refine dS (gG (b+1) 0 (Value.map (some B)) U bP (ak (n:=(dJ (fb++[B]) (ln.ag.n+1)).length) 16 U sm) K0 U dc U)<|jZ 1 [] (mc 0 U mn) U<|dS (SX (rK (kV:=eO) (x:=(dZ t (gT o.1))) (l:=O) (f:=iV) (z:=0) U U U qN rh tv3 (by exact au 7 U)) U U)<|iR 5 U<|cy<|aS aj 3 U<|cK bX 19 kr<|jZ 4 [0,1] (mc 2 U (mc 11 U mn)) U<|dS (SX (bK U U) U U)<|jZ 3 [] (mr 10 U mn) U<|dS (MN U)<|dP 2 [] mn ?_;refine iQ (t:=121) U (aG fun P=>?_) (aH fun P=>?_)
    ·refine iR 8 U<|cy<|aq aj 5 ?_;exact H O _ _ (by exact D.skip (QT hy P)) (aB [1,3,4,5,6,7,8,9,10,11,12,13,14,15,16])
    refine dP 3 [] mn ?_;refine iJ (t:=124) U (fun R=>?_) (fun R=>?_)
    ·rw [e0] at R;refine iR 5 U<|cy<|aS aj 3 U<|cK bX 10 kr<|jZ 1 [] (mc 11 U mn) U<|dS (SX (bK U U) U U)<|dP 4 [0,1] (mr 10 U (mc 8 U mn)) ?_;have K8:(map oC (dJ (fb++[B]) (ln.ag.n+1)))[(b+1)]? =some (oC (some B)):=sJ (ox (D0 I));refine dS (IA (b+1) U (ak (n:=(ln.ag.n+1)) 16 U sq) p6 dc I I) ?_;refine dS (gG (b+1) 0 (Value.map (some B)) U bP (ak (n:=(dJ (fb++[B]) (ln.ag.n+1)).length) 16 U sm) K8 U dc U)<|jZ 2 [] (mc 0 U mn) U<|cy<|iP (kV:=eO) (x:=(dZ t (gT o.1))) (C':=[_,_,_,_,_,_,_,(iu eO B (bR iV (d_ O (dZ t (gT o.1)) (max (v+y) o.2.Lo)))),_,_,_,_,_,_,_,_,_]) 7 U U U U qN rh U (gH _ _ _ _).symm U<|aq aj 2 ?_;exact H (d_ O (dZ t (gT o.1)) (max (v+y) o.2.Lo)) _ _ (by exact D.set hp ho (Dm hy P) (.inl (by simpa using R))) (aB [1,3,4,5,6,7,8,9,10,11,12,13,14,15,16])
    rw [m5] at R;refine iR 5 U<|cy<|aq aj 2 ?_;refine bE U (aG fun s=>?_) (aH fun s=>?_)
    ·refine aq aW 2 ?_;exact H O _ _ (by exact D.qK (Dm hy P) (by simpa using R) s) (aB [1,3,4,5,6,7,8,9,10,11,12,13,14,15,16])
    refine cK bX 10 kr<|jZ 1 [] (mc 11 U mn) U<|dS (SX (bK U U) U U)<|dP 4 [0,1] (mr 10 U (mc 8 U mn)) ?_;have LA:(map oC (dJ (fb++[B]) (ln.ag.n+1)))[(b+1)]? =some (oC (some B)):=sJ (ox (D0 I));refine dS (IA (b+1) U (ak (n:=(ln.ag.n+1)) 16 U sq) p6 dc I I) ?_;refine dS (gG (b+1) 0 (Value.map (some B)) U bP (ak (n:=(dJ (fb++[B]) (ln.ag.n+1)).length) 16 U sm) LA U dc U)<|jZ 2 [] (mc 0 U mn) U<|cy<|iP (kV:=eO) (x:=(dZ t (gT o.1))) (C':=[_,_,_,_,_,_,_,(iu eO B (bR iV (d_ O (dZ t (gT o.1)) (max (v+y) o.2.Lo)))),_,_,_,_,_,_,_,_,_]) 7 U U U U qN rh U (gH _ _ _ _).symm U<|aq aj 2 ?_;exact H (d_ O (dZ t (gT o.1)) (max (v+y) o.2.Lo)) _ _ (by exact D.set hp ho (Dm hy P) (.inr s)) (aB [1,3,4,5,6,7,8,9,10,11,12,13,14,15,16])
   refine aS aW 1 U<|aS fD 5 U<|AL U jW fun L2=>IN U GI U U<|aq aj 3 ?_;rw [Kn];refine mj ?_;have C:(0≤ln.ag.n+1)∧(([]:List FM).length=0)∧(([]:List Nat).length=0)∧(jh (cQ ln ri e tms) (ln.ag.n+1-0) ([]:List FM)):=by exact ⟨c4 _,rfl,rfl,jh.none_⟩
   refine zf (ι:={z:Nat×(List FM)×(List Nat)×Nat×(List Nat) // (z.1≤ln.ag.n+1)∧(z.2.1.length=z.1)∧(z.2.2.1.length=z.1)∧(jh (cQ ln ri e tms) (ln.ag.n+1-z.1) z.2.1)}) (fun z=>z.1.2.2.2.2.map jD) (fun z=>[(0,(vP gw)),(1,(vP W)),(2,(vI (ln.ag.n:Int))),(12,(Value.pointer (some ⟨z.1.2.2.2.1,0,none⟩)))]) (fun z=>[(bD (bx oL z.1.2.1 z.1.2.2.1)),(cb z.1.2.2.2.1 3 [(vI ((ln.ag.n:Int)-(z.1.1:Int)))]),(bD (z.1.2.2.2.2.map ny)),(cb gw 343 (cj.cells (cj.mk ln ri (aV.mk e_A e.length e_C) (aV.mk t_A tms.length t_C) (aV.mk fA (ln.ag.n+1) (ln.ag.n+1)) (aV.mk bA (ln.ag.n+1) (ln.ag.n+1))))).ro,(cb W 301 [(vP gw)]),(eE e_A e).ro,(rd t_A tms.length 1 (zipWith g5 tms tb)).ro,(iX (bx rJ tms tb)).ro,(pO bA (ln.ag.n+1) (iZ z.1.2.2.1 (ln.ag.n+1))),(bD (bx oL fs fb)),(pO fA (ln.ag.n+1) (dJ fb (ln.ag.n+1)))]) (fun z=>ln.ag.n+1-z.1.1) ⟨(0,([]:List FM),([]:List Nat),L2,Lk),C⟩ U (aN U) (aB [0,1,2,3,4,5,6,7,8,9,10]) ?_;clear C;rintro ⟨⟨j,bs,bb,gq,g⟩,⟨A2,A3,A4,E⟩⟩ J57 A7
   try dsimp only at A2 A3 A4 E
   try dsimp only
   refine cm bS 7 [] (mc 1 U mn) ?_;refine bE U (aG fun Fd=>?_) (aH fun Fd=>?_)
   ·refine aS aW 1 U<|aq fD 1 ?_;rw [show (map oC (dJ fb (ln.ag.n+1)))=(zipWith g5 fs fb) from by rw [BZ I];exact (Dk I).symm];rw [show (map oC (iZ bb (ln.ag.n+1)))=(zipWith g5 bs bb) from by rw [KW I];exact (Dk I).symm];refine Dy (C1:=[(own fA (ln.ag.n+1) 346 1 (zipWith g5 fs fb)),(bD (bx oL fs fb)),(own bA (ln.ag.n+1) 346 1 (zipWith g5 bs bb)),(bD (bx oL bs bb)),(bD (g.map ny))]) hz [10,9,8,0,2] U U (by simp only [eX,om,Iw,RL,n4];rfl) ?_;rw [show (cb gw 343 (cj.cells (cj.mk ln ri (aV.mk e_A e.length e_C) (aV.mk t_A tms.length t_C) (aV.mk fA (ln.ag.n+1) (ln.ag.n+1)) (aV.mk bA (ln.ag.n+1) (ln.ag.n+1)))))=(cb gw 343 (cj.cells (cj.mk ln ri (aV.mk e_A e.length e_C) (aV.mk t_A tms.length t_C) (aV.mk fA fs.length (ln.ag.n+1)) (aV.mk bA bs.length (ln.ag.n+1))))) from by rw [show fs.length=(ln.ag.n+1) from by omega,show bs.length=(ln.ag.n+1) from by omega]];refine UY [(cb gw 343 (cj.cells (cj.mk ln ri (aV.mk e_A e.length e_C) (aV.mk t_A tms.length t_C) (aV.mk fA fs.length (ln.ag.n+1)) (aV.mk bA bs.length (ln.ag.n+1))))),(own fA (ln.ag.n+1) 346 1 (zipWith g5 fs fb)),(bD (bx oL fs fb)),(own bA (ln.ag.n+1) 346 1 (zipWith g5 bs bb)),(bD (bx oL bs bb))] [(bD (g.map ny))] ?_;refine hN _ _ _ (Qp 1 U U<|g4 (vs:=[]) trivial fun w hs=>Xa (fs,fb,fA,(ln.ag.n+1),bs,bb,bA,(ln.ag.n+1)) 0 ?_ ?_ U (by show List.all _ _=true;simp only [eX,om,Iw,n4];rfl) hs)
    ·clear hs w hQ hN ;rfl
    ·clear hs w hQ hN ;exact ⟨M.ok (by show fs.length=e.length+1;omega),jh.ok (by have:=E;rwa [show ln.ag.n+1-j=0 by omega] at this) (by show bs.length=e.length+1;omega),dso,dso⟩
   refine aq aW 5 ?_;obtain ⟨b,TZ⟩: ∃ b:Nat,b+j=ln.ag.n:=⟨ln.ag.n-j,I⟩;rw [show (ln.ag.n:Int)-(j:Int)=(b:Int) from by omega];have R7:(iZ bb (ln.ag.n+1)).length=(ln.ag.n+1):=CX I;refine cP bX [5,12,13,15] [11] [0,1,2] [0,1,2,3,4,5,6,7,9,10] [0,1,2,3,4,5,6,7,8,9,10] U U U U U<|eS U (FQ 4 U bP U)<|eS U (SX (bK U U) U U)<|eS U (FA 13 U eB U)<|eS U (MO (vS bA (ln.ag.n+1) (ln.ag.n+1)) 3 U bP U U)<|eS U (FQ 1 U bP U)<|eS U (SX (aU (xs:=[]) (cs:=(aI.cells (aI.mk 0 0))) U U (aT Fs U)) U U)<|eS U (FQ 4 U bP U)<|eS U (SX (bK U U) U U)<|eS U (FA 7 U eB U)<|eS U (FA 8 U eB U)<|eS U (MO (vI ri.hU) 3 U bP U U) ?_;obtain ⟨Ro,La⟩:=ax (iZ bb (ln.ag.n+1)) b I;have hx63m:(map oC (iZ bb (ln.ag.n+1)))[b]? =some (oC Ro):=by rw [gM,La];rfl
   refine fS U (IA b U (ak (n:=(ln.ag.n+1)) 8 U sq) p6 dc I I) ?_;refine dI U<|gu U fun T64 In=>lj (kV:=eO) U U fun A=>?_
   try dsimp only
   refine bG (In _ _ (aB [1,2,3,4,5,6,7,8,10,11]) (aB [1,2,3,4,5,6,7,8,9,10,11]) ?_);refine gu U fun T66 JR=>?_;have J7:(d_ ([]:List (aI×Int)) (aI.mk 0 0) ri.hU)=[((aI.mk 0 0),ri.hU)]:=by rfl
   refine CY (kV:=eO) (x:=(aI.mk 0 0)) (C':=[(iu eO A (bR iV ([((aI.mk 0 0),ri.hU)]))),_,_,_,_,_,_,_,_,_,_,_]) 0 U U U U qN rh U ((gH _ _ _ _).symm.trans (c7 _ J7)) U<|bG (JR _ _ (aB [1,2,3,4,5,6,7,8,10,11]) (aB [1,2,3,4,5,6,7,8,9,10,11]) ?_);refine gu U fun T68 JZ=>rS (MV U)<|bG (JZ _ _ (aB [1,2,3,4,5,6,7,8,10,11]) (aB [1,2,3,4,5,6,7,8,9,10,11]) ?_);refine bQ U fun T69 J2=>?_;have J9:((iZ bb (ln.ag.n+1)).set b (some A))=(iZ (A::bb) (ln.ag.n+1)):=by exact Kg I
   refine ej (k:=b) (o:=0) (vs:=[(Value.map (some A))]) (es':=(map oC (iZ (A::bb) (ln.ag.n+1)))) (C':=[_,_,_,_,_,_,_,_,_,(pO bA (ln.ag.n+1) (iZ (A::bb) (ln.ag.n+1))),_,_]) 9 U U U N0 U U U U hx63m U dc (by exact (AAl (f:=oC) (l:=(iZ bb (ln.ag.n+1))) (i:=b) (a:=(some A))).symm.trans (c7 _ J9)) U<|bG (J2 _ _ (aB [1,2,3,4,5,6,7,8,10,11]) ?_);refine eJ U<|cm jE 9 [] (mc 2 U mn) ?_;refine bY U (aH fun Fi=>?_) (aG fun Fi=>?_)
   ·refine dD aW 9 [] (mc 2 U mn) U<|AL U jW fun L3=>IN U GI U U<|dD aj 5 [] (mc 0 U mn) U<|IN U GI U U<|aq aj 1 ?_;rw [show (b:Int)-1=(ln.ag.n:Int)-(((j+1):Nat):Int) from by omega];refine Cg (ms:=bs) (m:=[((aI.mk 0 0),ri.hU)]) (a:=A) 2 1 U U U ?_
    try dsimp only
    refine aL (A7 ⟨((j+1),([((aI.mk 0 0),ri.hU)]::bs),(A::bb),L3,g),⟨I,by simp;omega,by simp;omega,by exact jh.end_ (b:=b) E I I (by show e.length≤b;omega)⟩⟩ _ _ _ U os (aN U) (aB [0,1,3,4,5,6,7,8,9,10,11]))
   refine aq aW 3 ?_;have Os:(iZ (A::bb) (ln.ag.n+1)).length=(ln.ag.n+1):=CX (by simp;omega);obtain ⟨mb,N⟩:=ax bs 0 I;obtain ⟨ga,Y⟩:=ax bb 0 I;refine BJ 1 N Y U U U ?_
   try dsimp only
   refine cK bX 8 kr<|jZ 1 [] (mc 6 U mn) U<|dS (SX (bK U U) U U)<|dP 4 [0,1] (mr 5 U (mc 3 U mn)) ?_;have LE:(map oC (iZ (A::bb) (ln.ag.n+1)))[(b+1)]? =some (oC (some ga)):=sJ (vY (i:=1) (by simpa using Y) (by simp;omega));refine dS (IA (b+1) U (ak (n:=(ln.ag.n+1)) 10 U sq) p6 dc I I) ?_;refine dS (gG (b+1) 0 (Value.map (some ga)) U bP (ak (n:=(iZ (A::bb) (ln.ag.n+1)).length) 10 U sm) LE U dc U)<|cy<|xO 0 U U qN U U fun A6=>?_
   try dsimp only
   refine aq aj 3 ?_;have C:(∀ p∈mb,p∈mb)∧(zc (cQ ln ri e tms) b ([((aI.mk 0 0),ri.hU)]))∧(kS (cQ ln ri e tms) b mb ([((aI.mk 0 0),ri.hU)]) mb):=by exact ⟨fun p hp=>hp,zc.start (by show b<e.length;omega),kS.start⟩
   refine zf (ι:={z:FM×FM×(List Nat) // (∀ p∈z.1,p∈mb)∧(zc (cQ ln ri e tms) b z.2.1)∧(kS (cQ ln ri e tms) b mb z.2.1 z.1)}) (fun z=>z.1.2.2.map jD) (fun z=>[(0,(vP gw)),(1,(vP W)),(2,(vI (ln.ag.n:Int))),(12,(vP gq)),(171,(vP A6))]) (fun z=>[(CF eO A6 ga (bR iV mb) (bR iV z.1.1) none),(bD (fH oL bs bb 0)),(iu eO A (bR iV z.1.2.1)),(cb gq 3 [(vI (b:Int))]),(bD (z.1.2.2.map ny)),(cb gw 343 (cj.cells (cj.mk ln ri (aV.mk e_A e.length e_C) (aV.mk t_A tms.length t_C) (aV.mk fA (ln.ag.n+1) (ln.ag.n+1)) (aV.mk bA (ln.ag.n+1) (ln.ag.n+1))))).ro,(cb W 301 [(vP gw)]),(eE e_A e).ro,(rd t_A tms.length 1 (zipWith g5 tms tb)).ro,(iX (bx rJ tms tb)).ro,(pO bA (ln.ag.n+1) (iZ (A::bb) (ln.ag.n+1))),(bD (bx oL fs fb)),(pO fA (ln.ag.n+1) (dJ fb (ln.ag.n+1)))]) (fun z=>z.1.1.length) ⟨(mb,[((aI.mk 0 0),ri.hU)],g),C⟩ U (aN U) (aB [0,1,2,3,4,5,6,7,8,9,10,11,12]) ?_;clear C;rintro ⟨⟨left,m,V⟩,⟨J,K,L⟩⟩ J80 GT
   try dsimp only at J K L
   try dsimp only
   refine aq bS 2 ?_;refine vp rh.inj (f:=iV) 0 U U U U (fun Fn=>?_) (fun t v hm DL=>?_)
   ·refine aS aj 6 U<|dD fD 10 [] (mc 3 U mn) U<|AL U jW fun EY=>IN U GI U U<|dD aj 5 [] (mc 0 U mn) U<|IN U GI U U<|aq aj 1 ?_;refine O9 (C':=[(cb EY 3 [(vI ((b:Int)-1))]),(iu eO ga (bR iV mb)),(bD (fH oL bs bb 0)),(iu eO A (bR iV m)),(cb gq 3 [(vI (b:Int))]),(bD (V.map ny)),(cb gw 343 (cj.cells (cj.mk ln ri (aV.mk e_A e.length e_C) (aV.mk t_A tms.length t_C) (aV.mk fA (ln.ag.n+1) (ln.ag.n+1)) (aV.mk bA (ln.ag.n+1) (ln.ag.n+1))))).ro,(cb W 301 [(vP gw)]),(eE e_A e).ro,(rd t_A tms.length 1 (zipWith g5 tms tb)).ro,(iX (bx rJ tms tb)).ro,(pO bA (ln.ag.n+1) (iZ (A::bb) (ln.ag.n+1))),(bD (bx oL fs fb)),(pO fA (ln.ag.n+1) (dJ fb (ln.ag.n+1)))]) 1 U QD U<|O2 2 1 N Y U U U ?_
    try dsimp only
    rw [show (b:Int)-1=(ln.ag.n:Int)-(((j+1):Nat):Int) from by omega];refine Cg (ms:=bs) (m:=m) (a:=A) 0 2 U U U ?_
    try dsimp only
    refine aL (A7 ⟨((j+1),(m::bs),(A::bb),EY,V),⟨I,by simp;omega,by simp;omega,by exact jh.more (b:=b) E I I (by show b<e.length;omega) N K L Fn⟩⟩ _ _ _ U os (aN U) (aB [0,1,3,4,5,6,7,8,9,10,11]))
   try dsimp only
   refine aS aj 10 U<|rS (SX (vK 0 U U U) U U)<|aS aj 2 U<|AL U wJ fun Eq=>AL U jW fun FS=>o8 U uY U<|IN U GI U U<|cm aj 6 [0,1] (mc 8 U (mc 5 U mn)) ?_;refine cX (yr gw b) (aA) U fun R3 R9=>?_;obtain ⟨A9,By⟩:=R3
   try dsimp only
   refine aq aj 3 ?_;refine iy 11 U (by exact fun _ h=>h)<|iy 13 U (by exact fun _ h=>h)<|iy 15 U (by exact fun _ h=>h)<|iy 12 U (by exact fun _ h=>h) ?_;refine px (L0:=[(0,(vP gw)),(1,(vP W)),(2,(vI (ln.ag.n:Int))),(12,(vP gq)),(13,(vP Eq)),(14,(vP FS)),(171,(vP A6))]) (F:=[(eE e_A e).ro,(rd t_A tms.length 1 (zipWith g5 tms tb)).ro,(iX (bx rJ tms tb)).ro,(cb gw 343 (cj.cells (cj.mk ln ri (aV.mk e_A e.length e_C) (aV.mk t_A tms.length t_C) (aV.mk fA (ln.ag.n+1) (ln.ag.n+1)) (aV.mk bA (ln.ag.n+1) (ln.ag.n+1))))).ro,(cb A9 301 [(vP gw)]),(cb By 3 [(vI (b:Int))])]) (fun k (y:FM)=>(py (cQ ln ri e tms) b mb left y (t,v) k)) (fun k y=>[(cb FS 3 [(vI v)]),(cb Eq 348 (aI.cells t)),(CF eO A6 ga (bR iV mb) (bR iV (cH left t)) (some (t,(vI v)))),(bD (fH oL bs bb 0)),(iu eO A (bR iV y)),(cb gq 3 [(vI (b:Int))]),(bD (V.map ny)),(cb gw 343 (cj.cells (cj.mk ln ri (aV.mk e_A e.length e_C) (aV.mk t_A tms.length t_C) (aV.mk fA (ln.ag.n+1) (ln.ag.n+1)) (aV.mk bA (ln.ag.n+1) (ln.ag.n+1))))).ro,(cb W 301 [(vP gw)]),(eE e_A e).ro,(rd t_A tms.length 1 (zipWith g5 tms tb)).ro,(iX (bx rJ tms tb)).ro,(pO bA (ln.ag.n+1) (iZ (A::bb) (ln.ag.n+1))),(bD (bx oL fs fb)),(pO fA (ln.ag.n+1) (dJ fb (ln.ag.n+1)))]) (fun _ (_:Unit)=>False) (fun _ _=>[]) [6,7,8,9,10,11,12,13,14,15,16,17,18,19,20] [3,2,1,0,4,5] m rfl rfl (vy ln ri e tms e_A e_C tb t_A t_C fA (ln.ag.n+1) (ln.ag.n+1) bA (ln.ag.n+1) (ln.ag.n+1) gw b A9 By I I) rfl rfl rfl (by exact py.start K L) (by simp only [AAI,h_,AAs,AAv,ABC];exact ⟨⟨_,aF (i:=0) rfl,(df (bL _))⟩,⟨_,aF (i:=1) rfl,(df (bL _))⟩,⟨_,aF (i:=2) rfl,(df (bL _))⟩,⟨_,aF (i:=3) rfl,(df (bL _))⟩,⟨_,aF (i:=4) rfl,(bL _)⟩,⟨_,aF (i:=5) rfl,(bL _)⟩⟩) (by rintro k x k2 ⟨o,_,rfl,_⟩;rfl) rfl (aN rfl) ?_ ?_ (fun _ _ _ h=>h.elim) (fun _ _ h=>h.elim);rotate_left 1
   ·rintro Li k O AO A1;have D:=A1
    try dsimp only
    refine aq jE 2 ?_;refine No (X:=V.map ny) 13 0 U U ?_
    try dsimp only
    refine iM 9 U z8 U ?_;refine aL (GT ⟨((cH left t),O,(Li::V)),⟨ot J,D.on,D.next DL hm AO⟩⟩ _ _ _ U (e7 hm) (aN U) (aB [9,10,11,12,0,4,14,1,2,3,18,19,20]))
   rintro k x k2 O l ra rb S w1 K95 Qr96 Pi hx Cx Go AB R1 R5;obtain ⟨o,ho,rfl,rfl⟩:=hx;have D:=Cx
   try dsimp only
   refine aS bS 6 U<|AL U dA fun S2=>eN U cJ U<|aq aj 1 ?_;refine ke (fun _ _ h=>h) (aB [1,0,2,3,4,5,6,7,8,9,10,11,12,13,14,15,16])<|aL (Go _ _ ?_);refine aq bS 2 ?_;refine cP bX [16,18] [] [] [0,1,2,3,4,5,6,7,8,9,10,11,12,13,14,15,16] [] U U U U U<|eS U (FQ 2 U bP U)<|eS U (FA 1 U eB U)<|eS U (L1 (vI o.2.Hi) 1 U bP U U) ?_;have hp:=E.aaQ (b:=b) I N (J _ hm);have OF:=PD hw hp;have PP:=xy o.1;have PR:=hw.opt ho;dsimp only at OF;refine eS U (MN U)<|eS U (FQ 10 U bP U)<|eS U (SX (bK U U) U U)<|eS U (FA 10 U eB U)<|eS U (MO (vS e_A e.length e_C) 9 U bP U U)<|eS U (FQ 7 U bP U) ?_;obtain ⟨y,hy⟩:=ax e b I;have Di:=bw iC hy;refine eS U (IA b U (au 11 U) cM dc I I)<|eS U (gG b 0 (vI y) U bP (au 11 U) Di U dc U) ?_;have Op:=hw.least y (aF hy);refine eS U (BI U (wK ⟨I,I⟩))<|eS U (LW 3 U bP U U)<|eS U (MV U)<|eS U (CL (Pc o.1) (aA) U)<|eS U (CL (ze t (gT o.1) I I) (aA) U)<|eS U (AG U)<|dI U<|bQ U fun T101 B7=>AL U wJ fun R6=>bG (B7 _ _ (aB [1,2,3,4,5,6,7,8,9,10,11,12,13,14,15,16,17]) ?_);refine bQ U fun T103 B9=>eN U uY U<|bG (B9 _ _ (aB [1,2,3,4,5,6,7,8,9,10,11,12,13,14,15,16,17]) ?_);refine eJ U<|aS jE 2 U<|cK bX 14 kr<|jZ 1 [] (mc 11 U mn) U<|dS (SX (bK U U) U U)<|dP 3 [0,1] (mr 10 U (mc 8 U mn)) ?_;have C0:(map oC (iZ (A::bb) (ln.ag.n+1)))[b]? =some (oC (some A)):=sJ (vY (i:=0) rfl (by simp;omega));refine dS (IA b U (ak (n:=(ln.ag.n+1)) 15 U sq) p6 dc I I) ?_;refine dS (gG b 0 (Value.map (some A)) U bP (ak (n:=(iZ (A::bb) (ln.ag.n+1)).length) 15 U sm) C0 U dc U)<|jZ 1 [] (mc 0 U mn) U<|dS (SX (rK (kV:=eO) (x:=(dZ t (gT o.1))) (l:=O) (f:=iV) (z:=0) U U U qN rh tv3 (by exact au 7 U)) U U)<|iR 5 U<|cy<|dD aj 7 [0,1] (mc 3 U (mc 2 U mn)) U<|rS (MN U)<|cm aj 4 [] (mc 2 U mn) ?_;refine cz (t:=217) U (aG fun T=>?_) (aH fun T=>?_)
   ·refine aq aj 13 ?_;exact AB O _ _ (by exact D.skip (Rz T)) (aB [1,3,4,5,6,7,8,9,10,11,12,13,14,15,16,17])
   refine aq aj 3 ?_;refine bJ (t:=220) U (fun AA=>?_) (fun AA=>?_)
   ·rw [e0] at AA;refine aS aj 8 U<|cK bX 9 kr<|jZ 1 [] (mc 11 U mn) U<|dS (SX (bK U U) U U)<|dP 3 [0,1] (mr 10 U (mc 8 U mn)) ?_;have C2:(map oC (iZ (A::bb) (ln.ag.n+1)))[b]? =some (oC (some A)):=sJ (vY (i:=0) rfl (by simp;omega));refine dS (IA b U (ak (n:=(ln.ag.n+1)) 15 U sq) p6 dc I I) ?_;refine dS (gG b 0 (Value.map (some A)) U bP (ak (n:=(iZ (A::bb) (ln.ag.n+1)).length) 15 U sm) C2 U dc U)<|jZ 2 [] (mc 0 U mn) U<|cy<|iP (kV:=eO) (x:=(dZ t (gT o.1))) (C':=[_,_,_,_,_,_,_,(iu eO A (bR iV (d_ O (dZ t (gT o.1)) ((min v o.2.Hi)-y)))),_,_,_,_,_,_,_,_,_,_]) 7 U U U U qN rh U (gH _ _ _ _).symm U<|aq aj 2 ?_;exact AB (d_ O (dZ t (gT o.1)) ((min v o.2.Hi)-y)) _ _ (by exact D.set (by show b<e.length;omega) hp ho (Dq hy T) (.inl (by simpa using AA))) (aB [1,3,4,5,6,7,8,9,10,11,12,13,14,15,16,17])
   rw [m5] at AA;refine aq aj 7 ?_;refine bE U (aG fun u=>?_) (aH fun u=>?_)
   ·refine aq aW 2 ?_;exact AB O _ _ (by exact D.qK (Dq hy T) (by simpa using AA) u) (aB [1,3,4,5,6,7,8,9,10,11,12,13,14,15,16,17])
   refine cK bX 9 kr<|jZ 1 [] (mc 11 U mn) U<|dS (SX (bK U U) U U)<|dP 3 [0,1] (mr 10 U (mc 8 U mn)) ?_;have C3:(map oC (iZ (A::bb) (ln.ag.n+1)))[b]? =some (oC (some A)):=sJ (vY (i:=0) rfl (by simp;omega));refine dS (IA b U (ak (n:=(ln.ag.n+1)) 15 U sq) p6 dc I I) ?_;refine dS (gG b 0 (Value.map (some A)) U bP (ak (n:=(iZ (A::bb) (ln.ag.n+1)).length) 15 U sm) C3 U dc U)<|jZ 2 [] (mc 0 U mn) U<|cy<|iP (kV:=eO) (x:=(dZ t (gT o.1))) (C':=[_,_,_,_,_,_,_,(iu eO A (bR iV (d_ O (dZ t (gT o.1)) ((min v o.2.Hi)-y)))),_,_,_,_,_,_,_,_,_,_]) 7 U U U U qN rh U (gH _ _ _ _).symm U<|aq aj 2 ?_;exact AB (d_ O (dZ t (gT o.1)) ((min v o.2.Hi)-y)) _ _ (by exact D.set (by show b<e.length;omega) hp ho (Dq hy T) (.inr u)) (aB [1,3,4,5,6,7,8,9,10,11,12,13,14,15,16,17])
  refine cP bX [4,11,12,14] [10] [0,1,2] [0,1,2,3,4,6] [0,1,2,3,4,5,6] U U U U U<|eS U (FQ 1 U bP U)<|eS U (SX (bK U U) U U)<|eS U (FA 12 U eB U)<|eS U (MO (vS fA (ln.ag.n+1) (ln.ag.n+1)) 0 U bP U U)<|eS U (SX (aU (xs:=[]) (cs:=(aI.cells (aI.mk 0 0))) U U (aT Fs U)) U U)<|eS U (FQ 1 U bP U)<|eS U (SX (bK U U) U U)<|eS U (FA 7 U eB U)<|eS U (FA 7 U eB U)<|eS U (MO (vI ri.Start) 0 U bP U U) ?_;obtain ⟨x6,Pl⟩:=ax (replicate (ln.ag.n+1) (none:Option Nat)) 0 I;have hx7m:(map oC (replicate (ln.ag.n+1) (none:Option Nat)))[0]? =some (oC x6):=by rw [gM,Pl];rfl
  refine fS U (IA 0 U (ak (n:=(ln.ag.n+1)) 5 U sq) p6 dc U I) ?_;refine dI U<|gu U fun T8 Ci=>lj (kV:=eO) U U fun q=>?_
  try dsimp only
  refine bG (Ci _ _ (aB [1,2,3,4,5,7]) (aB [1,2,3,4,5,6,7]) ?_);refine gu U fun T10 G=>?_;have J3:(d_ ([]:List (aI×Int)) (aI.mk 0 0) ri.Start)=[((aI.mk 0 0),ri.Start)]:=by rfl
  refine CY (kV:=eO) (x:=(aI.mk 0 0)) (C':=[(iu eO q (bR iV ([((aI.mk 0 0),ri.Start)]))),_,_,_,_,_,_,_]) 0 U U U U qN rh U ((gH _ _ _ _).symm.trans (c7 _ J3)) U<|bG (G _ _ (aB [1,2,3,4,5,7]) (aB [1,2,3,4,5,6,7]) ?_);refine gu U fun T12 Ha=>rS (MV U)<|bG (Ha _ _ (aB [1,2,3,4,5,7]) (aB [1,2,3,4,5,6,7]) ?_);refine bQ U fun T13 H1=>?_;have J4:((replicate (ln.ag.n+1) (none:Option Nat)).set 0 (some q))=(dJ [q] (ln.ag.n+1)):=by rw [ym];exact ua rfl sm
  refine ej (k:=0) (o:=0) (vs:=[(Value.map (some q))]) (es':=(map oC (dJ [q] (ln.ag.n+1)))) (C':=[_,_,_,_,_,_,(pO fA (ln.ag.n+1) (dJ [q] (ln.ag.n+1))),_]) 6 U U U N0 U U U U hx7m U dc (by exact (AAl (f:=oC) (l:=(replicate (ln.ag.n+1) (none:Option Nat))) (i:=0) (a:=(some q))).symm.trans (c7 _ J4)) U<|bG (H1 _ _ (aB [1,2,3,4,5,7]) ?_);refine eJ U<|Hp<|Cd (X:=[]) (X':=bx oL [[((aI.mk 0 0),ri.Start)]] [q]) 0 1 U U U ?_
  try dsimp only
  refine aL (ke (aN U) (aB [1,2,3,4,5,7,0,6]) (Nl ⟨q,trivial⟩))
 refine mh bX [0,1,2,3,5,6,8,9,11,12] [4,7,10,13] [false,false,false,false,false,false,false,false,false,false] [] [(cb W 301 [(vP gw)]),(eE e_A e).ro,(rd t_A tms.length 1 (zipWith g5 tms tb)).ro,(iX (bx rJ tms tb)).ro] [] kr (aB [0,2,3,4]) (aB [])<|eS U (FQ 0 U bP U)<|eS U (FQ 0 U bP U)<|eS U (MV U)<|eS U (BI U (jw ⟨I,I⟩))<|eS U (MV U)<|eS U (BI U (jw ⟨I,I⟩))<|eS U (SX (bK U U) U U)<|eS U (FA 12 U eB U)<|eS U (SX (bK U U) U U)<|eS U (FA 13 U eB U)<|dI U<|nF [4,7] kr (iT ?_<|iT ?_<|re);rotate_left 1
 ·refine NO U U [4,10,13] fun T5 CI=>?_;refine yO (n:=(ln.ag.n+1)) (es:=(map oC (replicate (ln.ag.n+1) (none:Option Nat)))) U U U Es I I (by simp only [maxLen];omega) (by rw [AAy];rfl) U fun b6=>?_
  try dsimp only
  refine bG (CI _ _ (aB [1,3,4,5]) ?_);refine N1 4<|NO U U [10,13] fun T7 AC=>?_;refine yO (n:=(ln.ag.n+1)) (es:=(map oC (replicate (ln.ag.n+1) (none:Option Nat)))) U U U Es I I (by simp only [maxLen];omega) (by rw [AAy];rfl) U fun b8=>?_
  try dsimp only
  refine bG (AC _ _ (aB [2,4,5,6]) ?_);refine N1 10<|NO U U [13] fun T9 Ck=>Xh (cj.cells (cj.mk ln ri (aV.mk e_A e.length e_C) (aV.mk t_A tms.length t_C) (aV.mk (some ⟨b8,0,none⟩) (ln.ag.n+1) (ln.ag.n+1)) (aV.mk none 0 0))) U BR U U<|bG (Ck _ _ (aB [2,4,5,6]) ?_);refine N1 13<|NO U U [] fun T10 G=>Xh (cj.cells (cj.mk ln ri (aV.mk e_A e.length e_C) (aV.mk t_A tms.length t_C) (aV.mk (some ⟨b8,0,none⟩) (ln.ag.n+1) (ln.ag.n+1)) (aV.mk (some ⟨b6,0,none⟩) (ln.ag.n+1) (ln.ag.n+1)))) U BR U U<|bG (G _ _ (aB [2,4,5,6]) ?_);refine mC ?_;refine aL (ke (aN U) (aB [2,4,5,6,0,1,3]) (B3 ⟨((some ⟨b8,0,none⟩),(some ⟨b6,0,none⟩)),trivial⟩))
 refine NO U U [7,10,13] fun T5 CI=>?_;refine yO (n:=(ln.ag.n+1)) (es:=(map oC (replicate (ln.ag.n+1) (none:Option Nat)))) U U U Es I I (by simp only [maxLen];omega) (by rw [AAy];rfl) U fun b6=>?_
 try dsimp only
 refine bG (CI _ _ (aB [1,3,4,5]) ?_);refine nF [7,10] kr (iT ?_<|iT ?_<|re);rotate_left 1
 ·refine NO U U [7,13] fun T7 AC=>ST2 (cj.cells (cj.mk ln ri (aV.mk e_A e.length e_C) (aV.mk t_A tms.length t_C) (aV.mk (some ⟨b6,0,none⟩) (ln.ag.n+1) (ln.ag.n+1)) (aV.mk none 0 0))) U BR U U<|bG (AC _ _ (aB [1,3,4,5]) ?_);refine N1 7<|NO U U [13] fun T8 Ci=>?_;refine yO (n:=(ln.ag.n+1)) (es:=(map oC (replicate (ln.ag.n+1) (none:Option Nat)))) U U U Es I I (by simp only [maxLen];omega) (by rw [AAy];rfl) U fun q=>?_
  try dsimp only
  refine bG (Ci _ _ (aB [2,4,5,6]) ?_);refine N1 13<|NO U U [] fun T10 G=>Xh (cj.cells (cj.mk ln ri (aV.mk e_A e.length e_C) (aV.mk t_A tms.length t_C) (aV.mk (some ⟨b6,0,none⟩) (ln.ag.n+1) (ln.ag.n+1)) (aV.mk (some ⟨q,0,none⟩) (ln.ag.n+1) (ln.ag.n+1)))) U BR U U<|bG (G _ _ (aB [2,4,5,6]) ?_);refine mC ?_;refine aL (ke (aN U) (aB [2,4,5,6,1,0,3]) (B3 ⟨((some ⟨b6,0,none⟩),(some ⟨q,0,none⟩)),trivial⟩))
 refine NO U U [10,13] fun T7 AC=>?_;refine yO (n:=(ln.ag.n+1)) (es:=(map oC (replicate (ln.ag.n+1) (none:Option Nat)))) U U U Es I I (by simp only [maxLen];omega) (by rw [AAy];rfl) U fun b8=>?_
 try dsimp only
 refine bG (AC _ _ (aB [2,4,5,6]) ?_);refine N1 10<|NO U U [13] fun T9 Ck=>Xh (cj.cells (cj.mk ln ri (aV.mk e_A e.length e_C) (aV.mk t_A tms.length t_C) (aV.mk (some ⟨b6,0,none⟩) (ln.ag.n+1) (ln.ag.n+1)) (aV.mk none 0 0))) U BR U U<|bG (Ck _ _ (aB [2,4,5,6]) ?_);refine N1 13<|NO U U [] fun T10 G=>Xh (cj.cells (cj.mk ln ri (aV.mk e_A e.length e_C) (aV.mk t_A tms.length t_C) (aV.mk (some ⟨b6,0,none⟩) (ln.ag.n+1) (ln.ag.n+1)) (aV.mk (some ⟨b8,0,none⟩) (ln.ag.n+1) (ln.ag.n+1)))) U BR U U<|bG (G _ _ (aB [2,4,5,6]) ?_);refine mC ?_;refine aL (ke (aN U) (aB [2,4,5,6,1,0,3]) (B3 ⟨((some ⟨b6,0,none⟩),(some ⟨b8,0,none⟩)),trivial⟩))
end
section
open Go.RowKit
variable (l:a_) (kA:OA) (kC:Nat) (az:List RA) (cA:OA) (cC:Nat) (bA:OA) (bC:Nat) (r:cW) (sgA:OA) (sgC:Nat)
theorem HB (g1:Nat) (bm:Int) (g2:Nat) (hin:dW l az):
 de Tryz.prog 212 [(vP g1),(vP g2)] ((rE l kA az cA bA)++[(cb g1 28 (bU.cells (kN l kA kC cA cC bA bC))),(cb g2 3 [(vI bm)])]) (vI (lT l bm)):=by
 have F:=hin.sS;have E:=hin.sT;have C:=hin.mD;have D:=hin.sU;refine bg kr Tryz.func212 U U fun G Q hQ hN=>?_
 try dsimp only
 refine cm bS 13 [0,1] (mr 4 U (mr 5 U mn)) ?_;refine dC (xs:=[.tmp 7]) (cs:=[(vI bm)]) U cM jW U U U U (by simp [Value.cells]) U U fun B=>?_;refine rS (CL (de.eq (iE 0 ((l.ag.length:Int)-1) ([bm]) (some ⟨B,0,none⟩) 1 (by (simp;done))) cp) (aw (aM 0 U U (by simp [br]) U)<|aA) U) ?_;refine aq aj 3 ?_;refine bY U (aJ fun A=>?_) (aK fun A=>?_)
 ·exact cr aW 6 hQ U U<|cI (c1 I).symm
 exact cr aW 8 hQ U U<|cI (c0 I).symm
theorem Sl (hin:dW l az) (hsl:r.ab.length≤1000000):
 lf Tryz.prog 211 [(vA (bU.cells (kN l kA kC cA cC bA bC))),(vA (dx.cells (jR r sgA sgC))),(vS none 0 0)] ((rE l kA az cA bA)++[(gR sgA r.ab)]) (fun (x:Bool×Int×Nat×(OA)×Nat×(OA)×Nat×(List Nat)×(List FM)×(List Nat)×(OA)×Nat×(List FM)×(List Nat)×(OA)×Nat)=>bif x.1 then (vT [(Value.pointer (some ⟨x.2.2.1,0,none⟩)),(vI 0)]) else (vT [(Value.pointer none),(vI x.2.1)])) (fun (x:Bool×Int×Nat×(OA)×Nat×(OA)×Nat×(List Nat)×(List FM)×(List Nat)×(OA)×Nat×(List FM)×(List Nat)×(OA)×Nat)=>(x.1=true→(fO l r 0=0∧yN (dX l r) x.2.2.2.2.2.2.2.2.1∧vE (dX l r) x.2.2.2.2.2.2.2.2.2.2.2.2.1∧x.2.2.2.2.2.2.2.2.2.1.length=x.2.2.2.2.2.2.2.2.1.length∧x.2.2.2.2.2.2.2.2.2.2.2.2.2.1.length=x.2.2.2.2.2.2.2.2.2.2.2.2.1.length∧x.2.2.2.2.2.2.2.1.length=(cL l r.ab r.ab.length).length))∧(x.1=false→(x.2.1=fO l r 0∧ ¬ fO l r 0=0))) (fun (x:Bool×Int×Nat×(OA)×Nat×(OA)×Nat×(List Nat)×(List FM)×(List Nat)×(OA)×Nat×(List FM)×(List Nat)×(OA)×Nat)=>bif x.1 then [(cb x.2.2.1 343 (cj.cells (cj.mk (kN l kA kC cA cC bA bC) (jR r sgA sgC) (aV.mk x.2.2.2.1 ((cv l l.ag.length).length) x.2.2.2.2.1) (aV.mk x.2.2.2.2.2.1 ((cL l r.ab r.ab.length).length) x.2.2.2.2.2.2.1) (aV.mk x.2.2.2.2.2.2.2.2.2.2.1 x.2.2.2.2.2.2.2.2.1.length x.2.2.2.2.2.2.2.2.2.2.2.1) (aV.mk x.2.2.2.2.2.2.2.2.2.2.2.2.2.2.1 x.2.2.2.2.2.2.2.2.2.2.2.2.1.length x.2.2.2.2.2.2.2.2.2.2.2.2.2.2.2)))),(fB x.2.2.2.1 x.2.2.2.2.1 (cv l l.ag.length)),(own x.2.2.2.2.2.1 x.2.2.2.2.2.2.1 95 1 (zipWith g5 (cL l r.ab r.ab.length) x.2.2.2.2.2.2.2.1)),(bD (bx rJ (cL l r.ab r.ab.length) x.2.2.2.2.2.2.2.1)),(own x.2.2.2.2.2.2.2.2.2.2.1 x.2.2.2.2.2.2.2.2.2.2.2.1 346 1 (zipWith g5 x.2.2.2.2.2.2.2.2.1 x.2.2.2.2.2.2.2.2.2.1)),(bD (bx oL x.2.2.2.2.2.2.2.2.1 x.2.2.2.2.2.2.2.2.2.1)),(own x.2.2.2.2.2.2.2.2.2.2.2.2.2.2.1 x.2.2.2.2.2.2.2.2.2.2.2.2.2.2.2 346 1 (zipWith g5 x.2.2.2.2.2.2.2.2.2.2.2.2.1 x.2.2.2.2.2.2.2.2.2.2.2.2.2.1)),(bD (bx oL x.2.2.2.2.2.2.2.2.2.2.2.2.1 x.2.2.2.2.2.2.2.2.2.2.2.2.2.1))] else []):=by
 have J4:=hin.sS;have J2:=hin.sT;have JR:=hin.mD;have JZ:=hin.sU;have J3:=hin.side;refine cR kr Tryz.func211 U U fun w0 Q hQ hN=>?_
 try dsimp only
 refine aS bS 2 U<|dV U fun b2=>dV U fun b3=>dD aj 8 [] (mc 1 U mn) U<|rS (CL (xp l kA kC az cA cC bA bC hin) (aP [2,3,4,5]) U)<|aq aj 9 ?_;refine bY U (aJ fun Y=>?_) (aK fun Y=>?_)
 ·refine aq aW 8 ?_;refine LX hQ (false,(dU l),0,none,0,none,0,[],[],[],none,0,[],[],none,0) [] [] mn U (by rfl) U U ?_;exact rq<|O4 (n_ (r:=r) (me:=0) Y) Y
 refine aq aW 5 ?_;have E:dU l=0:=Y;obtain ⟨Ck,W⟩:=ep E;have EY:=W.head;unfold fj at EY;refine cm aj 2 [] (mc 0 U mn) ?_;refine dC (xs:=[.tmp 24]) (cs:=[(vI r.Start)]) U cM jW U U U U (by simp [Value.cells]) U U fun C0=>?_;refine rS (CL (de.eq (iE 0 86400000 ([r.Start]) (some ⟨C0,0,none⟩) 1 (by (simp;done))) cp) (aw (aM 0 U U (by simp [br]) U)<|aA) U) ?_;refine aq aj 2 ?_;refine bJ (t:=28) U (aJ fun DA=>?_) (aK fun DA=>?_)
 ·refine aq aj 24 ?_;refine LX hQ (false,51,0,none,0,none,0,[],[],[],none,0,[],[],none,0) [] [] mn U (by rfl) U U ?_;exact rq<|pN (gd (me:=0) E (fun q:gl l r=>by have q1:=q.time;have q2:=q.len;omega))
 refine cm aj 4 [] (mc 1 U mn) ?_;refine dC (xs:=[.tmp 32]) (cs:=[(vI r.hU)]) U cM jW U U U U (by simp [Value.cells]) U U fun C1=>?_;refine rS (CL (de.eq (iE r.Start 86400000 ([r.hU]) (some ⟨C1,0,none⟩) 1 (by (simp;done))) cp) (aw (aM 0 U U (by simp [br]) U)<|aA) U) ?_;refine aq aj 3 ?_;refine bJ (t:=37) U (aJ fun DL=>?_) (aK fun DL=>?_)
 ·refine aq aj 15 ?_;refine LX hQ (false,51,0,none,0,none,0,[],[],[],none,0,[],[],none,0) [] [] mn U (by rfl) U U ?_;exact rq<|pN (gd (me:=0) E (fun q:gl l r=>by have q1:=q.time;have q2:=q.len;omega))
 refine cm aj 7 [] (mc 2 U mn) ?_;refine bY U (aH fun Di=>?_) (aG fun Di=>?_)
 ·refine aq aW 7 ?_;refine LX hQ (false,51,0,none,0,none,0,[],[],[],none,0,[],[],none,0) [] [] mn U (by rfl) U U ?_;exact rq<|pN (gd (me:=0) E (fun q:gl l r=>by have q1:=q.time;have q2:=q.len;omega))
 refine aS aW 4 U<|rS (SX (aU (xs:=[(0,.const (vI (-1)))]) (cs:=(aZ.cells (aZ.mk (-1) 0))) U U (aT XL U)) U U)<|AL U OG fun S=>eN U xD U<|aq aj 3 ?_;refine cP bX [5,6,7,8] [] [] [0,1,2,3,4,5,6,7,8,9] [] U U U U U<|eS U (LW 4 U bP U U)<|eS U (LW 3 U bP U U)<|eS U (FA 3 U eB U)<|eS U (L1 (vS bA l.ag.length bC) 4 U bP U U)<|eS U (LN U Tb)<|dI U<|bQ U fun T18 y=>?_;refine yO (n:=l.ag.length) (es:=(map oC (replicate l.ag.length (none:Option Nat)))) U U U Uf I I (by simp only [maxLen];omega) (by rw [AAy];rfl) U fun B=>?_
 try dsimp only
 refine bG (y _ _ (aB [1,2,3,4,5,6,7,8,9,10]) ?_);refine bQ U fun T20 AC=>rS (SX (aU (xs:=[(0,.tmp 44),(1,.tmp 45),(3,.tmp 49)]) (cs:=(cj.cells (cj.mk (kN l kA kC cA cC bA bC) (jR r sgA sgC) (aV.mk none 0 0) (aV.mk (some ⟨B,0,none⟩) l.ag.length l.ag.length) (aV.mk none 0 0) (aV.mk none 0 0)))) U U (aT UJ U)) U U)<|bG (AC _ _ (aB [1,2,3,4,5,6,7,8,9,10]) ?_);refine bQ U fun T21 AO=>dV U fun AB=>bG (AO _ _ (aB [2,3,4,5,6,7,8,9,10,11]) ?_);refine bQ U fun T23 AP=>rS (AG U)<|bG (AP _ _ (aB [2,3,4,5,6,7,8,9,10,11]) ?_);refine eJ U<|cm jE 11 [] (mc 6 U mn) ?_;rw [ym];refine eC 3 1<|mj ?_;have D:(0≤l.ag.length)∧(([]:List Nat).length=0):=by exact ⟨c4 _,rfl⟩
 refine bu (ι:={z:Nat×(OA)×Nat×(List Nat) // (z.1≤l.ag.length)∧(z.2.2.2.length=z.1)}) [2,3,4,6,7,9,10,54] [4,7,8,9,10,11,12,13] U U (fun z=>[(55,(vI (z.1.1:Int)))]) (fun z=>[(bD (bx rJ (replicate z.1.1 ([]:TM)) z.1.2.2.2)),(fB z.1.2.1 z.1.2.2.1 (cv l z.1.1)),(cb AB 343 (cj.cells (cj.mk (kN l kA kC cA cC bA bC) (jR r sgA sgC) (aV.mk z.1.2.1 ((cv l z.1.1).length) z.1.2.2.1) (aV.mk (some ⟨B,0,none⟩) l.ag.length l.ag.length) (aV.mk none 0 0) (aV.mk none 0 0)))),(IY (some ⟨B,0,none⟩) l.ag.length (dJ z.1.2.2.2 l.ag.length))]) (fun _=>rfl) (fun _=>rfl) (fun z=>l.ag.length-z.1.1) ⟨(0,none,0,([]:List Nat)),D⟩ (aN U) (aB [4,7,8,9,10,11,12,13,0,1,2,3]) ?_;clear D;rintro ⟨⟨b,a,c,fb⟩,⟨Z,AA⟩⟩ J26 w
 try dsimp only at Z AA
 try dsimp only
 have Eq:(dJ fb l.ag.length).length=l.ag.length:=oX I;refine aq bS 6 ?_;refine bY U (aH fun DC=>?_) (aG fun DC=>?_)
 ·refine aq aW 11 ?_;refine cP bX [12,13,16] [4] [0] [0,1,2,3,4,5,6,7,8,11] [0,1,2,3,4,5,6,7,8,9,10,11] U U U U U<|eS U (MV U)<|eS U (MV U)<|eS U (SX (bK U U) U U)<|eS U (FA 10 U eB U)<|fS U (L1 (vS a ((cv l b).length) c) 10 U bP U U)<|eS U (LW 2 U bP U U)<|eS U (MV U)<|eS U (CL (IL l kA kC az cA cC bA bC (b:Int) hin asm (by exact W.vt) I) (aP [3,4,5,6]) U) ?_;have J5:=CZ Ck W.vt b;have J6:=W.TZ b I;simp only [AAP];refine eS U (BI U (nq ⟨I,I⟩))<|eS U (FA 1 U eB U)<|eS U (L1 (vI l.g7) 2 U bP U U) ?_;refine eS U (CL (Jo (1000*(mL l (b:Int).toNat)) l.g7 I (by (simp;omega))) (aA) U) ?_;refine eS U (SX (bK U U) U U)<|eS U (FA 10 U eB U)<|dI U<|gu U fun T33 An=>dC (xs:=[.tmp 69]) (cs:=[(vI (qB (1000*(mL l (b:Int).toNat)) l.g7))]) U cM jW U U U U (by simp [Value.cells]) U U fun IO=>bG (An _ _ (aB [1,2,3,4,5,6,7,8,9,12]) (aB [1,2,3,4,5,6,7,8,9,10,11,12]) ?_);refine bQ U fun T35 A0=>?_;refine cZ (es2:=(map iC (cv l (b+1)))) (m':=(cv l (b+1)).length) 10 U U U pI U U (by simp [dE]) (aM (es:=map iC [(qB (1000*(mL l (b:Int).toNat)) l.g7)]) 0 U U (by simp [br]) U) (j4 _) (by have:=dE (l:=l) (n:=b);first|omega|(simp;omega)) (by simp only [maxLen,dE];omega) (by rw [th];simp [ew]) (by simp [dE]) U fun h j=>?_
  try dsimp only
  refine bG (A0 _ _ (aB [1,2,3,4,5,6,7,8,9,12]) ?_);refine bQ U fun T38 A1=>aaP (cj.cells (cj.mk (kN l kA kC cA cC bA bC) (jR r sgA sgC) (aV.mk h ((cv l (b+1)).length) j) (aV.mk (some ⟨B,0,none⟩) l.ag.length l.ag.length) (aV.mk none 0 0) (aV.mk none 0 0))) U wM U U<|bG (A1 _ _ (aB [1,2,3,4,5,6,7,8,9,12]) ?_);refine eJ U<|aS jE 3 U<|rS (SX (bK U U) U U)<|cm aj 3 [] (mc 11 U mn) ?_;refine lj (kV:=iV) U U fun H=>?_
  try dsimp only
  obtain ⟨Fi,Ct⟩:=ax (dJ fb l.ag.length) b I;have hx41m:(map oC (dJ fb l.ag.length))[b]? =some (oC Fi):=by rw [gM,Ct];rfl
  refine rS (IA b U (ak (n:=l.ag.length) 13 U sq) AZ dc I I) ?_;have A2:((dJ fb l.ag.length).set b (some H))=(dJ (fb++[H]) l.ag.length):=by exact ua I I
  refine ej (k:=b) (o:=0) (vs:=[(Value.map (some H))]) (es':=(map oC (dJ (fb++[H]) l.ag.length))) (C':=[_,_,_,_,_,_,_,_,_,_,_,_,_,(IY (some ⟨B,0,none⟩) l.ag.length (dJ (fb++[H]) l.ag.length))]) 13 U U U Ry U U U U hx41m U dc (by exact (AAl (f:=oC) (l:=(dJ fb l.ag.length)) (i:=b) (a:=(some H))).symm.trans (c7 _ A2)) U<|aq aj 7 ?_;refine Cd (X':=bx rJ (replicate (b+1) ([]:TM)) (fb++[H])) 10 0 U U (IT AA) ?_
  try dsimp only
  have A3:(vI (((b+1):Nat):Int))=(vI ((b:Int)+1)):=by exact cI I
  refine aL (w ⟨((b+1),h,j,(fb++[H])),⟨I,by simp;omega⟩⟩ _ _ _ U os (cx 8<|aQ U A3<|cS.nil _) (aB [2,3,4,5,6,7,8,9,0,10,11,12]))
 refine aS aW 1 U<|cm fD 12 [] (mc 1 U mn) ?_;rw [show (replicate b ([]:TM))=cL l r.ab 0 from by rw [Au,show b=l.ag.length by omega]];rw [show cv l b=cv l l.ag.length from by rw [show b=l.ag.length by omega]];have D:(0≤r.ab.length)∧(qq l r.ab 0):=by exact ⟨c4 _,xC⟩
 refine bu (ι:={z:Nat // (z≤r.ab.length)∧(qq l r.ab z)}) [2,3,4,6,7,9,10,83,84] [1,2,3,4,5,6,7,9,10,11] U U (fun z=>[(85,(vI (z.1:Int)))]) (fun z=>[(cb S 85 (aZ.cells (nk r.ab z.1))),(bD (bx rJ (cL l r.ab z.1) fb))]) (fun _=>rfl) (fun _=>rfl) (fun z=>r.ab.length-z.1) ⟨0,D⟩ (aN U) (aB [1,2,3,4,5,6,7,9,10,11,0,8]) ?_;clear D;rintro ⟨i,⟨Cx,A⟩⟩ J46 R
 try dsimp only
 have FS:(cL l r.ab i).length=l.ag.length:=hZ;have Eq:(dJ fb l.ag.length).length=l.ag.length:=oX I;refine aq bS 6 ?_;refine bE U (aG fun Do=>?_) (aH fun Do=>?_)
 ·refine aS aW 1 U<|aq fD 4 ?_;have e:gl l r:=Ba I I A I;refine aS aW 7 U<|iY 1<|eh fun R81 GT=>aS bS 2 U<|rS (SX (ck (r:= .bool false) U U U g_) U U)<|aS aj 5 U<|aq fD 3 ?_;rw [show cL l r.ab i=cL l r.ab r.ab.length from by rw [show i=r.ab.length by omega]];have g:(cL l r.ab r.ab.length).length=l.ag.length:=hZ;rw [show (map oC (dJ fb l.ag.length))=(zipWith g5 (cL l r.ab r.ab.length) fb) from Y9 I g];rw [show (cb AB 343 (cj.cells (cj.mk (kN l kA kC cA cC bA bC) (jR r sgA sgC) (aV.mk a ((cv l l.ag.length).length) c) (aV.mk (some ⟨B,0,none⟩) l.ag.length l.ag.length) (aV.mk none 0 0) (aV.mk none 0 0))))=(cb AB 343 (cj.cells (cj.mk (kN l kA kC cA cC bA bC) (jR r sgA sgC) (aV.mk a ((cv l l.ag.length).length) c) (aV.mk (some ⟨B,0,none⟩) ((cL l r.ab r.ab.length).length) l.ag.length) (aV.mk none 0 0) (aV.mk none 0 0)))) from by rw [g]];have Cp:=ow Ck W e;have GV:(cv l l.ag.length).length=l.ag.length:=dE;refine aq aW 2 ?_;refine kx 8 U U U U (Fm (kN l kA kC cA cC bA bC) (jR r sgA sgC) (cv l l.ag.length) (cL l r.ab r.ab.length) a c fb (some ⟨B,0,none⟩) l.ag.length AB (by exact Cp) (by exact dE.symm) (by rw [g];omega)) U (ek 7 U U (kb sm) (ek 9 U U (kb (by rw [m4];omega)) (ek 11 U U tJ mu))) U (fun Fn EQ=>?_);obtain ⟨G,P,N,O,F,M,K,L⟩:=Fn;refine I0 (X:=[(cb AB 343 (cj.cells (cj.mk (kN l kA kC cA cC bA bC) (jR r sgA sgC) (aV.mk a ((cv l l.ag.length).length) c) (aV.mk (some ⟨B,0,none⟩) ((cL l r.ab r.ab.length).length) l.ag.length) (aV.mk N G.length O) (aV.mk K F.length L)))),(own N O 346 1 (zipWith g5 G P)),(bD (bx oL G P)),(own K L 346 1 (zipWith g5 F M)),(bD (bx oL F M))]) 8 U U ?_
  try dsimp only
  obtain ⟨d,B9,CI,Ci⟩:=EQ;dsimp only at d B9 CI Ci;refine aq aj 6 ?_;refine cX (xY (kN l kA kC cA cC bA bC) (jR r sgA sgC) (cv l l.ag.length) (cL l r.ab r.ab.length) a c fb (some ⟨B,0,none⟩) l.ag.length G F P N O M K L AB (by exact Cp) (by (simp;omega)) (by exact dE.symm) (by exact d) asm) (aw (ak (n:=(cv l l.ag.length).length) 12 U sm)<|aw (ak (n:=(cL l r.ab r.ab.length).length) 13 U (by rw [m4];omega))<|aw (dK 15 U m6)<|aw (ak (n:=G.length) 1 U (by rw [m4];omega))<|aw (dK 2 U m6)<|aw (ak (n:=F.length) 3 U (by rw [m4];omega))<|aw (dK 4 U m6)<|gN 0 U U<|aA) U fun GE Go=>?_;obtain ⟨H1,In⟩:=GE
  try dsimp only
  refine aq aj 4 ?_;refine bE U (aG fun T=>?_) (aH fun T=>?_)
  ·refine aq aW 10 ?_;refine LX hQ (true,0,AB,a,c,(some ⟨B,0,none⟩),l.ag.length,fb,G,P,N,O,F,M,K,L) [1,13,14,16,2,3,4,5] [] mn U (by (show List.all _ _=true;simp only [AAS,eX,om,Iw,UE,n4];rfl)) U U ?_;exact ⟨fun _=>⟨yn E e (by first|rfl|exact h156) (fun q=>T (c7 (fun z:List Int=>(z.length:Int)) q)),d,B9,CI,Ci,dso⟩,Q7⟩
  refine aq aW 7 ?_;refine LX hQ (false,8,0,none,0,none,0,[],[],[],none,0,[],[],none,0) [] [] mn U (by rfl) U U ?_;exact rq<|pN (vD (me:=0) E e (by first|rfl|exact h156) (show ou (dX l r)=[] from kq (ACT.1 T)))
 refine aq aW 7 ?_;obtain ⟨x,hx⟩:=ax r.ab i I;have Fd:=bw aZ.cells hx;refine rS (IA i U (au 6 U) zH dc I I)<|rS (ld i 0 (aZ.cells x) U bP (au 6 U) Fd U dc U U)<|AL U OG fun IR=>aS aj 1 U<|eN U xD U<|cm aj 11 [0,1] (mc 2 U (mc 0 U mn)) ?_;refine dC (xs:=[.tmp 95]) (cs:=[(vI x.fR)]) U cM jW U U U U (by simp [Value.cells]) U U fun C2=>?_;refine rS (CL (de.eq (iE 0 ((l.ag.length:Int)-1) ([x.fR]) (some ⟨C2,0,none⟩) 1 (by (simp;done))) cp) (aw (aM 0 U U (by simp [br]) U)<|aA) U) ?_;refine aq aj 2 ?_;refine bJ (t:=99) U (aJ fun Dw=>?_) (aK fun Dw=>?_)
 ·refine aq aj 37 ?_;refine LX hQ (false,51,0,none,0,none,0,[],[],[],none,0,[],[],none,0) [] [] mn U (by rfl) U U ?_;exact rq<|pN (gd (me:=0) E (pZ hx (by unfold j9 k8;omega)))
 refine cm aj 2 [] (mc 1 U mn) ?_;refine dC (xs:=[.tmp 101]) (cs:=[(vI x.Read)]) U cM jW U U U U (by simp [Value.cells]) U U fun C3=>?_;refine rS (CL (de.eq (iE 0 86400000 ([x.Read]) (some ⟨C3,0,none⟩) 1 (by (simp;done))) cp) (aw (aM 0 U U (by simp [br]) U)<|aA) U) ?_;refine aq aj 3 ?_;refine bJ (t:=106) U (aJ fun p=>?_) (aK fun p=>?_)
 ·refine aq aj 30 ?_;refine LX hQ (false,51,0,none,0,none,0,[],[],[],none,0,[],[],none,0) [] [] mn U (by rfl) U U ?_;exact rq<|pN (gd (me:=0) E (pZ hx (by unfold j9 k8;omega)))
 refine cm aj 7 [0,1] (mc 2 U (mc 13 U mn)) ?_;refine bJ (t:=113) U (aH fun s=>?_) (aG fun s=>?_)
 ·refine aq aj 23 ?_;refine LX hQ (false,51,0,none,0,none,0,[],[],[],none,0,[],[],none,0) [] [] mn U (by rfl) U U ?_;exact rq<|pN (gd (me:=0) E (pZ hx (by unfold j9 k8;omega)))
 refine cm aj 6 [0,1] (mc 2 U (mc 13 U mn)) ?_;refine cz (t:=119) U (aG fun u=>?_) (aH fun u=>?_)
 ·refine dD aj 17 [0,1] (mc 4 U (mc 2 U mn)) U<|rS (CL (D_ l kA kC az cA cC bA bC x hin asm I) (aP [5,6,7,8]) U)<|AL U dA fun If=>eN U cJ U<|cm aj 11 [] (mc 0 U mn) ?_;refine bE U (aG fun C=>?_) (aH fun C=>?_)
  ·refine dD aW 4 [] (mc 3 U mn) U<|iq (vs:=(aZ.cells x)) (cs':=(aZ.cells x)) (C':=[_,_,_,_,_,_,_,_,_,_,_,_,_,_,(cb S 85 (aZ.cells x)),_]) 14 U U U xD U U U U U U U<|aq aj 3 ?_;have Bx:(aZ.cells x)=(aZ.cells (nk r.ab (i+1))):=by rw [lh hx]
   rw [Bx];refine aq aW 4 ?_;rw [show (cL l r.ab i)=(cL l r.ab (i+1)) from (rR hx C).symm];have By:(vI (((i+1):Nat):Int))=(vI ((i:Int)+1)):=by exact cI I
   refine aL (R ⟨(i+1),⟨I,j5 A hx (by unfold j9 k8;omega)⟩⟩ _ _ _ U os (cx 9<|aQ U By<|cS.nil _) (aB [4,5,6,7,8,9,10,11,12,13,14,15]))
  obtain ⟨mb,V⟩:=ax (cL l r.ab i) ((x.fR).toNat) I;obtain ⟨ga,J⟩:=ax fb ((x.fR).toNat) I;refine BJ 15 V J U U U ?_
  try dsimp only
  refine cK bX 10 kr<|iR 1 U<|dS (SX (bK U U) U U)<|dP 4 [0,1] (mc 14 U (mc 5 U mn)) ?_;have B7:(map oC (dJ fb l.ag.length))[(x.fR).toNat]? =some (oC (some ga)):=sJ (ox J);refine dS (IA ((x.fR).toNat) U (ak (n:=l.ag.length) 15 U sq) AZ dc I I) ?_;refine dS (gG ((x.fR).toNat) 0 (Value.map (some ga)) U bP (ak (n:=(dJ fb l.ag.length).length) 15 U sm) B7 U dc U)<|jZ 2 [] (mc 2 U mn) U<|cy<|iP (kV:=iV) (x:=(i:Int)) (C':=[(iu iV ga (bR fg (d_ mb (i:Int) (du l x)))),_,_,_,_,_,_,_,_,_,_,_,_,_,_,_,_]) 0 U U U U rX (eD nZ) U (gH _ _ _ _).symm U<|dD aj 4 [] (mc 5 U mn) U<|iq (vs:=(aZ.cells x)) (cs':=(aZ.cells x)) (C':=[_,_,_,_,_,_,_,_,_,_,_,_,_,_,_,_,(cb S 85 (aZ.cells x))]) 16 U U U xD U U U U U U U<|aq aj 3 ?_;have A8:(aZ.cells x)=(aZ.cells (nk r.ab (i+1))):=by rw [lh hx]
  rw [A8];refine aq aW 4 ?_;refine D6 (f:=rJ) (ms:=(cL l r.ab i)) (m:=(d_ mb (i:Int) (du l x))) 1 0 (by rw [hZ];omega) J U U U ?_;rw [ui hx I C V];have A9:(vI (((i+1):Nat):Int))=(vI ((i:Int)+1)):=by exact cI I
  refine aL (R ⟨(i+1),⟨I,j5 A hx (by unfold j9 k8;omega)⟩⟩ _ _ _ U os (cx 9<|aQ U A9<|cS.nil _) (aB [5,6,7,8,9,10,11,12,13,14,15,0]))
 refine cm aj 9 [0,1] (mc 2 U (mc 13 U mn)) ?_;refine bY U (aH fun v=>?_) (aG fun v=>?_)
 ·refine aq aW 7 ?_;refine LX hQ (false,51,0,none,0,none,0,[],[],[],none,0,[],[],none,0) [] [] mn U (by rfl) U U ?_;exact rq<|pN (gd (me:=0) E (pZ hx (by unfold j9 k8;omega)))
 refine dD aW 7 [0,1] (mc 4 U (mc 2 U mn)) U<|rS (CL (D_ l kA kC az cA cC bA bC x hin asm I) (aP [5,6,7,8]) U)<|AL U dA fun Id=>eN U cJ U<|cm aj 11 [] (mc 0 U mn) ?_;refine bE U (aG fun C=>?_) (aH fun C=>?_)
 ·refine dD aW 4 [] (mc 3 U mn) U<|iq (vs:=(aZ.cells x)) (cs':=(aZ.cells x)) (C':=[_,_,_,_,_,_,_,_,_,_,_,_,_,_,(cb S 85 (aZ.cells x)),_]) 14 U U U xD U U U U U U U<|aq aj 3 ?_;have A6:(aZ.cells x)=(aZ.cells (nk r.ab (i+1))):=by rw [lh hx]
  rw [A6];refine aq aW 4 ?_;rw [show (cL l r.ab i)=(cL l r.ab (i+1)) from (rR hx C).symm];have A7:(vI (((i+1):Nat):Int))=(vI ((i:Int)+1)):=by exact cI I
  refine aL (R ⟨(i+1),⟨I,j5 A hx (by unfold j9 k8;omega)⟩⟩ _ _ _ U os (cx 9<|aQ U A7<|cS.nil _) (aB [4,5,6,7,8,9,10,11,12,13,14,15]))
 obtain ⟨mb,V⟩:=ax (cL l r.ab i) ((x.fR).toNat) I;obtain ⟨ga,J⟩:=ax fb ((x.fR).toNat) I;refine BJ 15 V J U U U ?_
 try dsimp only
 refine cK bX 10 kr<|iR 1 U<|dS (SX (bK U U) U U)<|dP 4 [0,1] (mc 14 U (mc 5 U mn)) ?_;have B3:(map oC (dJ fb l.ag.length))[(x.fR).toNat]? =some (oC (some ga)):=sJ (ox J);refine dS (IA ((x.fR).toNat) U (ak (n:=l.ag.length) 15 U sq) AZ dc I I) ?_;refine dS (gG ((x.fR).toNat) 0 (Value.map (some ga)) U bP (ak (n:=(dJ fb l.ag.length).length) 15 U sm) B3 U dc U)<|jZ 2 [] (mc 2 U mn) U<|cy<|iP (kV:=iV) (x:=(i:Int)) (C':=[(iu iV ga (bR fg (d_ mb (i:Int) (du l x)))),_,_,_,_,_,_,_,_,_,_,_,_,_,_,_,_]) 0 U U U U rX (eD nZ) U (gH _ _ _ _).symm U<|dD aj 4 [] (mc 5 U mn) U<|iq (vs:=(aZ.cells x)) (cs':=(aZ.cells x)) (C':=[_,_,_,_,_,_,_,_,_,_,_,_,_,_,_,_,(cb S 85 (aZ.cells x))]) 16 U U U xD U U U U U U U<|aq aj 3 ?_;have A4:(aZ.cells x)=(aZ.cells (nk r.ab (i+1))):=by rw [lh hx]
 rw [A4];refine aq aW 4 ?_;refine D6 (f:=rJ) (ms:=(cL l r.ab i)) (m:=(d_ mb (i:Int) (du l x))) 1 0 (by rw [hZ];omega) J U U U ?_;rw [ui hx I C V];have A5:(vI (((i+1):Nat):Int))=(vI ((i:Int)+1)):=by exact cI I
 refine aL (R ⟨(i+1),⟨I,j5 A hx (by unfold j9 k8;omega)⟩⟩ _ _ _ U os (cx 9<|aQ U A5<|cS.nil _) (aB [5,6,7,8,9,10,11,12,13,14,15,0]))
end
section
open Go.RowKit
theorem RE (l:a_) (kA:OA) (kC:Nat) (az:List RA) (cA:OA) (cC:Nat) (bA:OA) (bC:Nat) (r:cW) (sgA:OA) (sgC:Nat) (f:Value) (X:ar) (me:Int) (gm:Nat) (hf:BH Tryz.prog f [] [X] (.int .i64 me)) (hin:dW l az) (hsl:r.ab.length≤1000000):
 lf Tryz.prog 211 [(vA (bU.cells (kN l kA kC cA cC bA bC))),(vA (dx.cells (jR r sgA sgC))),(vS (some ⟨gm,0,none⟩) 1 1)] ((rE l kA az cA bA)++[(gR sgA r.ab),X,(cb gm 304 [f])]) (fun (x:Bool×Int×Nat×(OA)×Nat×(OA)×Nat×(List Nat)×(List FM)×(List Nat)×(OA)×Nat×(List FM)×(List Nat)×(OA)×Nat)=>bif x.1 then (vT [(Value.pointer (some ⟨x.2.2.1,0,none⟩)),(vI 0)]) else (vT [(Value.pointer none),(vI x.2.1)])) (fun (x:Bool×Int×Nat×(OA)×Nat×(OA)×Nat×(List Nat)×(List FM)×(List Nat)×(OA)×Nat×(List FM)×(List Nat)×(OA)×Nat)=>(x.1=true→(fO l r me=0∧yN (dX l r) x.2.2.2.2.2.2.2.2.1∧vE (dX l r) x.2.2.2.2.2.2.2.2.2.2.2.2.1∧x.2.2.2.2.2.2.2.2.2.1.length=x.2.2.2.2.2.2.2.2.1.length∧x.2.2.2.2.2.2.2.2.2.2.2.2.2.1.length=x.2.2.2.2.2.2.2.2.2.2.2.2.1.length∧x.2.2.2.2.2.2.2.1.length=(cL l r.ab r.ab.length).length))∧(x.1=false→(x.2.1=fO l r me∧ ¬ fO l r me=0))) (fun (x:Bool×Int×Nat×(OA)×Nat×(OA)×Nat×(List Nat)×(List FM)×(List Nat)×(OA)×Nat×(List FM)×(List Nat)×(OA)×Nat)=>bif x.1 then [(cb x.2.2.1 343 (cj.cells (cj.mk (kN l kA kC cA cC bA bC) (jR r sgA sgC) (aV.mk x.2.2.2.1 ((cv l l.ag.length).length) x.2.2.2.2.1) (aV.mk x.2.2.2.2.2.1 ((cL l r.ab r.ab.length).length) x.2.2.2.2.2.2.1) (aV.mk x.2.2.2.2.2.2.2.2.2.2.1 x.2.2.2.2.2.2.2.2.1.length x.2.2.2.2.2.2.2.2.2.2.2.1) (aV.mk x.2.2.2.2.2.2.2.2.2.2.2.2.2.2.1 x.2.2.2.2.2.2.2.2.2.2.2.2.1.length x.2.2.2.2.2.2.2.2.2.2.2.2.2.2.2)))),(fB x.2.2.2.1 x.2.2.2.2.1 (cv l l.ag.length)),(own x.2.2.2.2.2.1 x.2.2.2.2.2.2.1 95 1 (zipWith g5 (cL l r.ab r.ab.length) x.2.2.2.2.2.2.2.1)),(bD (bx rJ (cL l r.ab r.ab.length) x.2.2.2.2.2.2.2.1)),(own x.2.2.2.2.2.2.2.2.2.2.1 x.2.2.2.2.2.2.2.2.2.2.2.1 346 1 (zipWith g5 x.2.2.2.2.2.2.2.2.1 x.2.2.2.2.2.2.2.2.2.1)),(bD (bx oL x.2.2.2.2.2.2.2.2.1 x.2.2.2.2.2.2.2.2.2.1)),(own x.2.2.2.2.2.2.2.2.2.2.2.2.2.2.1 x.2.2.2.2.2.2.2.2.2.2.2.2.2.2.2 346 1 (zipWith g5 x.2.2.2.2.2.2.2.2.2.2.2.2.1 x.2.2.2.2.2.2.2.2.2.2.2.2.2.1)),(bD (bx oL x.2.2.2.2.2.2.2.2.2.2.2.2.1 x.2.2.2.2.2.2.2.2.2.2.2.2.2.1))] else []):=by
 have J6:=hin.sS;have J4:=hin.sT;have J2:=hin.mD;have J3:=hin.sU;have J5:=hin.side;refine cR kr Tryz.func211 U U fun w0 Q hQ hN=>?_
 try dsimp only
 refine aS bS 2 U<|dV U fun b2=>dV U fun b3=>dD aj 8 [] (mc 1 U mn) U<|rS (CL (xp l kA kC az cA cC bA bC hin) (aP [2,3,4,5]) U)<|aq aj 9 ?_;refine bY U (aJ fun e=>?_) (aK fun e=>?_)
 ·refine aq aW 8 ?_;refine LX hQ (false,(dU l),0,none,0,none,0,[],[],[],none,0,[],[],none,0) [] [] mn U (by rfl) U U ?_;exact rq<|O4 (n_ (r:=r) (me:=me) e) e
 refine aq aW 5 ?_;have C:dU l=0:=e;obtain ⟨Ct,Y⟩:=ep C;have Fi:=Y.head;unfold fj at Fi;refine cm aj 2 [] (mc 0 U mn) ?_;refine dC (xs:=[.tmp 24]) (cs:=[(vI r.Start)]) U cM jW U U U U (by simp [Value.cells]) U U fun DA=>?_;refine rS (CL (de.eq (iE 0 86400000 ([r.Start]) (some ⟨DA,0,none⟩) 1 (by (simp;done))) cp) (aw (aM 0 U U (by simp [br]) U)<|aA) U) ?_;refine aq aj 2 ?_;refine bJ (t:=28) U (aJ fun Do=>?_) (aK fun Do=>?_)
 ·refine aq aj 24 ?_;refine LX hQ (false,51,0,none,0,none,0,[],[],[],none,0,[],[],none,0) [] [] mn U (by rfl) U U ?_;exact rq<|pN (gd (me:=me) C (fun q:gl l r=>by have q1:=q.time;have q2:=q.len;omega))
 refine cm aj 4 [] (mc 1 U mn) ?_;refine dC (xs:=[.tmp 32]) (cs:=[(vI r.hU)]) U cM jW U U U U (by simp [Value.cells]) U U fun DC=>?_;refine rS (CL (de.eq (iE r.Start 86400000 ([r.hU]) (some ⟨DC,0,none⟩) 1 (by (simp;done))) cp) (aw (aM 0 U U (by simp [br]) U)<|aA) U) ?_;refine aq aj 3 ?_;refine bJ (t:=37) U (aJ fun EQ=>?_) (aK fun EQ=>?_)
 ·refine aq aj 15 ?_;refine LX hQ (false,51,0,none,0,none,0,[],[],[],none,0,[],[],none,0) [] [] mn U (by rfl) U U ?_;exact rq<|pN (gd (me:=me) C (fun q:gl l r=>by have q1:=q.time;have q2:=q.len;omega))
 refine cm aj 7 [] (mc 2 U mn) ?_;refine bY U (aH fun EY=>?_) (aG fun EY=>?_)
 ·refine aq aW 7 ?_;refine LX hQ (false,51,0,none,0,none,0,[],[],[],none,0,[],[],none,0) [] [] mn U (by rfl) U U ?_;exact rq<|pN (gd (me:=me) C (fun q:gl l r=>by have q1:=q.time;have q2:=q.len;omega))
 refine aS aW 4 U<|rS (SX (aU (xs:=[(0,.const (vI (-1)))]) (cs:=(aZ.cells (aZ.mk (-1) 0))) U U (aT XL U)) U U)<|AL U OG fun T=>eN U xD U<|aq aj 3 ?_;refine cP bX [5,6,7,8] [] [] [0,1,2,3,4,5,6,7,8,9,10,11] [] U U U U U<|eS U (LW 4 U bP U U)<|eS U (LW 3 U bP U U)<|eS U (FA 3 U eB U)<|eS U (L1 (vS bA l.ag.length bC) 4 U bP U U)<|eS U (LN U Tb)<|dI U<|bQ U fun T18 AO=>?_;refine yO (n:=l.ag.length) (es:=(map oC (replicate l.ag.length (none:Option Nat)))) U U U Uf I I (by simp only [maxLen];omega) (by rw [AAy];rfl) U fun B=>?_
 try dsimp only
 refine bG (AO _ _ (aB [1,2,3,4,5,6,7,8,9,10,11,12]) ?_);refine bQ U fun T20 AP=>rS (SX (aU (xs:=[(0,.tmp 44),(1,.tmp 45),(3,.tmp 49)]) (cs:=(cj.cells (cj.mk (kN l kA kC cA cC bA bC) (jR r sgA sgC) (aV.mk none 0 0) (aV.mk (some ⟨B,0,none⟩) l.ag.length l.ag.length) (aV.mk none 0 0) (aV.mk none 0 0)))) U U (aT UJ U)) U U)<|bG (AP _ _ (aB [1,2,3,4,5,6,7,8,9,10,11,12]) ?_);refine bQ U fun T21 An=>dV U fun AB=>bG (An _ _ (aB [2,3,4,5,6,7,8,9,10,11,12,13]) ?_);refine bQ U fun T23 A0=>rS (AG U)<|bG (A0 _ _ (aB [2,3,4,5,6,7,8,9,10,11,12,13]) ?_);refine eJ U<|cm jE 11 [] (mc 6 U mn) ?_;rw [ym];refine eC 3 1<|mj ?_;have E:(0≤l.ag.length)∧(([]:List Nat).length=0):=by exact ⟨c4 _,rfl⟩
 refine bu (ι:={z:Nat×(OA)×Nat×(List Nat) // (z.1≤l.ag.length)∧(z.2.2.2.length=z.1)}) [2,3,4,6,7,9,10,54] [4,7,8,9,10,11,12,13,14,15] U U (fun z=>[(55,(vI (z.1.1:Int)))]) (fun z=>[(bD (bx rJ (replicate z.1.1 ([]:TM)) z.1.2.2.2)),(fB z.1.2.1 z.1.2.2.1 (cv l z.1.1)),(cb AB 343 (cj.cells (cj.mk (kN l kA kC cA cC bA bC) (jR r sgA sgC) (aV.mk z.1.2.1 ((cv l z.1.1).length) z.1.2.2.1) (aV.mk (some ⟨B,0,none⟩) l.ag.length l.ag.length) (aV.mk none 0 0) (aV.mk none 0 0)))),(IY (some ⟨B,0,none⟩) l.ag.length (dJ z.1.2.2.2 l.ag.length))]) (fun _=>rfl) (fun _=>rfl) (fun z=>l.ag.length-z.1.1) ⟨(0,none,0,([]:List Nat)),E⟩ (aN U) (aB [4,7,8,9,10,11,12,13,14,15,0,1,2,3]) ?_;clear E;rintro ⟨⟨b,a,c,fb⟩,⟨h,V⟩⟩ J26 y
 try dsimp only at h V
 try dsimp only
 have Fn:(dJ fb l.ag.length).length=l.ag.length:=oX I;refine aq bS 6 ?_;refine bY U (aH fun Dw=>?_) (aG fun Dw=>?_)
 ·refine aq aW 11 ?_;refine cP bX [12,13,16] [4] [0] [0,1,2,3,4,5,6,7,8,9,10,13] [0,1,2,3,4,5,6,7,8,9,10,11,12,13] U U U U U<|eS U (MV U)<|eS U (MV U)<|eS U (SX (bK U U) U U)<|eS U (FA 10 U eB U)<|fS U (L1 (vS a ((cv l b).length) c) 12 U bP U U)<|eS U (LW 2 U bP U U)<|eS U (MV U)<|eS U (CL (IL l kA kC az cA cC bA bC (b:Int) hin asm (by exact Y.vt) I) (aP [3,4,5,6]) U) ?_;have J7:=CZ Ct Y.vt b;have J8:=Y.TZ b I;simp only [AAP];refine eS U (BI U (nq ⟨I,I⟩))<|eS U (FA 1 U eB U)<|eS U (L1 (vI l.g7) 2 U bP U U) ?_;refine eS U (CL (Jo (1000*(mL l (b:Int).toNat)) l.g7 I (by (simp;omega))) (aA) U) ?_;refine eS U (SX (bK U U) U U)<|eS U (FA 10 U eB U)<|dI U<|gu U fun T33 A1=>dC (xs:=[.tmp 69]) (cs:=[(vI (qB (1000*(mL l (b:Int).toNat)) l.g7))]) U cM jW U U U U (by simp [Value.cells]) U U fun If=>bG (A1 _ _ (aB [1,2,3,4,5,6,7,8,9,10,11,14]) (aB [1,2,3,4,5,6,7,8,9,10,11,12,13,14]) ?_);refine bQ U fun T35 A2=>?_;refine cZ (es2:=(map iC (cv l (b+1)))) (m':=(cv l (b+1)).length) 12 U U U pI U U (by simp [dE]) (aM (es:=map iC [(qB (1000*(mL l (b:Int).toNat)) l.g7)]) 0 U U (by simp [br]) U) (j4 _) (by have:=dE (l:=l) (n:=b);first|omega|(simp;omega)) (by simp only [maxLen,dE];omega) (by rw [th];simp [ew]) (by simp [dE]) U fun Z d=>?_
  try dsimp only
  refine bG (A2 _ _ (aB [1,2,3,4,5,6,7,8,9,10,11,14]) ?_);refine bQ U fun T38 A3=>iq (vs:=[(vS Z ((cv l (b+1)).length) d)]) (cs':=(cj.cells (cj.mk (kN l kA kC cA cC bA bC) (jR r sgA sgC) (aV.mk Z ((cv l (b+1)).length) d) (aV.mk (some ⟨B,0,none⟩) l.ag.length l.ag.length) (aV.mk none 0 0) (aV.mk none 0 0)))) (C':=[_,_,_,_,_,_,_,_,_,_,_,_,_,(cb AB 343 (cj.cells (cj.mk (kN l kA kC cA cC bA bC) (jR r sgA sgC) (aV.mk Z ((cv l (b+1)).length) d) (aV.mk (some ⟨B,0,none⟩) l.ag.length l.ag.length) (aV.mk none 0 0) (aV.mk none 0 0)))),_]) 13 U U U wM U U U U U U U<|bG (A3 _ _ (aB [1,2,3,4,5,6,7,8,9,10,11,14]) ?_);refine eJ U<|aS jE 3 U<|rS (SX (bK U U) U U)<|cm aj 3 [] (mc 13 U mn) ?_;refine lj (kV:=iV) U U fun J=>?_
  try dsimp only
  obtain ⟨Go,C0⟩:=ax (dJ fb l.ag.length) b I;have hx41m:(map oC (dJ fb l.ag.length))[b]? =some (oC Go):=by rw [gM,C0];rfl
  refine rS (IA b U (ak (n:=l.ag.length) 15 U sq) AZ dc I I) ?_;have A4:((dJ fb l.ag.length).set b (some J))=(dJ (fb++[J]) l.ag.length):=by exact ua I I
  refine ej (k:=b) (o:=0) (vs:=[(Value.map (some J))]) (es':=(map oC (dJ (fb++[J]) l.ag.length))) (C':=[_,_,_,_,_,_,_,_,_,_,_,_,_,_,_,(IY (some ⟨B,0,none⟩) l.ag.length (dJ (fb++[J]) l.ag.length))]) 15 U U U Ry U U U U hx41m U dc (by exact (AAl (f:=oC) (l:=(dJ fb l.ag.length)) (i:=b) (a:=(some J))).symm.trans (c7 _ A4)) U<|aq aj 7 ?_;refine Cd (X':=bx rJ (replicate (b+1) ([]:TM)) (fb++[J])) 12 0 U U (IT V) ?_
  try dsimp only
  have A5:(vI (((b+1):Nat):Int))=(vI ((b:Int)+1)):=by exact cI I
  refine aL (y ⟨((b+1),Z,d,(fb++[J])),⟨I,by simp;omega⟩⟩ _ _ _ U os (cx 8<|aQ U A5<|cS.nil _) (aB [2,3,4,5,6,7,8,9,10,11,0,12,13,14]))
 refine aS aW 1 U<|cm fD 12 [] (mc 1 U mn) ?_;rw [show (replicate b ([]:TM))=cL l r.ab 0 from by rw [Au,show b=l.ag.length by omega]];rw [show cv l b=cv l l.ag.length from by rw [show b=l.ag.length by omega]];have E:(0≤r.ab.length)∧(qq l r.ab 0):=by exact ⟨c4 _,xC⟩
 refine bu (ι:={z:Nat // (z≤r.ab.length)∧(qq l r.ab z)}) [2,3,4,6,7,9,10,83,84] [1,2,3,4,5,6,7,8,9,11,12,13] U U (fun z=>[(85,(vI (z.1:Int)))]) (fun z=>[(cb T 85 (aZ.cells (nk r.ab z.1))),(bD (bx rJ (cL l r.ab z.1) fb))]) (fun _=>rfl) (fun _=>rfl) (fun z=>r.ab.length-z.1) ⟨0,E⟩ (aN U) (aB [1,2,3,4,5,6,7,8,9,11,12,13,0,10]) ?_;clear E;rintro ⟨i,⟨C3,A⟩⟩ J46 S
 try dsimp only
 have GE:(cL l r.ab i).length=l.ag.length:=hZ;have Fn:(dJ fb l.ag.length).length=l.ag.length:=oX I;refine aq bS 6 ?_;refine bE U (aG fun Eq=>?_) (aH fun Eq=>?_)
 ·refine aS aW 1 U<|aq fD 4 ?_;have g:gl l r:=Ba I I A I;refine aS aW 7 U<|iY 2<|eh fun R81 AC=>aS bS 2 U<|rS (SX (ck (r:= .bool true) U U U g_) U U)<|aS aj 10 U<|rS (IAB 0 0 U UA U dc U)<|dD aj 7 [] (mr 8 U mn) U<|rS (SX (pE U U U (hf) (aP [7])) U U)<|aq aj 9 ?_;refine bY U (aJ fun K=>?_) (aK fun K=>?_)
  ·refine aq aW 8 ?_;refine LX hQ (false,me,0,none,0,none,0,[],[],[],none,0,[],[],none,0) [] [] mn U (by rfl) U U ?_;exact rq<|O4 (Fk C g K) K
  refine aS aW 4 U<|rS (SX (ck (r:= .int .i64 1) U U U (jw ⟨dc,dc⟩)) U U)<|aS aj 2 U<|KK AC<|eh fun R89 H1=>aS bS 2 U<|rS (SX (ck (r:= .bool false) U U U g_) U U)<|aS aj 5 U<|aq fD 3 ?_;rw [show cL l r.ab i=cL l r.ab r.ab.length from by rw [show i=r.ab.length by omega]];have p:(cL l r.ab r.ab.length).length=l.ag.length:=hZ;rw [show (map oC (dJ fb l.ag.length))=(zipWith g5 (cL l r.ab r.ab.length) fb) from Y9 I p];rw [show (cb AB 343 (cj.cells (cj.mk (kN l kA kC cA cC bA bC) (jR r sgA sgC) (aV.mk a ((cv l l.ag.length).length) c) (aV.mk (some ⟨B,0,none⟩) l.ag.length l.ag.length) (aV.mk none 0 0) (aV.mk none 0 0))))=(cb AB 343 (cj.cells (cj.mk (kN l kA kC cA cC bA bC) (jR r sgA sgC) (aV.mk a ((cv l l.ag.length).length) c) (aV.mk (some ⟨B,0,none⟩) ((cL l r.ab r.ab.length).length) l.ag.length) (aV.mk none 0 0) (aV.mk none 0 0)))) from by rw [p]];have Cx:=ow Ct Y g;have IO:(cv l l.ag.length).length=l.ag.length:=dE;refine aq aW 2 ?_;refine kx 10 U U U U (Fm (kN l kA kC cA cC bA bC) (jR r sgA sgC) (cv l l.ag.length) (cL l r.ab r.ab.length) a c fb (some ⟨B,0,none⟩) l.ag.length AB (by exact Cx) (by exact dE.symm) (by rw [p];omega)) U (ek 9 U U (kb sm) (ek 11 U U (kb (by rw [m4];omega)) (ek 13 U U tJ mu))) U (fun C1 Fd=>?_);obtain ⟨G,R,O,P,F,N,M,H⟩:=C1;refine I0 (X:=[(cb AB 343 (cj.cells (cj.mk (kN l kA kC cA cC bA bC) (jR r sgA sgC) (aV.mk a ((cv l l.ag.length).length) c) (aV.mk (some ⟨B,0,none⟩) ((cL l r.ab r.ab.length).length) l.ag.length) (aV.mk O G.length P) (aV.mk M F.length H)))),(own O P 346 1 (zipWith g5 G R)),(bD (bx oL G R)),(own M H 346 1 (zipWith g5 F N)),(bD (bx oL F N))]) 10 U U ?_
  try dsimp only
  obtain ⟨j,Ci,Ck,Cp⟩:=Fd;dsimp only at j Ci Ck Cp;refine aq aj 6 ?_;refine cX (xY (kN l kA kC cA cC bA bC) (jR r sgA sgC) (cv l l.ag.length) (cL l r.ab r.ab.length) a c fb (some ⟨B,0,none⟩) l.ag.length G F R O P N M H AB (by exact Cx) (by (simp;omega)) (by exact dE.symm) (by exact j) asm) (aw (ak (n:=(cv l l.ag.length).length) 14 U sm)<|aw (ak (n:=(cL l r.ab r.ab.length).length) 15 U (by rw [m4];omega))<|aw (dK 17 U m6)<|aw (ak (n:=G.length) 1 U (by rw [m4];omega))<|aw (dK 2 U m6)<|aw (ak (n:=F.length) 3 U (by rw [m4];omega))<|aw (dK 4 U m6)<|gN 0 U U<|aA) U fun C2 GV=>?_;obtain ⟨Ha,Hi⟩:=C2
  try dsimp only
  refine aq aj 4 ?_;refine bE U (aG fun AA=>?_) (aH fun AA=>?_)
  ·refine aq aW 10 ?_;refine LX hQ (true,0,AB,a,c,(some ⟨B,0,none⟩),l.ag.length,fb,G,R,O,P,F,N,M,H) [1,15,16,18,2,3,4,5] [] mn U (by (show List.all _ _=true;simp only [AAS,eX,om,Iw,UE,n4];rfl)) U U ?_;exact ⟨fun _=>⟨yn C g (by first|rfl|exact K) (fun q=>AA (c7 (fun z:List Int=>(z.length:Int)) q)),j,Ci,Ck,Cp,dso⟩,Q7⟩
  refine aq aW 7 ?_;refine LX hQ (false,8,0,none,0,none,0,[],[],[],none,0,[],[],none,0) [] [] mn U (by rfl) U U ?_;exact rq<|pN (vD (me:=me) C g (by first|rfl|exact K) (show ou (dX l r)=[] from kq (ACT.1 AA)))
 refine aq aW 7 ?_;obtain ⟨x,hx⟩:=ax r.ab i I;have GT:=bw aZ.cells hx;refine rS (IA i U (au 6 U) zH dc I I)<|rS (ld i 0 (aZ.cells x) U bP (au 6 U) GT U dc U U)<|AL U OG fun In=>aS aj 1 U<|eN U xD U<|cm aj 11 [0,1] (mc 2 U (mc 0 U mn)) ?_;refine dC (xs:=[.tmp 95]) (cs:=[(vI x.fR)]) U cM jW U U U U (by simp [Value.cells]) U U fun DL=>?_;refine rS (CL (de.eq (iE 0 ((l.ag.length:Int)-1) ([x.fR]) (some ⟨DL,0,none⟩) 1 (by (simp;done))) cp) (aw (aM 0 U U (by simp [br]) U)<|aA) U) ?_;refine aq aj 2 ?_;refine bJ (t:=99) U (aJ fun FS=>?_) (aK fun FS=>?_)
 ·refine aq aj 37 ?_;refine LX hQ (false,51,0,none,0,none,0,[],[],[],none,0,[],[],none,0) [] [] mn U (by rfl) U U ?_;exact rq<|pN (gd (me:=me) C (pZ hx (by unfold j9 k8;omega)))
 refine cm aj 2 [] (mc 1 U mn) ?_;refine dC (xs:=[.tmp 101]) (cs:=[(vI x.Read)]) U cM jW U U U U (by simp [Value.cells]) U U fun Di=>?_;refine rS (CL (de.eq (iE 0 86400000 ([x.Read]) (some ⟨Di,0,none⟩) 1 (by (simp;done))) cp) (aw (aM 0 U U (by simp [br]) U)<|aA) U) ?_;refine aq aj 3 ?_;refine bJ (t:=106) U (aJ fun s=>?_) (aK fun s=>?_)
 ·refine aq aj 30 ?_;refine LX hQ (false,51,0,none,0,none,0,[],[],[],none,0,[],[],none,0) [] [] mn U (by rfl) U U ?_;exact rq<|pN (gd (me:=me) C (pZ hx (by unfold j9 k8;omega)))
 refine cm aj 7 [0,1] (mc 2 U (mc 15 U mn)) ?_;refine bJ (t:=113) U (aH fun u=>?_) (aG fun u=>?_)
 ·refine aq aj 23 ?_;refine LX hQ (false,51,0,none,0,none,0,[],[],[],none,0,[],[],none,0) [] [] mn U (by rfl) U U ?_;exact rq<|pN (gd (me:=me) C (pZ hx (by unfold j9 k8;omega)))
 refine cm aj 6 [0,1] (mc 2 U (mc 15 U mn)) ?_;refine cz (t:=119) U (aG fun v=>?_) (aH fun v=>?_)
 ·refine dD aj 17 [0,1] (mc 4 U (mc 2 U mn)) U<|rS (CL (D_ l kA kC az cA cC bA bC x hin asm I) (aP [5,6,7,8]) U)<|AL U dA fun JZ=>eN U cJ U<|cm aj 11 [] (mc 0 U mn) ?_;refine bE U (aG fun D=>?_) (aH fun D=>?_)
  ·refine dD aW 4 [] (mc 3 U mn) U<|iq (vs:=(aZ.cells x)) (cs':=(aZ.cells x)) (C':=[_,_,_,_,_,_,_,_,_,_,_,_,_,_,_,_,(cb T 85 (aZ.cells x)),_]) 16 U U U xD U U U U U U U<|aq aj 3 ?_;have B3:(aZ.cells x)=(aZ.cells (nk r.ab (i+1))):=by rw [lh hx]
   rw [B3];refine aq aW 4 ?_;rw [show (cL l r.ab i)=(cL l r.ab (i+1)) from (rR hx D).symm];have B7:(vI (((i+1):Nat):Int))=(vI ((i:Int)+1)):=by exact cI I
   refine aL (S ⟨(i+1),⟨I,j5 A hx (by unfold j9 k8;omega)⟩⟩ _ _ _ U os (cx 9<|aQ U B7<|cS.nil _) (aB [4,5,6,7,8,9,10,11,12,13,14,15,16,17]))
  obtain ⟨mb,W⟩:=ax (cL l r.ab i) ((x.fR).toNat) I;obtain ⟨ga,L⟩:=ax fb ((x.fR).toNat) I;refine BJ 17 W L U U U ?_
  try dsimp only
  refine cK bX 10 kr<|iR 1 U<|dS (SX (bK U U) U U)<|dP 4 [0,1] (mc 16 U (mc 5 U mn)) ?_;have CI:(map oC (dJ fb l.ag.length))[(x.fR).toNat]? =some (oC (some ga)):=sJ (ox L);refine dS (IA ((x.fR).toNat) U (ak (n:=l.ag.length) 17 U sq) AZ dc I I) ?_;refine dS (gG ((x.fR).toNat) 0 (Value.map (some ga)) U bP (ak (n:=(dJ fb l.ag.length).length) 17 U sm) CI U dc U)<|jZ 2 [] (mc 2 U mn) U<|cy<|iP (kV:=iV) (x:=(i:Int)) (C':=[(iu iV ga (bR fg (d_ mb (i:Int) (du l x)))),_,_,_,_,_,_,_,_,_,_,_,_,_,_,_,_,_,_]) 0 U U U U rX (eD nZ) U (gH _ _ _ _).symm U<|dD aj 4 [] (mc 5 U mn) U<|iq (vs:=(aZ.cells x)) (cs':=(aZ.cells x)) (C':=[_,_,_,_,_,_,_,_,_,_,_,_,_,_,_,_,_,_,(cb T 85 (aZ.cells x))]) 18 U U U xD U U U U U U U<|aq aj 3 ?_;have Bx:(aZ.cells x)=(aZ.cells (nk r.ab (i+1))):=by rw [lh hx]
  rw [Bx];refine aq aW 4 ?_;refine D6 (f:=rJ) (ms:=(cL l r.ab i)) (m:=(d_ mb (i:Int) (du l x))) 1 0 (by rw [hZ];omega) L U U U ?_;rw [ui hx I D W];have By:(vI (((i+1):Nat):Int))=(vI ((i:Int)+1)):=by exact cI I
  refine aL (S ⟨(i+1),⟨I,j5 A hx (by unfold j9 k8;omega)⟩⟩ _ _ _ U os (cx 9<|aQ U By<|cS.nil _) (aB [5,6,7,8,9,10,11,12,13,14,15,16,17,0]))
 refine cm aj 9 [0,1] (mc 2 U (mc 15 U mn)) ?_;refine bY U (aH fun w=>?_) (aG fun w=>?_)
 ·refine aq aW 7 ?_;refine LX hQ (false,51,0,none,0,none,0,[],[],[],none,0,[],[],none,0) [] [] mn U (by rfl) U U ?_;exact rq<|pN (gd (me:=me) C (pZ hx (by unfold j9 k8;omega)))
 refine dD aW 7 [0,1] (mc 4 U (mc 2 U mn)) U<|rS (CL (D_ l kA kC az cA cC bA bC x hin asm I) (aP [5,6,7,8]) U)<|AL U dA fun JR=>eN U cJ U<|cm aj 11 [] (mc 0 U mn) ?_;refine bE U (aG fun D=>?_) (aH fun D=>?_)
 ·refine dD aW 4 [] (mc 3 U mn) U<|iq (vs:=(aZ.cells x)) (cs':=(aZ.cells x)) (C':=[_,_,_,_,_,_,_,_,_,_,_,_,_,_,_,_,(cb T 85 (aZ.cells x)),_]) 16 U U U xD U U U U U U U<|aq aj 3 ?_;have A8:(aZ.cells x)=(aZ.cells (nk r.ab (i+1))):=by rw [lh hx]
  rw [A8];refine aq aW 4 ?_;rw [show (cL l r.ab i)=(cL l r.ab (i+1)) from (rR hx D).symm];have A9:(vI (((i+1):Nat):Int))=(vI ((i:Int)+1)):=by exact cI I
  refine aL (S ⟨(i+1),⟨I,j5 A hx (by unfold j9 k8;omega)⟩⟩ _ _ _ U os (cx 9<|aQ U A9<|cS.nil _) (aB [4,5,6,7,8,9,10,11,12,13,14,15,16,17]))
 obtain ⟨mb,W⟩:=ax (cL l r.ab i) ((x.fR).toNat) I;obtain ⟨ga,L⟩:=ax fb ((x.fR).toNat) I;refine BJ 17 W L U U U ?_
 try dsimp only
 refine cK bX 10 kr<|iR 1 U<|dS (SX (bK U U) U U)<|dP 4 [0,1] (mc 16 U (mc 5 U mn)) ?_;have B9:(map oC (dJ fb l.ag.length))[(x.fR).toNat]? =some (oC (some ga)):=sJ (ox L);refine dS (IA ((x.fR).toNat) U (ak (n:=l.ag.length) 17 U sq) AZ dc I I) ?_;refine dS (gG ((x.fR).toNat) 0 (Value.map (some ga)) U bP (ak (n:=(dJ fb l.ag.length).length) 17 U sm) B9 U dc U)<|jZ 2 [] (mc 2 U mn) U<|cy<|iP (kV:=iV) (x:=(i:Int)) (C':=[(iu iV ga (bR fg (d_ mb (i:Int) (du l x)))),_,_,_,_,_,_,_,_,_,_,_,_,_,_,_,_,_,_]) 0 U U U U rX (eD nZ) U (gH _ _ _ _).symm U<|dD aj 4 [] (mc 5 U mn) U<|iq (vs:=(aZ.cells x)) (cs':=(aZ.cells x)) (C':=[_,_,_,_,_,_,_,_,_,_,_,_,_,_,_,_,_,_,(cb T 85 (aZ.cells x))]) 18 U U U xD U U U U U U U<|aq aj 3 ?_;have A6:(aZ.cells x)=(aZ.cells (nk r.ab (i+1))):=by rw [lh hx]
 rw [A6];refine aq aW 4 ?_;refine D6 (f:=rJ) (ms:=(cL l r.ab i)) (m:=(d_ mb (i:Int) (du l x))) 1 0 (by rw [hZ];omega) L U U U ?_;rw [ui hx I D W];have A7:(vI (((i+1):Nat):Int))=(vI ((i:Int)+1)):=by exact cI I
 refine aL (S ⟨(i+1),⟨I,j5 A hx (by unfold j9 k8;omega)⟩⟩ _ _ _ U os (cx 9<|aQ U A7<|cS.nil _) (aB [5,6,7,8,9,10,11,12,13,14,15,16,17,0]))
end
section
open Go.RowKit
variable (l:a_) (kA:OA) (kC:Nat) (az:List RA) (cA:OA) (cC:Nat) (bA:OA) (bC:Nat) (r:cW) (sgA:OA) (sgC:Nat)
theorem Em (bq_:Int) (hin:dW l az) (hsl:r.ab.length≤1000000):
 de Tryz.prog 178 [(vA (bU.cells (kN l kA kC cA cC bA bC))),(vA (dx.cells (jR r sgA sgC))),(vI bq_)] ((rE l kA az cA bA)++[(gR sgA r.ab)]) (vT [(vA (aa.cells (eL l r bq_))),(vI (eT l r bq_))]):=by
 have EY:=hin.sS;have DA:=hin.sT;have Cx:=hin.mD;have C2:=hin.sU;have Dw:=hin.side;refine bg kr Tryz.func178 U U fun w0 Q hQ hN=>?_
 try dsimp only
 refine aS bS 2 U<|dV U fun d=>dV U fun b3=>sR U U fun f=>AL U dA fun b5=>cm aj 7 [0,1] (mc 3 U (mc 2 U mn)) ?_;refine rS (FU U)<|dC (xs:=[.tmp 17]) (cs:=[(Value.func (.func 212) [].toArray [(vP d),(vP f)].toArray)]) U UA Zs U U U U (by simp [Value.cells]) U U fun b7=>cX (RE l kA kC az cA cC bA bC r sgA sgC (Value.func (.func 212) [].toArray [(vP d),(vP f)].toArray) (iX [(gQ kA l.bW),(pb cA l.aD az),(iX (bx aX.lG l.aD az)),(oG bA l.ag),(cb d 28 (bU.cells (kN l kA kC cA cC bA bC))),(cb f 3 [(vI bq_)])]) (lT l bq_) b7 (by exact kU (fi:=[]) (ca:=[(vP d),(vP f)]) (jP (HB l kA kC az cA cC bA bC d bq_ f (by first|assumption|omega)) (aP [0,1,2,3,4,5]))) hin hsl) (lV [5,6,7,8,9]<|aw (jH (aP [5,6,7,8,4,2]))<|gN 0 U U<|aA) U fun y8 A1=>?_;obtain ⟨A2,Ci,E,H,AB,W,X,Y,B,L,J,K,A,G,AA,V⟩:=y8;cases A2
 ·obtain ⟨AO,he⟩:=A1.2 rfl
  try dsimp only at AO he
  subst AO
  try dsimp only [cond_true,cond_false,List.cons_append,List.nil_append]
  refine aq aj 14 ?_;refine bE U (aK fun v=>?_) (aJ fun v=>?_)
  ·exact absurd v he
  refine aS aW 2 U<|rS (SX (aU (xs:=[]) (cs:=(aa.cells (aa.mk 0 0))) U U (aT gP U)) U U)<|aS aj 1 U<|o8 U cJ U<|aq aj 4 ?_;refine mU hQ [0] (mc 1 U mn) U ?_
  (have e:=nB (b:=bq_) he;rw [e.1,e.2]<;>rfl)
 obtain ⟨he,D,C,A6,A5,A9⟩:=A1.1 rfl
 try dsimp only [cond_true,cond_false,List.cons_append,List.nil_append]
 dsimp only at D C A6 A5 A9;obtain ⟨A4,s,A8,DL⟩:=jT he;obtain ⟨Bx,An⟩:=ep A4;have A7:=An.head;unfold fj at A7;have By:=ow Bx An s;have Do:=s.time;have Di:=s.len;have AP:(cv l l.ag.length).length=l.ag.length:=dE;have A0:(cL l r.ab r.ab.length).length=l.ag.length:=hZ;have DC:B.length=l.ag.length+1:=by have:=D.len;rw [show (dX l r).n=l.ag.length from dE] at this;exact this
 have C3:A.length=l.ag.length+1:=by have:=C.len;rw [show (dX l r).n=l.ag.length from dE] at this;exact this
 obtain ⟨C0,C1⟩:=Ie A8;obtain ⟨b,j⟩: ∃ b:Nat,bq_=(b:Int):=⟨bq_.toNat,I⟩;rw [j];refine aS aj 11 U<|rS (SX (ck (r:= .bool false) U U U nm) U U)<|aS aj 7 U<|rS (SX (aU (xs:=[(0,.const (vI 1))]) (cs:=(aa.cells (aa.mk 1 0))) U U (aT gP U)) U U)<|AL U dA fun t=>eN U cJ U<|dD aj 5 [] (mc 0 U mn) U<|AL U dA fun u=>eN U cJ U<|cm aj 7 [] (mc 12 U mn) ?_;obtain ⟨mf,O⟩:=ax B b I;obtain ⟨mb,P⟩:=ax A (b+1) I;refine cX (QN E b) (aA) U fun B7 Ck=>?_;obtain ⟨a,c⟩:=B7
 try dsimp only
 refine aq aj 3 ?_;refine px (L0:=[(3,(vP d)),(4,(vP b3)),(5,(vP f)),(6,(vP b5)),(7,(vI 0)),(10,(vP t)),(11,(vP u))]) (F:=[(fB H AB (cv l l.ag.length)),(own W X 95 1 (zipWith g5 (cL l r.ab r.ab.length) Y)),(bD (bx rJ (cL l r.ab r.ab.length) Y)),(own J K 346 1 (zipWith g5 B L)),(bD (bx oL B L)),(own AA V 346 1 (zipWith g5 A G)),(bD (bx oL A G)),(cb E 343 (cj.cells (cj.mk (kN l kA kC cA cC bA bC) (jR r sgA sgC) (aV.mk H ((cv l l.ag.length).length) AB) (aV.mk W ((cL l r.ab r.ab.length).length) X) (aV.mk J B.length K) (aV.mk AA A.length V)))),(cb a 301 [(vP E)]),(cb c 3 [(vI (b:Int))])]) (fun k (y:aa)=>(l0 k y)∧(∀ q∈k,q∈sL (dX l r) b mf mb)) (fun k y=>[(cb u 38 (aa.cells y)),(cb t 38 (aa.cells (aa.mk 1 0))),(cb b5 38 (aa.cells (aa.mk 0 0))),(cb f 3 [(vI (b:Int))]),(cb b3 50 (dx.cells (jR r sgA sgC))),(cb d 28 (bU.cells (kN l kA kC cA cC bA bC))),(gQ kA l.bW).ro,(pb cA l.aD az).ro,(iX (bx aX.lG l.aD az)).ro,(oG bA l.ag).ro,(gR sgA r.ab).ro]) (fun _ (_:Unit)=>False) (fun _ _=>[]) [2,3,13,14,15,16,17,18,19,20,21] [5,6,7,8,9,10,11,4,0,1] oN rfl rfl (Mj (kN l kA kC cA cC bA bC) (jR r sgA sgC) (cv l l.ag.length) (cL l r.ab r.ab.length) H AB Y W X B A L J K G AA V E b a c mf mb (by rw [AP];omega) (by exact By) (by rw [A0];omega) (by exact D) I (by exact C) I (by show r.ab.length≤1000;omega) (by exact O) (by exact P)) rfl rfl rfl (by exact ⟨EU,fun q hq=>by cases hq⟩) (by simp only [AAI,h_,AAs,AAv,ABC];exact ⟨⟨_,aF (i:=0) rfl,(kb sm)⟩,⟨_,aF (i:=1) rfl,(kb (by rw [m4];omega))⟩,⟨_,aF (i:=2) rfl,tJ⟩,⟨_,aF (i:=3) rfl,(kb (by rw [m4];omega))⟩,⟨_,aF (i:=4) rfl,tJ⟩,⟨_,aF (i:=5) rfl,(kb (by rw [m4];omega))⟩,⟨_,aF (i:=6) rfl,tJ⟩,⟨_,aF (i:=7) rfl,(bL _)⟩,⟨_,aF (i:=8) rfl,(bL _)⟩,⟨_,aF (i:=9) rfl,(bL _)⟩⟩) (by rintro k x k2 ⟨o,_,rfl,_⟩;rfl) rfl (aN rfl) ?_ ?_ (fun _ _ _ h=>h.elim) (fun _ _ h=>h.elim)
 ·rintro k x k2 h lr ra rb S w1 K41 Qr42 EQ hx m AC N B3 B9;obtain ⟨q,hq,rfl,rfl⟩:=hx;obtain ⟨R,T⟩:=m
  try dsimp only
  refine aS bS 1 U<|AL U dA fun Cp=>eN U cJ U<|aq aj 1 ?_;refine ke (fun _ _ h=>h) (aB [1,0,2,3,4,5,6,7,8,9,10,11,12])<|aL (AC _ _ ?_);refine dD bS 6 [0,1] (mc 2 U (mc 3 U mn)) U<|rS (BI U (Ft _ _ h (aa.mk 1 0)))<|aq aj 2 ?_;refine bE U (aK fun M=>?_) (aJ fun M=>?_)
  ·refine dD aW 4 [] (mc 1 U mn) U<|Ec U cJ U<|aq aj 2 ?_;exact N q.2 _ _ (by refine ⟨B5 R (p8 hq) ?_,fun z hz=>?_⟩;(first|exact c1 M|exact c0 M);(rcases dY.1 hz with hz|hz;exact T z hz;(rw [bT.1 hz];exact hq))) (aB [0,2,3,4,5,6,7,8,9,10,11,12])
  refine dD aW 5 [0,1] (mc 1 U (mc 2 U mn)) U<|rS (MN U)<|dD aj 4 [0,1] (mc 1 U (mc 2 U mn)) U<|rS (MX U)<|rS (SX (aU (xs:=[(0,.tmp 40),(1,.tmp 45)]) (cs:=(aa.cells (aa.mk (min q.2.Lo h.Lo) (max q.2.Hi h.Hi)))) U U (aT gP U)) U U)<|o8 U cJ U<|dD aj 4 [] (mc 1 U mn) U<|Ec U cJ U<|aq aj 2 ?_;exact N (aa.mk (min q.2.Lo h.Lo) (max q.2.Hi h.Hi)) _ _ (by refine ⟨B5 R (p8 hq) ?_,fun z hz=>?_⟩;(first|exact c1 M|exact c0 M);(rcases dY.1 hz with hz|hz;exact T z hz;(rw [bT.1 hz];exact hq))) (aB [0,2,3,4,5,6,7,8,9,10,11,12])
 rintro FS k h Z p;obtain ⟨R,T⟩:=p
 try dsimp only
 refine dD jE 7 [0,1] (mc 11 U (mc 12 U mn)) U<|rS (BI U (wU _ _ h (aa.mk 1 0)))<|aq aj 2 ?_;refine bE U (aG fun g=>?_) (aH fun g=>?_)
 ·refine dD aW 5 [] (mc 11 U mn) U<|iq (vs:=(aa.cells h)) (cs':=(aa.cells h)) (C':=[_,_,_,_,_,_,_,_,_,_,_,_,_,(cb b5 38 (aa.cells h)),_,_,_,_,_,_,_,_]) 13 U U U cJ U U U U U U U<|aq aj 4 ?_;refine hQ _ _ _ (nI 0 U U<|g4 (vs:=[(vA (aa.cells h)),(vI 0)]) ⟨⟨_,U,.inl ⟨_,_,bP,rW (vs:=(aa.cells h)) 13 U U,U,U⟩⟩,U,trivial⟩ fun w hs=>Hr ?_ hs);show (vT [(vA (aa.cells h)),(vI 0)])=(vT [(vA (aa.cells (eL l r bq_))),(vI (eT l r bq_))])
  clear hs w hQ hN
  (rw [j] at he ⊢;have hh:h=o5 l r b:=Cn (D.min _ _ O) (C.max _ _ P) (D.keys _ _ O) (C.keys _ _ P) T Z R;(have e:=tQ he (fun q=>g (hh.trans q));rw [e.1,e.2,hh]<;>rfl))
 refine aS aW 2 U<|rS (SX (aU (xs:=[]) (cs:=(aa.cells (aa.mk 0 0))) U U (aT gP U)) U U)<|iq (vs:=(aa.cells (aa.mk 0 0))) (cs':=(aa.cells (aa.mk 0 0))) (C':=[_,_,_,_,_,_,_,_,_,_,_,_,_,(cb b5 38 (aa.cells (aa.mk 0 0))),_,_,_,_,_,_,_,_]) 13 U U U cJ U U U U U U U<|aq aj 4 ?_;refine hQ _ _ _ (nI 0 U U<|g4 (vs:=[(vA (aa.cells (aa.mk 0 0))),(vI 6)]) ⟨⟨_,U,.inl ⟨_,_,bP,rW (vs:=(aa.cells (aa.mk 0 0))) 13 U U,U,U⟩⟩,U,trivial⟩ fun w hs=>Hr ?_ hs);show (vT [(vA (aa.cells (aa.mk 0 0))),(vI 6)])=(vT [(vA (aa.cells (eL l r bq_))),(vI (eT l r bq_))])
 clear hs w hQ hN
 (rw [j] at he ⊢;have hh:h=o5 l r b:=Cn (D.min _ _ O) (C.max _ _ P) (D.keys _ _ O) (C.keys _ _ P) T Z R;(have e:=tw he (hh.symm.trans g);rw [e.1,e.2]<;>rfl))
theorem WV (hin:dW l az) (hsl:r.ab.length≤1000000):
 de Tryz.prog 305 [(vA (bU.cells (kN l kA kC cA cC bA bC))),(vA (dx.cells (jR r sgA sgC)))] ((rE l kA az cA bA)++[(gR sgA r.ab)]) (vT [(vA (aa.cells (Gg l r))),(vI (eT l r l.b_))]):=by
 have H:=hin.sS;have D:=hin.sT;have B:=hin.mD;have C:=hin.sU;have G:=hin.side;refine bg kr Tryz.func305 U U fun M Q hQ hN=>?_
 try dsimp only
 refine aS bS 2 U<|dV U fun AA=>dV U fun J=>AL U dA fun K=>dD aj 9 [0,1] (mc 2 U (mc 1 U mn)) U<|rS (CL (Em l kA kC az cA cC bA bC r sgA sgC l.b_ hin hsl) (aP [3,4,5,6,7]) U)<|aS aj 3 U<|AL U dA fun L=>eN U cJ U<|aq aj 10 ?_;refine bY U (aJ fun A=>?_) (aK fun A=>?_)
 ·refine aS aW 2 U<|rS (SX (aU (xs:=[]) (cs:=(aa.cells (aa.mk 0 0))) U U (aT gP U)) U U)<|aS aj 1 U<|o8 U cJ U<|aq aj 4 ?_;refine mU hQ [0] (mc 1 U mn) U ?_
  (rw [HS A]<;>rfl)
 refine cm aW 8 [0,1] (mc 0 U (mc 2 U mn)) ?_;have E:=wi A;have F:=(yD A).time;refine dD aj 6 [0,1] (mc 0 U (mc 2 U mn)) U<|rS (SX (aU (xs:=[(0,.tmp 24),(1,.tmp 29)]) (cs:=(aa.cells (aa.mk (((eL l r l.b_).Lo)-r.Start) (((eL l r l.b_).Hi)-r.Start)))) U U (aT gP U)) U U)<|o8 U cJ U<|aq aj 4 ?_;refine mU hQ [0] (mc 1 U mn) U ?_
 (rw [G2 A,A]<;>rfl)
end
section
open Go.RowKit
variable (l:a_) (kA:OA) (kC:Nat) (az:List RA) (cA:OA) (cC:Nat) (bA:OA) (bC:Nat) (d:ao) (sgA:OA) (sgC:Nat)
theorem Sr (hin:dW l az):
 de Tryz.prog 299 [(vA (bU.cells (kN l kA kC cA cC bA bC))),(vA (aO.cells (aO.mk d.Out d.cV d.Time (jR d.bp sgA sgC))))] ((rE l kA az cA bA)++[(gR sgA d.bp.ab)]) (vT [(vA (aa.cells d.Time)),(vB (decide (d.cV=false∧d.Time=gO∧oh d.bp)))]):=by
 refine bg kr Tryz.func299 U U fun AA Q hQ hN=>?_
 try dsimp only
 refine aS bS 2 U<|dV U fun F=>dV U fun G=>AL U dA fun H=>aq aj 4 ?_;refine cP bX [15] [] [] [1,2,3,4,5,6,7] [] U U U U U<|eS U (FA 2 U eB U)<|eS U (LP (aa.cells d.Time) 0 U bP U U U)<|eS U (FA 1 U eB U)<|eS U (L1 (vB d.cV) 0 U bP U U)<|eS U (NT U)<|eS U (MV U)<|ur (t:=11) U (fun E=>?_) (fun E=>?_);rotate_left 1
 ·rw [m5] at E;refine eS U (OX U)<|eS U (OX U)<|eS U (OX U)<|eS U (OX U)<|eS U (PK U)<|eS U (MV U)<|eS U (OX U)<|eS U (OX U)<|eS U (PK U)<|eS U (AG U)<|dI U<|bQ U fun T10 A=>eN U cJ U<|bG (A _ _ (aB [1,2,3,4,5,6,7]) ?_);refine eJ U<|aq jE 2 ?_;refine mU hQ [0] (mc 0 U mn) U ?_;clear hQ hN A T10;refine c7 (fun z=>Value.tuple #[_,vB z]) ?_
  first|rfl|(simp_all [gO];done)
 rw [e0] at E;refine eS U (FA 2 U eB U)<|eS U (LP (aa.cells d.Time) 0 U bP U U U)<|eS U (SX (aU (xs:=[]) (cs:=(aa.cells (aa.mk 0 0))) U U (aT gP U)) U U)<|eS U (BI U (wU _ _ d.Time (aa.mk 0 0)))<|eS U (PK U)<|eS U (MV U)<|ur (t:=17) U (fun B=>?_) (fun B=>?_);rotate_left 1
 ·replace B:=DF B;refine eS U (OX U)<|eS U (OX U)<|eS U (PK U)<|eS U (AG U)<|dI U<|bQ U fun T9 D=>eN U cJ U<|bG (D _ _ (aB [1,2,3,4,5,6,7]) ?_);refine eJ U<|aq jE 2 ?_;refine mU hQ [0] (mc 0 U mn) U ?_;clear hQ hN D T9;refine c7 (fun z=>Value.tuple #[_,vB z]) ?_
  first|rfl|(simp_all [gO];done)
 replace B:=DT B;refine eS U (LW 0 U bP U U)<|eS U (CL (QB d sgA sgC) (aP [6]) U)<|eS U (PK U)<|eS U (AG U)<|dI U<|bQ U fun T8 C=>eN U cJ U<|bG (C _ _ (aB [1,2,3,4,5,6,7]) ?_);refine eJ U<|aq jE 2 ?_;refine mU hQ [0] (mc 0 U mn) U ?_;clear hQ hN C T8;refine c7 (fun z=>Value.tuple #[_,vB z]) ?_
 first|rfl|(simp_all [gO];done)
theorem Q_ (hin:dW l az):
 de Tryz.prog 302 [(vA (bU.cells (kN l kA kC cA cC bA bC))),(vA (aO.cells (aO.mk d.Out d.cV d.Time (jR d.bp sgA sgC))))] ((rE l kA az cA bA)++[(gR sgA d.bp.ab)]) (vT [(vA (aa.cells d.Time)),(vB (decide (iv d.Time∧oh d.bp)))]):=by
 refine bg kr Tryz.func302 U U fun G Q hQ hN=>?_
 try dsimp only
 refine aS bS 2 U<|dV U fun D=>dV U fun E=>AL U dA fun F=>aq aj 4 ?_;refine cP bX [9] [] [] [1,2,3,4,5,6,7] [] U U U U U<|eS U (FA 2 U eB U)<|eS U (LP (aa.cells d.Time) 0 U bP U U U)<|eS U (FA 2 U eB U)<|eS U (LP (aa.cells d.Time) 0 U bP U U U)<|eS U (CL (II d.Time) (aA) U)<|eS U (MV U)<|ur (t:=11) U (fun A=>?_) (fun A=>?_);rotate_left 1
 ·replace A:=DF A;refine eS U (OX U)<|eS U (OX U)<|eS U (PK U)<|eS U (AG U)<|dI U<|bQ U fun T8 C=>eN U cJ U<|bG (C _ _ (aB [1,2,3,4,5,6,7]) ?_);refine eJ U<|aq jE 2 ?_;refine mU hQ [0] (mc 0 U mn) U ?_;clear hQ hN C T8;refine c7 (fun z=>Value.tuple #[_,vB z]) ?_
  first|rfl|(simp_all;done)
 replace A:=DT A;refine eS U (LW 0 U bP U U)<|eS U (CL (QB d sgA sgC) (aP [6]) U)<|eS U (PK U)<|eS U (AG U)<|dI U<|bQ U fun T7 B=>eN U cJ U<|bG (B _ _ (aB [1,2,3,4,5,6,7]) ?_);refine eJ U<|aq jE 2 ?_;refine mU hQ [0] (mc 0 U mn) U ?_;clear hQ hN B T7;refine c7 (fun z=>Value.tuple #[_,vB z]) ?_
 first|rfl|(simp_all;done)
theorem SB (hin:dW l az) (hsl:d.bp.ab.length≤1000000):
 de Tryz.prog 304 [(vA (bU.cells (kN l kA kC cA cC bA bC))),(vA (aO.cells (aO.mk d.Out d.cV d.Time (jR d.bp sgA sgC))))] ((rE l kA az cA bA)++[(gR sgA d.bp.ab)]) (vT [(vA (aa.cells (Gg l d.bp))),(vB (decide (eT l d.bp l.b_=0∧d.Time=gO)))]):=by
 have H:=hin.sS;have F:=hin.sT;have D:=hin.mD;have E:=hin.sU;have G:=hin.side;refine bg kr Tryz.func304 U U fun M Q hQ hN=>?_
 try dsimp only
 refine aS bS 2 U<|dV U fun AA=>dV U fun J=>AL U dA fun K=>dD aj 7 [] (mc 2 U mn) U<|rS (LP (dx.cells (jR d.bp sgA sgC)) 1 U bP U U U)<|rS (CL (WV l kA kC az cA cC bA bC d.bp sgA sgC hin hsl) (aP [3,4,5,6,7]) U)<|aS aj 3 U<|AL U dA fun L=>eN U cJ U<|aq aj 4 ?_;refine cP bX [9] [] [] [0,2,3,4,5,6,7,8] [] U U U U U<|eS U (LW 0 U bP U U)<|eS U (MV U)<|eS U (BI U nt)<|eS U (MV U)<|ur (t:=18) U (fun B=>?_) (fun B=>?_);rotate_left 1
 ·replace B:=DF B;refine eS U (OX U)<|eS U (OX U)<|eS U (OX U)<|eS U (OX U)<|eS U (PK U)<|eS U (AG U)<|dI U<|bQ U fun T10 A=>o8 U cJ U<|bG (A _ _ (aB [0,2,3,4,5,6,7,8]) ?_);refine eJ U<|aq jE 2 ?_;refine mU hQ [0] (mc 1 U mn) U ?_;clear hQ hN A T10;refine c7 (fun z=>Value.tuple #[_,vB z]) ?_
  first|rfl|(simp_all [gO];done)
 replace B:=DT B;refine eS U (FA 2 U eB U)<|eS U (LP (aa.cells d.Time) 1 U bP U U U)<|eS U (SX (aU (xs:=[]) (cs:=(aa.cells (aa.mk 0 0))) U U (aT gP U)) U U)<|eS U (BI U (wU _ _ d.Time (aa.mk 0 0)))<|eS U (PK U)<|eS U (AG U)<|dI U<|bQ U fun T9 C=>o8 U cJ U<|bG (C _ _ (aB [0,2,3,4,5,6,7,8]) ?_);refine eJ U<|aq jE 2 ?_;refine mU hQ [0] (mc 1 U mn) U ?_;clear hQ hN C T9;refine c7 (fun z=>Value.tuple #[_,vB z]) ?_
 first|rfl|(simp_all [gO];done)
theorem Lp (g1:Nat):
 de Tryz.prog 116 [(vA (oM.cells (oM.mk (Value.func (.func 298) [].toArray [].toArray) (Value.func (.func 299) [].toArray [].toArray)))),(vP g1)] [(gR sgA d.bp.ab),(cb g1 52 (aO.cells (aO.mk d.Out d.cV d.Time (jR d.bp sgA sgC))))] (vB d.Out):=by
 refine bg kr Tryz.func116 U U fun B Q hQ hN=>?_
 try dsimp only
 refine aS bS 2 U<|dV U fun A=>dD aj 8 [0,1] (mc 0 U (mr 2 U mn)) U<|rS (CL (Yh d sgA sgC) (aP [1]) U)<|cr aj 4 hQ U U ?_;rfl
theorem Ld (g1:Nat):
 de Tryz.prog 116 [(vA (oM.cells (oM.mk (Value.func (.func 301) [].toArray [].toArray) (Value.func (.func 302) [].toArray [].toArray)))),(vP g1)] [(gR sgA d.bp.ab),(cb g1 52 (aO.cells (aO.mk d.Out d.cV d.Time (jR d.bp sgA sgC))))] (vB d.cV):=by
 refine bg kr Tryz.func116 U U fun B Q hQ hN=>?_
 try dsimp only
 refine aS bS 2 U<|dV U fun A=>dD aj 8 [0,1] (mc 0 U (mr 2 U mn)) U<|rS (CL (YG d sgA sgC) (aP [1]) U)<|cr aj 4 hQ U U ?_;rfl
theorem Mq (g1:Nat):
 de Tryz.prog 116 [(vA (oM.cells (oM.mk (Value.func (.func 303) [].toArray [].toArray) (Value.func (.func 304) [].toArray [].toArray)))),(vP g1)] [(gR sgA d.bp.ab),(cb g1 52 (aO.cells (aO.mk d.Out d.cV d.Time (jR d.bp sgA sgC))))] (vB true):=by
 refine bg kr Tryz.func116 U U fun B Q hQ hN=>?_
 try dsimp only
 refine aS bS 2 U<|dV U fun A=>dD aj 8 [0,1] (mc 0 U (mr 2 U mn)) U<|rS (CL (Y0 d sgA sgC) (aP [1]) U)<|cr aj 4 hQ U U ?_;rfl
end
section
open Go.RowKit
theorem z_ (d:ao) (sgA:OA) (sgC g1:Nat):
 de Tryz.prog 115 [(vS ig 3 3),(Value.func (.func 116) [].toArray [(vP g1)].toArray)] [(rd ig 3 2 fY),(gR sgA d.bp.ab),(cb g1 52 (aO.cells (aO.mk d.Out d.cV d.Time (jR d.bp sgA sgC))))] (vI (qn d)):=by
 refine bg kr Tryz.func115 U U fun F Q hQ hN=>?_
 try dsimp only
 refine aS bS 14 U<|iY 4<|eh fun R4 D=>aS bS 2 U<|rS (SX (ck (r:= .bool true) U U U g_) U U)<|aS aj 19 U<|rS (IA 0 U (au 0 U) Ov dc U I)<|rS (ld 0 0 (oM.cells (oM.mk (Value.func (.func 298) [].toArray [].toArray) (Value.func (.func 299) [].toArray [].toArray))) U bP (au 0 U) (show fY[0]? =some [(Value.func (.func 298) [].toArray [].toArray),(Value.func (.func 299) [].toArray [].toArray)] from U) U dc U U)<|rS (CL (Lp d sgA sgC g1) (aP [1,2]) U)<|aq aj 2 ?_;refine bY U (fun B=>?_) (fun B=>?_)
 ·refine cr aW 7 hQ U U ?_;clear hQ hN;refine cI ?_;simp [qn, *]
 refine aS aW 4 U<|rS (SX (ck (r:= .int .i64 1) U U U (jw ⟨dc,dc⟩)) U U)<|aS aj 2 U<|KK D<|eh fun R12 A=>aS bS 2 U<|rS (SX (ck (r:= .bool true) U U U g_) U U)<|aS aj 19 U<|rS (IA 1 U (au 0 U) Ov dc U I)<|rS (ld 1 0 (oM.cells (oM.mk (Value.func (.func 301) [].toArray [].toArray) (Value.func (.func 302) [].toArray [].toArray))) U bP (au 0 U) (show fY[1]? =some [(Value.func (.func 301) [].toArray [].toArray),(Value.func (.func 302) [].toArray [].toArray)] from U) U dc U U)<|rS (CL (Ld d sgA sgC g1) (aP [1,2]) U)<|aq aj 2 ?_;refine bY U (fun C=>?_) (fun C=>?_)
 ·refine cr aW 7 hQ U U ?_;clear hQ hN;refine cI ?_;simp [qn, *]
 refine aS aW 4 U<|rS (SX (ck (r:= .int .i64 2) U U U (jw ⟨dc,dc⟩)) U U)<|aS aj 2 U<|KK A<|eh fun R20 E=>aS bS 2 U<|rS (SX (ck (r:= .bool true) U U U g_) U U)<|aS aj 19 U<|rS (IA 2 U (au 0 U) Ov dc U I)<|rS (ld 2 0 (oM.cells (oM.mk (Value.func (.func 303) [].toArray [].toArray) (Value.func (.func 304) [].toArray [].toArray))) U bP (au 0 U) (show fY[2]? =some [(Value.func (.func 303) [].toArray [].toArray),(Value.func (.func 304) [].toArray [].toArray)] from U) U dc U U)<|rS (CL (Mq d sgA sgC g1) (aP [1,2]) U)<|cr aj 10 hQ U U ?_;clear hQ hN;refine cI ?_;simp [qn, *]
end
section
open Go.RowKit
variable (l:a_) (kA:OA) (kC:Nat) (az:List RA) (cA:OA) (cC:Nat) (bA:OA) (bC:Nat) (d:ao) (sgA:OA) (sgC:Nat)
theorem XE (g1:Nat) (hk:d.Out=true):
 de Tryz.prog 115 [(vS ig 3 3),(Value.func (.func 116) [].toArray [(vP g1)].toArray)] [(rd ig 3 2 fY),(gR sgA d.bp.ab),(cb g1 52 (aO.cells (aO.mk d.Out d.cV d.Time (jR d.bp sgA sgC))))] (vI 0):=by
 have h:=z_ d sgA sgC g1;have e:qn d=0:=by simp [qn,hk]
 rw [e] at h;exact h
theorem Ya (g1:Nat) (hk:d.Out=false∧d.cV=true):
 de Tryz.prog 115 [(vS ig 3 3),(Value.func (.func 116) [].toArray [(vP g1)].toArray)] [(rd ig 3 2 fY),(gR sgA d.bp.ab),(cb g1 52 (aO.cells (aO.mk d.Out d.cV d.Time (jR d.bp sgA sgC))))] (vI 1):=by
 have h:=z_ d sgA sgC g1;have e:qn d=1:=by simp [qn,hk]
 rw [e] at h;exact h
theorem Zi (g1:Nat) (hk:d.Out=false∧d.cV=false):
 de Tryz.prog 115 [(vS ig 3 3),(Value.func (.func 116) [].toArray [(vP g1)].toArray)] [(rd ig 3 2 fY),(gR sgA d.bp.ab),(cb g1 52 (aO.cells (aO.mk d.Out d.cV d.Time (jR d.bp sgA sgC))))] (vI 2):=by
 have h:=z_ d sgA sgC g1;have e:qn d=2:=by simp [qn,hk]
 rw [e] at h;exact h
theorem E9 (hin:dW l az) (hsl:d.bp.ab.length≤1000000) (hk:d.Out=true):
 de Tryz.prog 73 [(vA (bU.cells (kN l kA kC cA cC bA bC))),(vA (aO.cells (aO.mk d.Out d.cV d.Time (jR d.bp sgA sgC))))] ((rd ig 3 2 fY)::((rE l kA az cA bA)++[(gR sgA d.bp.ab)])) (vT [(vA (aa.cells (fZ l d))),(vB (decide (jt l d)))]):=by
 refine bg kr Tryz.func73 U U fun F Q hQ hN=>?_
 try dsimp only
 refine aS bS 2 U<|dV U fun D=>dV U fun A=>AL U dA fun E=>aS aj 5 U<|rS (SX (G5 U U CP) U U)<|rS (FU U)<|rS (CL (XE d sgA sgC A hk) (Rk 3 8 1 U U U U U U) U)<|aS aj 4 U<|cK bX 9 kr<|iR 1 U<|dS (SX (HG (k:=0) U U U CP U I) U U)<|dS (pV ((0*2)+1) U (au 3 U) (e6 I dc) eB U)<|dS (gG 0 1 (Value.func (.func 299) [].toArray [].toArray) U bP (au 3 U) (show fY[0]? =some [(Value.func (.func 298) [].toArray [].toArray),(Value.func (.func 299) [].toArray [].toArray)] from U) U dc U)<|jZ 2 [0,1] (mc 2 U (mc 1 U mn)) U<|dS (CL (Sr l kA kC az cA cC bA bC d sgA sgC hin) (aP [4,5,6,7,8]) U)<|iR 2 U<|cy<|eN U cJ U<|aq aj 4 ?_;refine mU hQ [0] (mc 0 U mn) U ?_;have B:=JY (l:=l) hk;have C:=s_ (l:=l) hk;simp only [B,C]
theorem Fh (hin:dW l az) (hsl:d.bp.ab.length≤1000000) (hk:d.Out=false∧d.cV=true):
 de Tryz.prog 73 [(vA (bU.cells (kN l kA kC cA cC bA bC))),(vA (aO.cells (aO.mk d.Out d.cV d.Time (jR d.bp sgA sgC))))] ((rd ig 3 2 fY)::((rE l kA az cA bA)++[(gR sgA d.bp.ab)])) (vT [(vA (aa.cells (fZ l d))),(vB (decide (jt l d)))]):=by
 refine bg kr Tryz.func73 U U fun F Q hQ hN=>?_
 try dsimp only
 refine aS bS 2 U<|dV U fun D=>dV U fun A=>AL U dA fun E=>aS aj 5 U<|rS (SX (G5 U U CP) U U)<|rS (FU U)<|rS (CL (Ya d sgA sgC A hk) (Rk 3 8 1 U U U U U U) U)<|aS aj 4 U<|cK bX 9 kr<|iR 1 U<|dS (SX (HG (k:=1) U U U CP U I) U U)<|dS (pV ((1*2)+1) U (au 3 U) (e6 I dc) eB U)<|dS (gG 1 1 (Value.func (.func 302) [].toArray [].toArray) U bP (au 3 U) (show fY[1]? =some [(Value.func (.func 301) [].toArray [].toArray),(Value.func (.func 302) [].toArray [].toArray)] from U) U dc U)<|jZ 2 [0,1] (mc 2 U (mc 1 U mn)) U<|dS (CL (Q_ l kA kC az cA cC bA bC d sgA sgC hin) (aP [4,5,6,7,8]) U)<|iR 2 U<|cy<|eN U cJ U<|aq aj 4 ?_;refine mU hQ [0] (mc 0 U mn) U ?_;have B:=Dt (l:=l) hk;have C:=tU (l:=l) hk;simp only [B,C]
theorem E_ (hin:dW l az) (hsl:d.bp.ab.length≤1000000) (hk:d.Out=false∧d.cV=false):
 de Tryz.prog 73 [(vA (bU.cells (kN l kA kC cA cC bA bC))),(vA (aO.cells (aO.mk d.Out d.cV d.Time (jR d.bp sgA sgC))))] ((rd ig 3 2 fY)::((rE l kA az cA bA)++[(gR sgA d.bp.ab)])) (vT [(vA (aa.cells (fZ l d))),(vB (decide (jt l d)))]):=by
 refine bg kr Tryz.func73 U U fun F Q hQ hN=>?_
 try dsimp only
 refine aS bS 2 U<|dV U fun D=>dV U fun A=>AL U dA fun E=>aS aj 5 U<|rS (SX (G5 U U CP) U U)<|rS (FU U)<|rS (CL (Zi d sgA sgC A hk) (Rk 3 8 1 U U U U U U) U)<|aS aj 4 U<|cK bX 9 kr<|iR 1 U<|dS (SX (HG (k:=2) U U U CP U I) U U)<|dS (pV ((2*2)+1) U (au 3 U) (e6 I dc) eB U)<|dS (gG 2 1 (Value.func (.func 304) [].toArray [].toArray) U bP (au 3 U) (show fY[2]? =some [(Value.func (.func 303) [].toArray [].toArray),(Value.func (.func 304) [].toArray [].toArray)] from U) U dc U)<|jZ 2 [0,1] (mc 2 U (mc 1 U mn)) U<|dS (CL (SB l kA kC az cA cC bA bC d sgA sgC hin hsl) (aP [4,5,6,7,8]) U)<|iR 2 U<|cy<|eN U cJ U<|aq aj 4 ?_;refine mU hQ [0] (mc 0 U mn) U ?_;have B:=JM (l:=l) hk;have C:=Ac (l:=l) hk;simp only [B,C]
theorem GN (hin:dW l az) (hsl:d.bp.ab.length≤1000000):
 de Tryz.prog 73 [(vA (bU.cells (kN l kA kC cA cC bA bC))),(vA (aO.cells (aO.mk d.Out d.cV d.Time (jR d.bp sgA sgC))))] ((rd ig 3 2 fY)::((rE l kA az cA bA)++[(gR sgA d.bp.ab)])) (vT [(vA (aa.cells (fZ l d))),(vB (decide (jt l d)))]):=by
 by_cases ho:d.Out=true
 ·exact E9 l kA kC az cA cC bA bC d sgA sgC hin hsl ho
 by_cases hf:d.cV=true
 ·exact Fh l kA kC az cA cC bA bC d sgA sgC hin hsl ⟨by simpa using ho,hf⟩
 ·exact E_ l kA kC az cA cC bA bC d sgA sgC hin hsl ⟨by simpa using ho,by simpa using hf⟩
end
section
open Go.RowKit
variable (r:cN) (kA:OA) (kC:Nat) (az:List RA) (cA:OA) (cC:Nat) (bA:OA) (bC:Nat) (slA:OA) (slC:Nat) (drA:OA) (drC:Nat) (ha:List cq) (heA:OA) (heC:Nat) (tz:List RA)
theorem OL (tA:OA) (tC:Nat) (ms:Value) (gw h:Nat) (gm g1 g2:Nat) (hin:gI r az ha) (htz:tz.length=r.ay.length) (hh:h<r.ay.length) (hok:lM r (h+1)):
 JN Tryz.prog 117 [(vI (h:Int)),(vP g1),(vP g2)] ((Dp r kA az cA bA slA drA ha heA)++[(rd tA ((dL r).length) 1 (zipWith Td (dL r) tz)),(iX (bx TL (dL r) tz)),(cb gw 98 (hP.cells (hP.mk (pP r kA kC cA cC bA bC slA slC drA drC heA heC) (aV.mk tA ((dL r).length) tC) ms))),(cb g1 87 [(vP gw)]),(cb g2 95 [(Value.map (some gm))])]) (iu iV gm (bR fg (eP r.av r.ay r.bf.length h 0))) (fun (x:Unit)=>(vT [])) (fun (x:Unit)=>True) (fun (x:Unit)=>(iu iV gm (bR fg (eP r.av r.ay r.bf.length (h+1) 0)))):=by
 have e:=hin.line;have w:=hin.hE;have y:=hin.has;have o:=hin.hO;have m:=hin.draw;have p:=fJ (r:=r);refine qp kr Tryz.func117 U U fun w0 Q hQ hN=>?_
 try dsimp only
 refine dD bS 3 [] (mr 12 U mn) U<|rS (SX (bK U U) U U)<|cm aj 3 [] (mr 11 U mn) ?_;obtain ⟨ht,B⟩:=ax r.ay h I;obtain ⟨A,C⟩:=ax ha h I;have AA:(zipWith dQ r.ay ha)[h]? =some (dQ ht A):=cD B C;have b:=hin.fG _ _ _ B C;have n:=b.mD;have L:=hok h ht I B;obtain ⟨tr,G⟩:=ax (dL r) h I;obtain ⟨tra,F⟩:=ax tz h I;have X:(zipWith Td (dL r) tz)[h]? =some (Td tr tra):=cD G F;refine rS (IA h U (au 9 U) VC dc I I)<|rS (gG h 0 (vS tra.1 tr.length tra.2) U bP (au 9 U) X U dc U) ?_;have H:=MD B G;have s:tr.length=r.bf.length:=by rw [H,c3];exact L.1
 have q:=L.1;refine aq aj 5 ?_;have E:(0≤r.bf.length):=by exact c4 _
 refine bu (ι:={z:Nat // (z≤r.bf.length)}) [0,1,2,14,15] [1,2,3,4,5,6,7,8,9,10,11,12,13] U U (fun z=>[(16,(vI (z.1:Int)))]) (fun z=>[(iu iV gm (bR fg (eP r.av r.ay r.bf.length h z.1)))]) (fun _=>rfl) (fun _=>rfl) (fun z=>r.bf.length-z.1) ⟨0,E⟩ (aN U) (aB [1,2,3,4,5,6,7,8,9,10,11,12,13,0]) ?_;clear E;rintro ⟨i,c⟩ J2 J
 try dsimp only
 have V:i<r.bf.length→(eP r.av r.ay r.bf.length h i).lookup (i:Int)=gL r.av r.ay i h:=P7;refine aq bS 6 ?_;refine bE U (aG fun v=>?_) (aH fun v=>?_)
 ·refine aS aW 1 U<|aq fD 1 ?_;rw [show (eP r.av r.ay r.bf.length h i)=(eP r.av r.ay r.bf.length (h+1) 0) from by rw [show i=r.bf.length by omega];exact Tp];refine LM hN () 13 [] mn U U U U ?_;trivial
 refine aq aW 7 ?_;obtain ⟨x,hx⟩:=ax tr i I;have k:=bw aa.cells hx;refine rS (IA i U (show ij _ (Kv tra.1 tr).holds from (ct 9 U (bq G F (by simp [TL])))) iA dc I I)<|rS (ld i 0 (aa.cells x) U bP (show ij _ (Kv tra.1 tr).holds from (ct 9 U (bq G F (by simp [TL])))) k U dc U U)<|AL U dA fun b8=>aS aj 1 U<|eN U cJ U<|dD aj 6 [] (mr 13 U mn) U<|rS (SX (rK (kV:=iV) (x:=(i:Int)) (l:=(eP r.av r.ay r.bf.length h i)) (f:=fg) (z:=(aa.mk 0 0)) U U U rX (eD nZ) Kc (by exact au 14 U)) U U)<|aS aj 3 U<|AL U dA fun u=>eN U cJ U<|dD aj 7 [] (mr 13 U mn) U<|rS (SX (bK U U) U U)<|dD aj 4 [] (mr 12 U mn) U<|rS (IA h U (au 8 U) mz dc I I)<|rS (gG h 0 (vS A.1.1 ht.length A.1.2) U bP (au 8 U) AA U dc U)<|aq aj 1 ?_;obtain ⟨d,hd⟩:=ax ht i I;obtain ⟨da,Z⟩:=ax A.2 i I;have a:(zipWith ao.cells ht A.2)[i]? =some (ao.cells d da):=cD hd Z;refine rS (IA i U (show ij _ (jc A.1.1 ht A.2).holds from (ct 9 U (bq B C bZ))) rV dc I I)<|rS (pV (i*7) U (show ij _ (jc A.1.1 ht A.2).holds from (ct 9 U (bq B C bZ))) (e6 I dc) eB U)<|rS (gG i 0 (vB d.Out) U bP (show ij _ (jc A.1.1 ht A.2).holds from (ct 9 U (bq B C bZ))) a U dc U)<|aq aj 1 ?_;refine bJ (t:=39) U (fun AB=>?_) (fun AB=>?_)
 ·refine cm aj 10 [] (mr 14 U mn) ?_;have N:(cH (eP r.av r.ay r.bf.length h i) (i:Int))=(eP r.av r.ay r.bf.length h (i+1)):=by exact JP (by exact LR B hd AB)
  refine pg (kV:=iV) (x:=(i:Int)) (C':=[_,_,_,_,_,_,_,_,_,_,_,_,_,_,_,(iu iV gm (bR fg (eP r.av r.ay r.bf.length h (i+1))))]) 15 U U U U rX (eD nZ) U ((mo _ _ _).symm.trans (c7 _ N)) U<|aq aj 8 ?_;have O:(vI (((i+1):Nat):Int))=(vI ((i:Int)+1)):=by exact cI I
  refine aL (J ⟨(i+1),(by first|omega|(simp only [];omega))⟩ _ _ _ U os (cx 5<|aQ U O<|cS.nil _) (aB [2,3,4,5,6,7,8,9,10,11,12,13,14,15]))
 refine aq aj 5 ?_;refine bY U (fun D=>?_) (fun D=>?_)
 ·rw [e0] at D;refine cm aW 4 [] (mr 14 U mn) ?_;have P:(cH (eP r.av r.ay r.bf.length h i) (i:Int))=(eP r.av r.ay r.bf.length h (i+1)):=by exact JP (by exact GW ((V I).symm.trans (Option.not_isSome_iff_eq_none.1 (by rw [D];decide))))
  refine pg (kV:=iV) (x:=(i:Int)) (C':=[_,_,_,_,_,_,_,_,_,_,_,_,_,_,_,(iu iV gm (bR fg (eP r.av r.ay r.bf.length h (i+1))))]) 15 U U U U rX (eD nZ) U ((mo _ _ _).symm.trans (c7 _ P)) U<|aq aj 8 ?_;have R:(vI (((i+1):Nat):Int))=(vI ((i:Int)+1)):=by exact cI I
  refine aL (J ⟨(i+1),(by first|omega|(simp only [];omega))⟩ _ _ _ U os (cx 5<|aQ U R<|cS.nil _) (aB [2,3,4,5,6,7,8,9,10,11,12,13,14,15]))
 rw [m5] at D;refine aq aW 3 ?_;obtain ⟨M,W⟩:=ABZ.1 D;have K:gL r.av r.ay i h=some M:=(V I).symm.trans W;have Y:=Wg H hx hd;have AC:=DO (fun j x hj hx=>hok j x I hx) I K;have g:=Jh (L.2 d (aF hd));rw [← Y] at g;rw [show ((lookup (i:Int) (eP r.av r.ay r.bf.length h i)).getD (aa.mk 0 0))=M from by rw [W];rfl];refine dD aj 6 [0,1,2] (mr 14 U (mc 0 U (mc 1 U mn))) U<|rS (BI U (sM I I I))<|dD aj 5 [0,1] (mc 0 U (mc 1 U mn)) U<|rS (BI U (sM I I I))<|aq aj 1 ?_;refine rS (SX (aU (xs:=[(0,.tmp 52),(1,.tmp 58)]) (cs:=(aa.cells (aa.mk (M.Lo+(x.Lo/10)) (M.Hi+(x.Hi/10))))) U U (aT gP U)) U U) ?_;have S:(d_ (eP r.av r.ay r.bf.length h i) (i:Int) (aa.mk (M.Lo+(x.Lo/10)) (M.Hi+(x.Hi/10))))=(eP r.av r.ay r.bf.length h (i+1)):=by exact Sk I (by rw [K];rfl) (by rw [Y];exact Ic B hd (by rw [AB];decide) K)
 refine iP (kV:=iV) (x:=(i:Int)) (C':=[_,_,_,_,_,_,_,_,_,_,_,_,_,_,_,(iu iV gm (bR fg (eP r.av r.ay r.bf.length h (i+1))))]) 15 U U U U rX (eD nZ) U ((gH _ _ _ _).symm.trans (c7 _ S)) U<|aq aj 7 ?_;have T:(vI (((i+1):Nat):Int))=(vI ((i:Int)+1)):=by exact cI I
 refine aL (J ⟨(i+1),(by first|omega|(simp only [];omega))⟩ _ _ _ U os (cx 5<|aQ U T<|cS.nil _) (aB [2,3,4,5,6,7,8,9,10,11,12,13,14,15]))
theorem Y1 (tA:OA) (tC:Nat) (ms:Value) (gw n:Nat) (hin:gI r az ha) (htz:tz.length=r.ay.length) (hn:n≤r.ay.length) (hok:lM r n):
 lf Tryz.prog 74 [(vP gw),(vI (n:Int))] ((Dp r kA az cA bA slA drA ha heA)++[(rd tA ((dL r).length) 1 (zipWith Td (dL r) tz)),(iX (bx TL (dL r) tz)),(cb gw 98 (hP.cells (hP.mk (pP r kA kC cA cC bA bC slA slC drA drC heA heC) (aV.mk tA ((dL r).length) tC) ms)))]) (fun (x:Nat)=>(Value.map (some x))) (fun (x:Nat)=>True) (fun (x:Nat)=>[(iu iV x (bR fg (qb r n)))]):=by
 have L:=hin.line;have T:=hin.hE;have AA:=hin.has;have N:=hin.hO;have M:=hin.draw;have O:=fJ (r:=r);refine cR kr Tryz.func74 U U fun W Q hQ hN=>?_
 try dsimp only
 refine aS bS 2 U<|sR U U fun R=>aq aj 5 ?_;refine lj (kV:=iV) U U fun B=>?_
 try dsimp only
 refine AL U aaT fun S=>IN U Ry U U<|dD aj 6 [] (mc 2 U mn) U<|rS (SX (bK U U) U U)<|cm aj 8 [] (mr 13 U mn) ?_
 skip
 have A:(0≤r.bf.length):=by exact c4 _
 refine bu (ι:={z:Nat // (z≤r.bf.length)}) [1,2,5,15] [0,2,3,4,5,6,7,8,9,10,11,12,13] U U (fun z=>[(16,(vI (z.1:Int)))]) (fun z=>[(iu iV B (bR fg (eP r.av r.ay z.1 0 0)))]) (fun _=>rfl) (fun _=>rfl) (fun z=>r.bf.length-z.1) ⟨0,A⟩ (aN U) (aB [0,2,3,4,5,6,7,8,9,10,11,12,13,1]) ?_;clear A;rintro ⟨i,J⟩ J8 AB
 try dsimp only
 refine aq bS 6 ?_;refine bY U (aH fun G=>?_) (aG fun G=>?_)
 ·refine cm aW 13 [] (mc 0 U mn) ?_;refine rS (SX (aU (xs:=[]) (cs:=(aa.cells (aa.mk 0 0))) U U (aT gP U)) U U) ?_;have D:(d_ (eP r.av r.ay i 0 0) (i:Int) (aa.mk 0 0))=(eP r.av r.ay (i+1) 0 0):=by exact Rq
  refine iP (kV:=iV) (x:=(i:Int)) (C':=[_,_,_,_,_,_,_,_,_,_,_,_,_,(iu iV B (bR fg (eP r.av r.ay (i+1) 0 0)))]) 13 U U U U rX (eD nZ) U ((gH _ _ _ _).symm.trans (c7 _ D)) U<|aq aj 7 ?_;have E:(vI (((i+1):Nat):Int))=(vI ((i:Int)+1)):=by exact cI I
  refine aL (AB ⟨(i+1),(by first|omega|(simp only [];omega))⟩ _ _ _ U os (cx 4<|aQ U E<|cS.nil _) (aB [0,1,2,3,4,5,6,7,8,9,10,11,12,13]))
 refine aS aW 1 U<|aS fD 4 U<|rS (FU U)<|aq aj 11 ?_;rw [show (eP r.av r.ay i 0 0)=(eP r.av r.ay r.bf.length 0 0) from by rw [show i=r.bf.length by omega]];have A:(0≤n):=by exact c4 _
 refine bu (ι:={z:Nat // (z≤n)}) [2,5,7,24] [0,1,2,3,4,5,6,7,8,9,10,11,12] U U (fun z=>[(25,(vI (z.1:Int)))]) (fun z=>[(iu iV B (bR fg (eP r.av r.ay r.bf.length z.1 0)))]) (fun _=>rfl) (fun _=>rfl) (fun z=>n-z.1) ⟨0,A⟩ (aN U) (aB [0,1,2,3,4,5,6,7,8,9,10,11,12,13]) ?_;clear A;rintro ⟨h,K⟩ J19 C
 try dsimp only
 refine aq bS 6 ?_;refine bE U (aG fun H=>?_) (aH fun H=>?_)
 ·refine aS aW 1 U<|aq fD 3 ?_;rw [show (eP r.av r.ay r.bf.length h 0)=(qb r n) from by rw [show h=n by omega];exact Sf];refine cm aW 6 [] (mc 0 U mn) ?_;refine LX hQ B [13] [] mn U U U U ?_;trivial
 refine aq aW 13 ?_;refine kx 13 U U U U (OL r kA kC az cA cC bA bC slA slC drA drC ha heA heC tz tA tC ms gw h B R S hin htz I (by exact fun j x hj hx=>hok j x I hx)) U (ek 2 U U (df (bL _)) (ek 3 U U (df (bL _)) (ek 4 U U (df (bL _)) (ek 5 U U (df (bL _)) (ek 6 U U (df (bL _)) (ek 7 U U (df (bL _)) (ek 8 U U (df (bL _)) (ek 9 U U (df (bL _)) (ek 10 U U (df (bL _)) (ek 11 U U (df (bL _)) (ek 12 U U (df (bL _)) (ek 1 U U (bL _) (ek 0 U U (bL _) mu))))))))))))) U (fun V P=>?_)
 try dsimp only
 refine aq aj 7 ?_;have F:(vI (((h+1):Nat):Int))=(vI ((h:Int)+1)):=by exact cI I
 refine aL (C ⟨(h+1),(by first|omega|(simp only [];omega))⟩ _ _ _ U os (cx 4<|aQ U F<|cS.nil _) (aB [0,1,2,3,4,5,6,7,8,9,10,11,12,13]))
end
section
open Go.RowKit
theorem uL (r:cN) (kA:OA) (kC:Nat) (az:List RA) (cA:OA) (cC:Nat) (bA:OA) (bC:Nat) (slA:OA) (slC:Nat) (drA:OA) (drC:Nat) (ha:List cq) (heA:OA) (heC:Nat) (hin:gI r az ha):
 lf Tryz.prog 32 [(vA (cf.cells (pP r kA kC cA cC bA bC slA slC drA drC heA heC)))] ((rd ig 3 2 fY)::(Dp r kA az cA bA slA drA ha heA)) (fun (x:Bool×Int×Nat×Nat×(OA)×Nat×(List RA))=>bif x.1 then (vT [(Value.pointer (some ⟨x.2.2.1,0,none⟩)),(vI 0)]) else (vT [(Value.pointer none),(vI x.2.1)])) (fun (x:Bool×Int×Nat×Nat×(OA)×Nat×(List RA))=>(x.1=true→(eK r=0∧x.2.2.2.2.2.2.length=r.ay.length))∧(x.1=false→(x.2.1=eK r∧ ¬ eK r=0))) (fun (x:Bool×Int×Nat×Nat×(OA)×Nat×(List RA))=>bif x.1 then [(cb x.2.2.1 98 (hP.cells (hP.mk (pP r kA kC cA cC bA bC slA slC drA drC heA heC) (aV.mk x.2.2.2.2.1 ((dL r).length) x.2.2.2.2.2.1) (Value.map (some x.2.2.2.1))))),(Jp x.2.2.2.2.1 x.2.2.2.2.2.1 (dL r) x.2.2.2.2.2.2),(bD (bx HT (dL r) x.2.2.2.2.2.2)),(iu iV x.2.2.2.1 (bR fg (bI r)))] else []):=by
 have B3:=hin.line;have Eq:=hin.hE;have FS:=hin.has;have C1:=hin.hO;have Cx:=hin.draw;have l:=fJ (r:=r);refine cR kr Tryz.func32 U U fun w0 Q hQ hN=>?_
 try dsimp only
 refine aS bS 2 U<|dV U fun b2=>aS aj 8 U<|rS (LP (bU.cells (kN r.av kA kC cA cC bA bC)) 0 U bP U U U)<|rS (CL (xp r.av kA kC az cA cC bA bC asm) (aP [2,3,4,5]) U)<|aq aj 9 ?_;refine bY U (aJ fun B=>?_) (aK fun B=>?_)
 ·refine aq aW 8 ?_;refine LX hQ (false,(dU r.av),0,0,none,0,[]) [] [] mn U (by rfl) U U ?_;exact rq<|O4 (BG B) B
 refine cm aW 14 [] (mc 0 U mn) ?_;refine cX (Eg drA r.dp.length drC) (aA) U fun s C2=>?_
 try dsimp only
 refine cX (EI r.dp drA drC s asm) (aP [8,0]) U fun Ct C3=>?_;obtain ⟨DC,EY⟩:=Ct
 try dsimp only
 refine aq aj 7 ?_;refine dC (xs:=[.tmp 29]) (cs:=[(vI (r.bf.length:Int))]) U cM jW U U U U (by simp [Value.cells]) U U fun w=>?_;refine rS (CL (de.eq (mR 1 5 ([(r.bf.length:Int)]) (some ⟨w,0,none⟩) 1 (by (simp;done))) cp) (aw (aM 0 U U (by simp [br]) U)<|aA) U) ?_;refine aq aj 2 ?_;refine bJ (t:=33) U (aJ fun An=>?_) (aK fun An=>?_)
 ·refine aq aj 36 ?_;refine LX hQ (false,60,0,0,none,0,[]) [] [] mn U (by rfl) U U ?_;exact rq<|pN (l8 B (fun q:fr r=>by have o:=q.num;have q2:=q.Bx;have q3:=q.nh;have q4:=q.DL;omega))
 refine aq aj 6 ?_;refine bJ (t:=39) U (aJ fun A0=>?_) (aK fun A0=>?_)
 ·refine aq aj 30 ?_;refine LX hQ (false,60,0,0,none,0,[]) [] [] mn U (by rfl) U U ?_;exact rq<|pN (l8 B (fun q:fr r=>by have o:=q.num;have q2:=q.Bx;have q3:=q.nh;have q4:=q.DL;omega))
 refine cm aj 2 [] (mc 3 U mn) ?_;refine dC (xs:=[.tmp 41]) (cs:=[(vI r.jB)]) U cM jW U U U U (by simp [Value.cells]) U U fun AC=>?_;refine rS (CL (de.eq (mR 0 5 ([r.jB]) (some ⟨AC,0,none⟩) 1 (by (simp;done))) cp) (aw (aM 0 U U (by simp [br]) U)<|aA) U) ?_;refine aq aj 3 ?_;refine bJ (t:=46) U (aJ fun A1=>?_) (aK fun A1=>?_)
 ·refine aq aj 23 ?_;refine LX hQ (false,60,0,0,none,0,[]) [] [] mn U (by rfl) U U ?_;exact rq<|pN (l8 B (fun q:fr r=>by have o:=q.num;have q2:=q.Bx;have q3:=q.nh;have q4:=q.DL;omega))
 refine cm aj 3 [] (mc 4 U mn) ?_;refine dC (xs:=[.tmp 49]) (cs:=[(vI (r.ay.length:Int))]) U cM jW U U U U (by simp [Value.cells]) U U fun AO=>?_;refine rS (CL (de.eq (mR 1 3 ([(r.ay.length:Int)]) (some ⟨AO,0,none⟩) 1 (by (simp;done))) cp) (aw (aM 0 U U (by simp [br]) U)<|aA) U) ?_;refine aq aj 3 ?_;refine bJ (t:=54) U (aJ fun A2=>?_) (aK fun A2=>?_)
 ·refine aq aj 15 ?_;refine LX hQ (false,60,0,0,none,0,[]) [] [] mn U (by rfl) U U ?_;exact rq<|pN (l8 B (fun q:fr r=>by have o:=q.num;have q2:=q.Bx;have q3:=q.nh;have q4:=q.DL;omega))
 refine dD aj 2 [] (mc 5 U mn) U<|rS (CL (mR 0 9999 r.bf slA slC asm) (aP [11]) U)<|aq aj 4 ?_;refine bY U (fun M=>?_) (fun M=>?_)
 ·rw [e0] at M;refine aq aW 7 ?_;refine LX hQ (false,60,0,0,none,0,[]) [] [] mn U (by rfl) U U ?_;exact rq<|pN (l8 B (fun q:fr r=>by exact absurd (q.ins.symm.trans M) dc))
 rw [m5] at M;refine aq aW 5 ?_;have Fd:(eg r.dp).length=r.bf.length:=by rw [iD];omega
 refine aq aj 5 ?_;have A:(0≤r.bf.length)∧(ud r 0):=by exact ⟨c4 _,Hx⟩
 refine bu (ι:={z:Nat // (z≤r.bf.length)∧(ud r z)}) [1,5,6,60] [3,5,6,7,8,9,10,11,12,13,14] U U (fun z=>[(61,(vI (z.1:Int)))]) (fun z=>[]) (fun _=>rfl) (fun _=>rfl) (fun z=>r.bf.length-z.1) ⟨0,A⟩ (aN U) (aB [3,5,6,7,8,9,10,11,12,13,14]) ?_;clear A;rintro ⟨i,⟨By,AB⟩⟩ J28 T
 try dsimp only
 refine aq bS 6 ?_;refine bY U (aH fun A4=>?_) (aG fun A4=>?_)
 ·refine aS aW 11 U<|cK bX 24 kr<|dP 2 [] mn ?_;obtain ⟨x,hx⟩:=ax (eg r.dp) i I;have B7:=bw iC hx;refine dS (IA i U (ak (n:=r.dp.length) 0 U sq) cM dc I I) ?_;refine dS (gG i 0 (vI x) U bP (ak (n:=(eg r.dp).length) 0 U sm) B7 U dc U)<|dP 3 [] mn ?_;refine iJ (t:=70) U (aJ fun P=>?_) (aK fun P=>?_)
  ·refine iR 17 U<|cy<|aq aj 10 ?_;refine LX hQ (false,60,0,0,none,0,[]) [] [] mn U (by rfl) U U ?_;exact rq<|pN (l8 B (fun q:fr r=>by exact absurd (q.drawn hx) P))
  refine dP 3 [] mn ?_;refine iQ (t:=73) U (aG fun A5=>?_) (aH fun A5=>?_)
  ·refine iR 14 U<|cy<|aq aj 10 ?_;have Z:(vI (((i+1):Nat):Int))=(vI ((i:Int)+1)):=by exact cI I
   refine aL (T ⟨(i+1),⟨I,AN AB hx P (fun u v hu hv hw=>by omega)⟩⟩ _ _ _ U os (cx 4<|aQ U Z<|cS.nil _) (aB [0,1,2,3,4,5,6,7,8,9,10]))
  refine dP 3 [] (mc 1 U mn) ?_;obtain ⟨y,hy⟩:=ax r.bf i I;have B9:=bw iC hy;refine dS (IA i U (au 7 U) cM dc I I)<|dS (gG i 0 (vI y) U bP (au 7 U) B9 U dc U)<|dP 4 [] (mc 1 U mn) ?_;obtain ⟨z,hz⟩:=ax r.bf (i-1) I;have CI:=bw iC hz;refine dS (IA (i-1) U (au 7 U) cM dc I I)<|dS (gG (i-1) 0 (vI z) U bP (au 7 U) CI U dc U)<|iR 3 U<|cy<|aq aj 2 ?_;refine bE U (aG fun A6=>?_) (aH fun A6=>?_)
  ·refine aq aW 7 ?_;have Y:(vI (((i+1):Nat):Int))=(vI ((i:Int)+1)):=by exact cI I
   refine aL (T ⟨(i+1),⟨I,AN AB hx P (fun u v hu hv hw=>by (rw [hy] at hu;cases hu;rw [hz] at hw;cases hw;omega))⟩⟩ _ _ _ rfl os (cx 4<|aQ rfl Y<|cS.nil _) (aB [0,1,2,3,4,5,6,7,8,9,10]))
  refine aq aW 7 ?_;refine LX hQ (false,60,0,0,none,0,[]) [] [] mn U (by rfl) U U ?_;exact rq<|pN (l8 B (fun q:fr r=>by have o:=(q.ids i y hy).2 z I hz;omega))
 refine aS aW 1 U<|dD fD 5 [] (mc 1 U mn) U<|rS (SX (aU (xs:=[(0,.tmp 89)]) (cs:=(hP.cells (hP.mk (pP r kA kC cA cC bA bC slA slC drA drC heA heC) (aV.mk none 0 0) (Value.map none)))) U U (aT aau U)) U U)<|dV U fun K=>cm aj 13 [] (mc 2 U mn) ?_;refine eC 102 1<|mj ?_;have A:(0≤r.ay.length)∧(([]:List RA).length=0)∧(lM r 0):=by exact ⟨c4 _,rfl,AU⟩
 refine bu (ι:={z:Nat×(List RA)×(OA)×Nat // (z.1≤r.ay.length)∧(z.2.1.length=z.1)∧(lM r z.1)}) [1,5,8,93,94] [3,4,5,6,7,8,9,10,11,12,13] U U (fun z=>[(95,(vI (z.1.1:Int)))]) (fun z=>[(bD (bx HT (ik r z.1.1) z.1.2.1)),(UT z.1.2.2.1 z.1.2.2.2 (zipWith FE (ik r z.1.1) z.1.2.1)),(cb K 98 (hP.cells (hP.mk (pP r kA kC cA cC bA bC slA slC drA drC heA heC) (aV.mk z.1.2.2.1 ((zipWith FE (ik r z.1.1) z.1.2.1).length) z.1.2.2.2) (Value.map none))))]) (fun _=>rfl) (fun _=>rfl) (fun z=>r.ay.length-z.1.1) ⟨(0,([]:List RA),none,0),A⟩ (aN U) (aB [3,4,5,6,7,8,9,10,11,12,13,0,1,2]) ?_;clear A;rintro ⟨⟨h,tz,a,c⟩,⟨R,C,E⟩⟩ J42 W
 try dsimp only at R C E
 try dsimp only
 refine aq bS 6 ?_;refine bE U (aG fun A7=>?_) (aH fun A7=>?_)
 ·refine aS aW 1 U<|aq fD 3 ?_;have A9:ik r h=dL r:=by unfold dL;rw [show h=r.ay.length by omega]
  have m:tz.length=r.ay.length:=by omega
  rw [A9,Cs,show (zipWith FE (dL r) tz).length=(dL r).length from by rw [m4];omega];have AA:fr r:=Qb (n:=i) I I I I I M AB E I;refine cm aW 6 [] (mc 1 U mn) ?_;refine cX (Y1 r kA kC az cA cC bA bC slA slC drA drC ha heA heC tz a c (Value.map none) K r.ay.length hin asm I (by exact AA.JR)) (lV [3,4,5,6,7,8,9,10]<|aw (ak (n:=(dL r).length) 12 U (zq (by rw [l];exact m)))<|aw (dK 11 U Jr)<|gN 13 U U<|aA) U fun J DA=>?_
  try dsimp only
  refine rS (SX (bK U U) U U)<|aS aj 1 U<|iq (vs:=[(Value.map (some J))]) (cs':=(hP.cells (hP.mk (pP r kA kC cA cC bA bC slA slC drA drC heA heC) (aV.mk a ((dL r).length) c) (Value.map (some J))))) (C':=[_,_,_,_,_,_,_,_,_,_,_,_,_,_,(cb K 98 (hP.cells (hP.mk (pP r kA kC cA cC bA bC slA slC drA drC heA heC) (aV.mk a ((dL r).length) c) (Value.map (some J)))))]) 14 U U U Ry U U U U U U U<|aq aj 3 ?_;rw [show qb r r.ay.length=bI r from rfl];refine aq aW 7 ?_;refine LX hQ (true,0,K,J,a,c,tz) [14,13,12,0] [] mn U (by (show List.all _ _=true;simp only [AAS,eX,om,Dh,n4];rfl)) U U ?_;exact ⟨fun _=>⟨Ar B AA,m⟩,Q7⟩
 refine aq aW 6 ?_;obtain ⟨ht,D⟩:=ax r.ay h I;obtain ⟨G,H⟩:=ax ha h I;have k:(zipWith dQ r.ay ha)[h]? =some (dQ ht G):=cD D H;refine rS (IA h U (au 9 U) mz dc I I)<|rS (gG h 0 (vS G.1.1 ht.length G.1.2) U bP (au 9 U) k U dc U)<|aq aj 6 ?_;have g:=hin.fG _ _ _ D H;have C0:=g.mD;refine aq aj 6 ?_;refine bY U (aJ fun V=>?_) (aK fun V=>?_)
 ·refine aq aW 7 ?_;refine LX hQ (false,60,0,0,none,0,[]) [] [] mn U (by rfl) U U ?_;exact rq<|pN (l8 B (fun q:fr r=>by have o:=(q.fG ht (aF D)).1;omega))
 refine aq aW 16 ?_;refine eC 38 2 ?_;have A:(0≤ht.length)∧(qi r.av ht 0):=by exact ⟨c4 _,yK⟩
 refine bu (ι:={z:Nat×(OA)×Nat // (z.1≤ht.length)∧(qi r.av ht z.1)}) [1,5,8,10,93,94,95,103,104] [1,2,3,4,5,6,7,8,9,10,11,12,13,14] U U (fun z=>[(11,(vS z.1.2.1 (((ht.take z.1.1).map (fZ r.av)).length) z.1.2.2)),(105,(vI (z.1.1:Int)))]) (fun z=>[(wh z.1.2.1 z.1.2.2 ((ht.take z.1.1).map (fZ r.av)))]) (fun _=>rfl) (fun _=>rfl) (fun z=>ht.length-z.1.1) ⟨(0,none,0),A⟩ (aN U) (aB [1,2,3,4,5,6,7,8,9,10,11,12,13,14,0]) ?_;clear A;rintro ⟨⟨j,la,lc⟩,⟨S,F⟩⟩ J53 X
 try dsimp only at S F
 try dsimp only
 refine aq bS 6 ?_;refine bE U (aG fun A3=>?_) (aH fun A3=>?_)
 ·refine aS aW 1 U<|aS fD 5 U<|rS (SX (bK U U) U U)<|cm aj 2 [] (mc 13 U mn) ?_;rw [show ((ht.take j).map (fZ r.av))=ht.map (fZ r.av) from by rw [c5 I]];refine aq aj 1 ?_;refine dC (xs:=[.tmp 128]) (cs:=[(vS la ((ht.map (fZ r.av)).length) lc)]) U VC JW U U U U (by simp [Value.cells]) U U fun EQ=>?_;refine cZ (es2:=(map sC (zipWith FE (ik r (h+1)) (tz++[(la,lc)])))) (m':=(zipWith FE (ik r (h+1)) (tz++[(la,lc)])).length) 13 U U U XN U U sm (aM (es:=map sC [(aV.mk la ((ht.map (fZ r.av)).length) lc)]) 0 U U (by simp [CO]) U) (O8 _) (by rw [m4,mw I];omega) (by rw [m4,mw I];simp only [maxLen];omega) (by rw [xj D C,AAF];rfl) (by rw [xj D C];simp) U fun N O=>?_
  try dsimp only
  refine rS (SX (bK U U) U U)<|aS aj 1 U<|iq (vs:=[(vS N ((zipWith FE (ik r (h+1)) (tz++[(la,lc)])).length) O)]) (cs':=(hP.cells (hP.mk (pP r kA kC cA cC bA bC slA slC drA drC heA heC) (aV.mk N ((zipWith FE (ik r (h+1)) (tz++[(la,lc)])).length) O) (Value.map none)))) (C':=[_,_,_,_,_,_,_,_,_,_,_,_,_,_,(cb K 98 (hP.cells (hP.mk (pP r kA kC cA cC bA bC slA slC drA drC heA heC) (aV.mk N ((zipWith FE (ik r (h+1)) (tz++[(la,lc)])).length) O) (Value.map none)))),_]) 14 U U U aaN U U U U U U U<|aq aj 7 ?_;refine Cd (X':=bx HT (ik r (h+1)) (tz++[(la,lc)])) 12 15 U U (E6 (a:=(la,lc)) D C) ?_;have e:(vI (((h+1):Nat):Int))=(vI ((h:Int)+1)):=by exact cI I
  refine aL (W ⟨((h+1),(tz++[(la,lc)]),N,O),⟨I,by simp;omega,Ap E D (I8 I F I)⟩⟩ _ _ _ U os (cx 5<|aQ U e<|cS.nil _) (aB [2,3,4,5,6,7,8,9,10,11,12,0,13,14]))
 refine aq aW 6 ?_;obtain ⟨d,hd⟩:=ax ht j I;obtain ⟨da,f⟩:=ax G.2 j I;have A8:(zipWith ao.cells ht G.2)[j]? =some (ao.cells d da):=cD hd f;refine rS (IA j U (show ij _ (jc G.1.1 ht G.2).holds from (ct 10 U (bq D H bZ))) rV dc I I)<|rS (ld j 0 (aO.cells (aO.mk d.Out d.cV d.Time (dx.mk d.bp.Start d.bp.hU (aV.mk da.1 d.bp.ab.length da.2)))) U bP (show ij _ (jc G.1.1 ht G.2).holds from (ct 10 U (bq D H bZ))) A8 U dc U U)<|AL U KP fun Di=>eN U G4 U<|aS aj 5 U<|rS (LP (bU.cells (kN r.av kA kC cA cC bA bC)) 2 U bP U U U)<|cm aj 1 [] (mc 0 U mn) ?_;have Fi:=g.sig d (aF hd);refine rS (CL (GN r.av kA kC az cA cC bA bC d da.1 da.2 asm asm) (lV [3,4,5,6,7]<|aw (show ij _ (gR da.1 d.bp.ab).holds from (ct 11 U (bq D H (dg _ (bq hd f (by simp [ao.lG]))))))<|aA) U)<|aS aj 3 U<|AL U dA fun Do=>eN U cJ U<|aq aj 10 ?_;refine bE U (aK fun L=>?_) (aJ fun L=>?_)
 ·refine cm aW 5 [] (mc 0 U mn) ?_;refine dC (xs:=[.tmp 119]) (cs:=(aa.cells (fZ r.av d))) U iA dA U U U U (by simp [Value.cells,aa.aC]) U U fun Dw=>?_;refine cZ (es2:=(map aa.cells ((ht.take (j+1)).map (fZ r.av)))) (m':=((ht.take (j+1)).map (fZ r.av)).length) 17 U U U Cr U U sm (aM (es:=map aa.cells [(fZ r.av d)]) 0 U U (by simp [aa.aC]) U) (jF _) (by simp only [c3,k5];omega) (by simp only [maxLen,c3,k5];omega) (by rw [l1,hd];simp) sq U fun p AP=>?_
  try dsimp only
  refine aq aj 8 ?_;have b:(vI (((j+1):Nat):Int))=(vI ((j:Int)+1)):=by exact cI I
  refine aL (X ⟨((j+1),p,AP),⟨I,yT F hd L⟩⟩ _ _ _ U os (cx 10<|aQ U b<|cS.nil _) (aB [3,4,5,6,7,8,9,10,11,12,13,14,15,16,17]))
 refine aq aW 7 ?_;refine LX hQ (false,60,0,0,none,0,[]) [] [] mn U (by rfl) U U ?_;exact rq<|pN (l8 B (fun q:fr r=>by exact L ((q.fG ht (aF D)).2 d (aF hd))))
end
section
open Go.RowKit
theorem NM (r:cN) (kA:OA) (kC:Nat) (az:List RA) (cA:OA) (cC:Nat) (bA:OA) (bC:Nat) (slA:OA) (slC:Nat) (drA:OA) (drC:Nat) (ha:List cq) (heA:OA) (heC:Nat) (tz:List RA) (tA:OA) (tC:Nat) (ms:Value) (gw:Nat) (l:List Int) (lA:OA) (lC:Nat) (hin:gI r az ha) (hlen:l.length≤1000000):
 de Tryz.prog 75 [(vP gw),(vS lA l.length lC)] ((Dp r kA az cA bA slA drA ha heA)++[(rd tA ((dL r).length) 1 (zipWith Td (dL r) tz)),(iX (bx TL (dL r) tz)),(cb gw 98 (hP.cells (hP.mk (pP r kA kC cA cC bA bC slA slC drA drC heA heC) (aV.mk tA ((dL r).length) tC) ms))),(eE lA l)]) (vB (oK 0 ((r.bf.length:Int)-1) l)):=by
 have A:=hin.line;have E:=hin.hE;have F:=hin.has;have C:=hin.hO;have B:=hin.draw;have D:=fJ (r:=r);refine bg kr Tryz.func75 U U fun G Q hQ hN=>?_
 try dsimp only
 refine aS bS 8 U<|rS (SX (bK U U) U U)<|cm aj 6 [] (mr 10 U mn) ?_;refine rS (CL (mR 0 ((r.bf.length:Int)-1) l lA lC hlen) (aP [11]) U) ?_;exact cr aj 4 hQ U U U
end
section
open Go.RowKit
theorem HZ (l:List Int) (lA:OA) (lC:Nat) (hlen:l.length=1):
 JN Tryz.prog 85 [(vS lA 1 lC)] [] (fB lA lC l) (fun (x:Unit)=>(vS lA 1 lC)) (fun (x:Unit)=>True) (fun (x:Unit)=>(fB lA lC l)):=by
 refine qp kr Tryz.func85 U U fun A Q hQ hN=>?_
 try dsimp only
 refine aS bS 10 U<|rS (SX (ck (r:= .bool true) U U U g_) U U)<|aq aj 10 ?_;refine LM hQ () 0 [] mn U U U U ?_;trivial
end
section
open Go.RowKit
theorem Cq (r:cN) (kA:OA) (kC:Nat) (az:List RA) (cA:OA) (cC:Nat) (bA:OA) (bC:Nat) (slA:OA) (slC:Nat) (drA:OA) (drC:Nat) (ha:List cq) (heA:OA) (heC:Nat) (a:Int) (gq:Nat) (hin:gI r az ha):
 lf Tryz.prog 41 [(vA (cf.cells (pP r kA kC cA cC bA bC slA slC drA drC heA heC))),(vS (some ⟨gq,0,none⟩) 1 1)] ((rd ig 3 2 fY)::((Dp r kA az cA bA slA drA ha heA)++[(cb gq 3 [(vI a)])])) (fun (x:Bool×Int×Nat×Nat×(OA)×Nat×(List RA)×(OA)×Nat)=>bif x.1 then (vT [(Value.pointer (some ⟨x.2.2.1,0,none⟩)),(vS x.2.2.2.2.2.2.2.1 1 x.2.2.2.2.2.2.2.2),(vI 0)]) else (vT [(Value.pointer none),(vS none 0 0),(vI x.2.1)])) (fun (x:Bool×Int×Nat×Nat×(OA)×Nat×(List RA)×(OA)×Nat)=>(x.1=true→(oF r a=0∧x.2.2.2.2.2.2.1.length=r.ay.length))∧(x.1=false→(x.2.1=oF r a∧ ¬ oF r a=0))) (fun (x:Bool×Int×Nat×Nat×(OA)×Nat×(List RA)×(OA)×Nat)=>bif x.1 then [(cb x.2.2.1 98 (hP.cells (hP.mk (pP r kA kC cA cC bA bC slA slC drA drC heA heC) (aV.mk x.2.2.2.2.1 ((dL r).length) x.2.2.2.2.2.1) (Value.map (some x.2.2.2.1))))),(Jp x.2.2.2.2.1 x.2.2.2.2.2.1 (dL r) x.2.2.2.2.2.2.1),(bD (bx HT (dL r) x.2.2.2.2.2.2.1)),(iu iV x.2.2.2.1 (bR fg (bI r))),(own x.2.2.2.2.2.2.2.1 x.2.2.2.2.2.2.2.2 38 2 ([(cd (bI r) a)].map aa.cells))] else []):=by
 have AA:=hin.line;have h:=hin.hE;have j:=hin.has;have Y:=hin.hO;have X:=hin.draw;have AB:=fJ (r:=r);refine cR kr Tryz.func41 U U fun p Q hQ hN=>?_
 try dsimp only
 refine aS bS 2 U<|dV U fun o=>cm aj 8 [] (mc 0 U mn) ?_;refine cX (uL r kA kC az cA cC bA bC slA slC drA drC ha heA heC hin) (aP [1,2,3,4,5,6,7,8,9]) U fun m K=>?_;obtain ⟨L,g,E,D,M,A,B⟩:=m;cases L
 ·obtain ⟨H,he⟩:=K.2 rfl
  try dsimp only at H he
  subst H
  try dsimp only [cond_true,cond_false,List.cons_append,List.nil_append]
  refine aq aj 14 ?_;refine bE U (aK fun F=>?_) (aJ fun F=>?_)
  ·exact absurd F he
  refine aq aW 9 ?_;refine LX hQ (false,(eK r),0,0,none,0,[],none,0) [] [] mn U (by rfl) U U ?_;exact rq<|O4 (QG (i:=a) he) he
 obtain ⟨he,J⟩:=K.1 rfl
 try dsimp only [cond_true,cond_false,List.cons_append,List.nil_append]
 refine aS aj 11 U<|rS (SX (ck (r:= .bool false) U U U nm) U U)<|aq aj 10 ?_;refine rS (CL (de.eq (NM r kA kC az cA cC bA bC slA slC drA drC ha heA heC B M A (Value.map (some D)) E ([a]) (some ⟨gq,0,none⟩) 1 hin (by (simp;done))) cp) (lV [6,7,8,9,10,11,12,13]<|aw (ak (n:=(dL r).length) 1 U (zq (by rw [AB];exact J)))<|aw (dK 2 U Jr)<|gN 0 U U<|aw (yx 14 U U (by simp [br]) U)<|aA) U) ?_;refine aq aj 2 ?_;refine bJ (t:=26) U (aJ fun T=>?_) (aK fun T=>?_)
 ·refine aq aj 20 ?_;refine LX hQ (false,2,0,0,none,0,[],none,0) [] [] mn U (by rfl) U U ?_;exact rq<|pN (O_ (i:=a) he I)
 refine aq aj 1 ?_;refine cX (Eg (some ⟨gq,0,none⟩) 1 1) (aA) U fun P Z=>?_
 try dsimp only
 refine cX (EI ([a]) (some ⟨gq,0,none⟩) 1 P (by (simp;done))) (aw (yx 15 U U (by simp [br]) U)<|gN 0 U U<|aA) U fun V b=>?_;obtain ⟨N,R⟩:=V
 try dsimp only
 try dsimp only
 refine kx 0 U U U U (HZ (eg ([a])) N R (by (simp;done))) U mu U (fun k c=>?_)
 try dsimp only
 refine aS aj 3 U<|rS (SX (ck (r:= .bool false) U U U g_) U U)<|aS aj 20 U<|iY 2<|eh fun R33 G=>aS bS 2 U<|rS (SX (ck (r:= .bool true) U U U g_) U U)<|aS aj 10 U<|rS (IAB 0 0 U cM U dc U)<|dD aj 7 [] (mr 16 U mn) U<|rS (SX (bK U U) U U)<|dD aj 3 [] (mc 2 U mn) U<|rS (SX (rK (kV:=iV) (x:=a) (l:=(bI r)) (f:=fg) (z:=(aa.mk 0 0)) U U U rX (eD nZ) Kc (by exact au 5 U)) U U)<|aS aj 3 U<|AL U dA fun d=>eN U cJ U<|aq aj 6 ?_;rw [show ((lookup a (bI r)).getD (aa.mk 0 0))=(cd (bI r) a) from rfl];refine aq aj 4 ?_;refine bY U (fun C=>?_) (fun C=>?_)
 ·rw [e0] at C;refine aq aW 8 ?_;refine LX hQ (false,6,0,0,none,0,[],none,0) [] [] mn U (by rfl) U U ?_;exact rq<|pN (KS (i:=a) he I asm)
 rw [m5] at C;refine cm aW 5 [] (mc 0 U mn) ?_;refine dC (xs:=[.tmp 54]) (cs:=(aa.cells (cd (bI r) a))) U iA dA U U U U (by simp [Value.cells,aa.aC]) U U fun e=>fT 38 2<|cZ (es2:=(map aa.cells ([(cd (bI r) a)]))) (m':=([(cd (bI r) a)]).length) 0 U U U Cr U U sm (aM (es:=map aa.cells [(cd (bI r) a)]) 1 U U (by simp [aa.aC]) U) (jF _) sm (by simp [maxLen]) sm sm U fun O S=>?_
 try dsimp only
 refine aS aj 5 U<|rS (SX (ck (r:= .int .i64 1) U U U (jw ⟨dc,dc⟩)) U U)<|aS aj 2 U<|KK G<|eh fun R46 W=>aS bS 2 U<|rS (SX (ck (r:= .bool false) U U U g_) U U)<|aS aj 5 U<|aq fD 12 ?_;refine LX hQ (true,0,E,D,M,A,B,O,S) [5,6,7,8,0] [] mn U (by (show List.all _ _=true;simp only [AAS,eX,om,Dh,n4];rfl)) U U ?_;exact ⟨fun _=>⟨Tz he I asm,J⟩,Q7⟩
end
section
open Go.RowKit
theorem Pd (m:tg) (gm g1:Nat):
 H6 Tryz.prog 121 [] [(vP g1)] [(iu iV gm (bR vB m)),(cb g1 134 [(Value.map (some gm))])] ([]:List Int) (fun ys x ys'=> ∃ n zs,(ys++[n]++zs).Perm (m.map (·.1))∧x=[vI n]∧ys'=ys++[n]) (fun ys=>ys.Perm (m.map (·.1))):=by
 refine xh kr Tryz.func121 U U fun l J Z A0 M Q hY K AA hQ hN=>?_
 try dsimp only
 refine cm bS 3 [] (mr 2 U mn) ?_;refine kz (kV:=iV) (m:=bR vB m) 1 U U pW U ⟨U,fun h=>h⟩ (by exact mP 1 U) U fun O=>?_
 try dsimp only
 refine aq aj 3 ?_;have G:(qv m m ([]:List Int))∧(∀ p∈m,p∈m)∧(J ([]:List Int) A0)∧(Fo A0 M A0):=by exact ⟨yB,fun p hp=>hp,K,AA⟩
 refine bu (ι:={z:tg×(List Int)×ar // (qv m z.1 z.2.1)∧(∀ p∈z.1,p∈m)∧(J z.2.1 z.2.2)∧(Fo A0 M z.2.2)}) [0,1,5] [2,3] U U (fun z=>[]) (fun z=>[(BA iV O gm (bR vB m) (bR vB z.1.1) none),z.1.2.2]) (fun _=>rfl) (fun _=>rfl) (fun z=>z.1.1.length) ⟨(m,([]:List Int),A0),G⟩ (cS.nil _) (aB [2,3,0,1]) ?_;clear G;rintro ⟨⟨left,ys,A⟩,⟨B,H,C,D⟩⟩ J3 L
 try dsimp only at B H C D
 try dsimp only
 refine aq bS 2 ?_;refine jQ (eD nZ).inj (f:=Value.bool) 2 U U U U (fun N=>?_) (fun x y hm hn=>?_)
 ·refine aS aj 6 U<|aq fD 1 ?_;refine hN _ _ _ (g4 (vs:=[]) trivial fun w hs=>LF 3 U (by rw [N] at B;exact AR B) C D hs)
 try dsimp only
 refine aS aj 10 U<|rS (SX (jI 2 U U U) U U)<|aq aj 8 ?_;refine mg (k:=ys) (k':=(ys++[(x)])) 3 (by first|exact hsz|exact c9 _) hY C D U U U (by exact ⟨x,_,qe hn hm B,U,U⟩) U U (fun B9 F E=>?_) (fun B9 F E=>?_);rotate_left 1
 ·refine aq aj 5 ?_;refine hQ _ _ _ (g4 (vs:=[]) trivial fun w hs=>sY 3 U F E hs)
 refine aq aj 6 ?_;refine iM 2 U fX U ?_;refine aL (L ⟨((cH left x),(ys++[(x)]),B9),⟨qe hn hm B,gZ H,F,E⟩⟩ _ _ _ U (e7 hm) (aN U) (aB [0,1,2,3]))
theorem Sq (gm:Nat):
 lf Tryz.prog 82 [(Value.map (some gm))] [] (fun (x:Nat)=>(Value.func (.func 121) [].toArray [(vP x)].toArray)) (fun (x:Nat)=>True) (fun (x:Nat)=>[(cb x 134 [(Value.map (some gm))])]):=by
 refine cR kr Tryz.func82 U U fun B Q hQ hN=>?_
 try dsimp only
 refine aS bS 2 U<|sR U U fun A=>aS aj 5 U<|rS (FU U)<|aq aj 4 ?_;refine LX hQ A [0] [] mn U U U U ?_;trivial
end
section
open Go.RowKit
theorem Mm (m:tg) (gm g1:Nat) (hlen:m.length≤12):
 lf Tryz.prog 118 [(vS none 0 0),(Value.func (.func 121) [].toArray [(vP g1)].toArray)] [(iu iV gm (bR vB m)),(cb g1 134 [(Value.map (some gm))])] (fun (x:(List Int)×(OA)×Nat)=>(vS x.2.1 x.1.length x.2.2)) (fun (x:(List Int)×(OA)×Nat)=>x.1.Perm (m.map (·.1))) (fun (x:(List Int)×(OA)×Nat)=>[(fB x.2.1 x.2.2 x.1)]):=by
 refine cR kr Tryz.func118 U U fun T Q hQ hN=>?_
 try dsimp only
 refine aS bS 2 U<|sR U U fun J=>aq aj 10 ?_;refine iy 1 U (by exact fun _ h=>h)<|iy 3 U (by exact fun _ h=>h)<|eC 3 1 ?_;refine px (L0:=[(2,(vP J))]) (F:=[(iu iV gm (bR vB m)).ro,(cb g1 134 [(Value.map (some gm))]).ro]) (fun k (y:(OA)×Nat)=>(∃ zs,(k++zs).Perm (m.map (·.1)))) (fun k y=>[(fB y.1 y.2 k),(cb J 29 [(vS y.1 k.length y.2)]),(iu iV gm (bR vB m)).ro]) (fun _ (_:Unit)=>False) (fun _ _=>[]) [0,3,4] [2,1] (none,0) rfl rfl (Pd m gm g1) rfl rfl rfl (by exact ⟨_,ABY _⟩) (by simp only [AAI,h_,AAs,AAv,ABC];exact ⟨⟨_,sm,(df (bL _))⟩,⟨_,sm,(df (bL _))⟩⟩) (by rintro k x O ⟨n,zs,_,rfl,_⟩;rfl) rfl (aN rfl) ?_ ?_ (fun _ _ _ h=>h.elim) (fun _ _ h=>h.elim);rotate_left 1
 ·rintro P k ⟨a,c⟩ D A;have B:=A
  try dsimp only at B
  try dsimp only
  refine cm jE 9 [] (mc 4 U mn) ?_;refine hQ _ _ _ (nI 0 U U<|g4 (vs:=[(vS a k.length c)]) ⟨U,trivial⟩ fun w hs=>EO (k,a,c) [3] ?_ ?_ U U U hs)
  ·rfl
  ·first|exact D|exact hys
 rintro k x O ⟨a,c⟩ l ra rb S AA K5 Qr6 N hx E H C K L;obtain ⟨n,zs,hn,rfl,rfl⟩:=hx;have AB:=hn.length_eq;simp only [e4,c3,ABQ] at AB;have B:=E
 try dsimp only at B
 try dsimp only
 refine aq bS 3 ?_;refine aL (H _ _ ?_);refine cm bS 4 [] (mc 2 U mn) ?_;refine dC (xs:=[.tmp 9]) (cs:=[(vI n)]) U cM jW U U U U (by simp [Value.cells]) U U fun R=>?_;refine cZ (es2:=(map iC (k++[n]))) (m':=(k++[n]).length) 2 U U U pI U U sm (aM (es:=map iC [n]) 0 U U (by simp [br]) U) (j4 _) os (by simp only [maxLen];omega) sm sm U fun M G=>?_
 try dsimp only
 refine ZQ U wM U U<|aq aj 2 ?_;exact C (M,G) _ _ (by exact ⟨_,hn⟩) (aB [1,2,3,4])
end
section
open Go.RowKit
theorem HI (m:tg) (gm g1:Nat) (hlen:m.length≤12):
 lf Tryz.prog 78 [(Value.func (.func 121) [].toArray [(vP g1)].toArray)] [(iu iV gm (bR vB m)),(cb g1 134 [(Value.map (some gm))])] (fun (x:(List Int)×(OA)×Nat)=>(vS x.2.1 x.1.length x.2.2)) (fun (x:(List Int)×(OA)×Nat)=>x.1.Perm (m.map (·.1))) (fun (x:(List Int)×(OA)×Nat)=>[(fB x.2.1 x.2.2 x.1)]):=by
 refine cR kr Tryz.func78 U U fun G Q hQ hN=>?_
 try dsimp only
 refine aq bS 8 ?_;refine cX (Mm m gm g1 hlen) (aP [0,1]) U fun F A=>?_;obtain ⟨C,D,E⟩:=F
 try dsimp only
 have B:=A;refine aq aj 4 ?_;refine LX hQ (C,D,E) [0] [] mn U U U U ?_
 first|exact hfin|exact B
theorem Ly (m:tg) (gm g1:Nat) (hlen:m.length≤12):
 lf Tryz.prog 34 [(Value.func (.func 121) [].toArray [(vP g1)].toArray)] [(iu iV gm (bR vB m)),(cb g1 134 [(Value.map (some gm))])] (fun (x:(OA)×Nat)=>(vS x.1 m.length x.2)) (fun (x:(OA)×Nat)=>True) (fun (x:(OA)×Nat)=>[(fB x.1 x.2 (eg (m.map (·.1))))]):=by
 refine cR kr Tryz.func34 U U fun AA Q hQ hN=>?_
 try dsimp only
 refine aq bS 8 ?_;refine cX (HI m gm g1 hlen) (aP [0,1]) U fun H D=>?_;obtain ⟨E,F,G⟩:=H
 try dsimp only
 have C:=D;refine aq aj 6 ?_;have A:=C.length_eq;simp only [c3] at A;refine kx 0 U U U U (Da E F G I) U mu U (fun ms B=>?_)
 try dsimp only
 refine aq aj 4 ?_;obtain rfl:=tF (B.1.trans C) B.2
 skip
 refine aq aj 5 ?_;refine LX hQ (F,G) [0] [] mn U U U ?_ ?_
 ·first|rfl|(rw [A];rfl)
 ·trivial
end
section
open Go.RowKit
theorem O3 (m:tg) (gm:Nat):
 lf Tryz.prog 80 [(Value.map (some gm))] [(iu iV gm (bR vB m))] (fun (x:Nat)=>(Value.map (some x))) (fun (x:Nat)=>True) (fun (x:Nat)=>[(iu iV x (bR vB m))]):=by
 refine cR aad Tryz.func80 U U fun B Q hQ hN=>?_
 try dsimp only
 refine aS bS 9 U<|rS (SX (ck (r:= .bool false) U U U (VH pW)) U U)<|aq aj 8 ?_;refine rS (SX (SA U U pW) U U)<|Nc (kV:=iV) (fn:=Tryz.f119) U U Tryz.func119 U U U kr (by exact mP 0 U) U fun A=>?_
 try dsimp only
 refine rS (SX (XA U U pW) U U)<|aq aj 4 ?_;refine LX hQ A [0] [] mn U U U U ?_;trivial
end
section
open Go.RowKit
theorem KX (r:cN) (kA:OA) (kC:Nat) (cA:OA) (cC:Nat) (bA:OA) (bC:Nat) (slA:OA) (slC:Nat) (drA:OA) (drC:Nat) (heA:OA) (heC:Nat) (tA:OA) (tN tC:Nat) (gs gw:Nat) (m:k9) (i:Int) (g1 g2:Nat) (hb: ∀ p∈m,0≤p.2.Lo∧p.2.Lo≤p.2.Hi∧p.2.Hi≤30000000):
 H6 Tryz.prog 120 [] [(vP g1),(vP g2)] [(cb gw 98 (hP.cells (hP.mk (pP r kA kC cA cC bA bC slA slC drA drC heA heC) (aV.mk tA tN tC) (Value.map (some gs))))),(iu iV gs (bR fg m)),(cb g1 87 [(vP gw)]),(cb g2 3 [(vI i)])] ([]:List Int) (fun ys x ys'=> ∃ n,n∈(oS m i (cd m i))∧x=[vI n]∧ys'=ys++[n]) (fun ys=> ∀ n,n∈ys↔n∈(oS m i (cd m i))):=by
 have Ck:=oz (i:=i) hb;refine xh kr Tryz.func120 U U fun l J Z A0 w0 Q hY An AP hQ hN=>?_
 try dsimp only
 refine aq bS 1 ?_;refine cP bX [6,7] [] [] [0,1,2,3,4] [] U U U U U<|eS U (ZR 3 U bP U)<|eS U (SX (bK U U) U U)<|eS U (FA 12 U eB U)<|eS U (MO (Value.map (some gs)) 1 U bP U U)<|eS U (ZR 4 U bP U)<|eS U (SX (mF (kV:=iV) (x:=i) (l:=m) (f:=fg) (z:=(aa.mk 0 0)) U U U rX (eD nZ) Kc (by exact mP 2 U)) U U)<|dI U<|bQ U fun T2 A1=>AL U dA fun b3=>bG (A1 _ _ (aB [1,2,3,4,5]) ?_);refine bQ U fun T4 A2=>eN U cJ U<|bG (A2 _ _ (aB [1,2,3,4,5]) ?_);refine eJ U<|aq jE 4 ?_;rw [show ((lookup i m).getD (aa.mk 0 0))=(cd m i) from rfl];refine cm aj 3 [] (mc 0 U mn) ?_;refine mg (k:=([]:List Int)) (k':=(([]:List Int)++[((cd m i).Lo)])) 1 (by first|exact hsz|exact c9 _) hY An AP U U U (by exact ⟨_,bZ ..,U,U⟩) U U (fun B7 b a=>?_) (fun B7 b a=>?_);rotate_left 1
 ·refine aq aj 5 ?_;refine hQ _ _ _ (g4 (vs:=[]) trivial fun w hs=>sY 1 U b a hs)
 refine dD aj 9 [] (mr 4 U mn) U<|rS (SX (bK U U) U U)<|cm aj 2 [] (mr 2 U mn) ?_;refine kz (kV:=iV) (m:=bR fg m) 3 U U rX U ⟨U,fun h=>h⟩ (by exact mP 3 U) U fun A4=>?_
 try dsimp only
 refine aq aj 3 ?_;have X:(CE m i (cd m i) m (([]:List Int)++[((cd m i).Lo)]))∧(∀ p∈m,p∈m)∧(J (([]:List Int)++[((cd m i).Lo)]) B7)∧(Fo A0 w0 B7):=by exact ⟨O1,fun p hp=>hp,asm,asm⟩
 refine bu (ι:={z:k9×(List Int)×ar // (CE m i (cd m i) z.1 z.2.1)∧(∀ p∈z.1,p∈m)∧(J z.2.1 z.2.2)∧(Fo A0 w0 z.2.2)}) [0,1,2,4,24] [1,3,4,5,6] U U (fun z=>[]) (fun z=>[(BA iV A4 gs (bR fg m) (bR fg z.1.1) none),z.1.2.2]) (fun _=>rfl) (fun _=>rfl) (fun z=>z.1.1.length) ⟨(m,(([]:List Int)++[((cd m i).Lo)]),B7),X⟩ (cS.nil _) (aB [1,3,4,5,6,0,2]) ?_;clear X;rintro ⟨⟨left,ys,A⟩,⟨D,B,E,F⟩⟩ J12 G
 try dsimp only at D B E F
 try dsimp only
 refine aq bS 2 ?_;refine jQ (eD nZ).inj (f:=fg) 5 U U U U (fun Y=>?_) (fun x y hm hn=>?_)
 ·refine aS aj 6 U<|aq fD 1 ?_;refine hN _ _ _ (g4 (vs:=[]) trivial fun w hs=>LF 6 U (by rw [Y] at D;exact Rm D) E F hs)
 try dsimp only
 refine aS aj 10 U<|rS (SX (jI 5 U U U) U U)<|aS aj 2 U<|AL U dA fun Ci=>aS aj 1 U<|eN U cJ U<|aq aj 5 ?_;have A3:=hb _ (B _ hm);dsimp only at A3;refine dD aj 5 [] (mc 0 U mn) U<|rS (SX (aU (xs:=[(0,.tmp 32),(1,.tmp 35)]) (cs:=[(vI (y.Lo+1)),(vI (y.Hi+1))]) U U (aT YD U)) U U)<|aS aj 4 U<|iY 3<|eh fun R19 T=>aS bS 2 U<|rS (SX (ck (r:= .bool true) U U U g_) U U)<|aS aj 10 U<|rS (SX (uE (v:=(vI (y.Lo+1))) 0 U U U JK bP U dc U) U U)<|cm aj 9 [] (mr 5 U mn) ?_;refine cz (t:=43) U (aK fun Y=>?_) (aJ fun Y=>?_)
 ·refine aS aj 21 U<|rS (SX (ck (r:= .int .i64 1) U U U (jw ⟨dc,dc⟩)) U U)<|aS aj 2 U<|KK T<|eh fun R73 W=>aS bS 2 U<|rS (SX (ck (r:= .bool true) U U U g_) U U)<|aS aj 10 U<|rS (SX (uE (v:=(vI (y.Hi+1))) 1 U U U JK bP U dc U) U U)<|cm aj 9 [] (mr 5 U mn) ?_;refine cz (t:=43) U (aK fun AC=>?_) (aJ fun AC=>?_)
  ·refine aS aj 21 U<|rS (SX (ck (r:= .int .i64 2) U U U (jw ⟨dc,dc⟩)) U U)<|aS aj 2 U<|KK W<|eh fun R91 B9=>aS bS 2 U<|rS (SX (ck (r:= .bool false) U U U g_) U U)<|aS aj 5 U<|aq fD 2 ?_;refine iM 6 U fX U ?_;refine aL (G ⟨((cH left x),ys,A),⟨m8 hn hm B D (fun n C=>by first|exact C|(simp [C];done)) (fun n C=>by exact .inl C) (fun L n C K=>by simp only [bH,h_,AAr] at C;rcases C with rfl|rfl<;>first|(simp;done)|(exfalso;omega)),gZ B,E,F⟩⟩ _ _ _ rfl (e7 hm) (aN rfl) (aB [1,2,3,4,5,6,7]))
  refine dD aj 5 [] (mc 1 U mn) U<|dC (xs:=[.tmp 48]) (cs:=[(vI (y.Hi+1))]) U cM jW U U U U (by simp [Value.cells]) U U fun g=>rS (CL (de.eq (mR ((cd m i).Lo) ((cd m i).Hi) ([(y.Hi+1)]) (some ⟨g,0,none⟩) 1 I) cp) (aw (aM 0 U U (by simp [br]) U)<|aA) U)<|aq aj 2 ?_;refine cz (t:=52) U (aG fun AO=>?_) (aH fun AO=>?_)
  ·refine aS aj 12 U<|rS (SX (ck (r:= .int .i64 2) U U U (jw ⟨dc,dc⟩)) U U)<|aS aj 2 U<|KK W<|eh fun R88 B3=>aS bS 2 U<|rS (SX (ck (r:= .bool false) U U U g_) U U)<|aS aj 5 U<|aq fD 2 ?_;refine iM 7 U fX U ?_;refine aL (G ⟨((cH left x),ys,A),⟨m8 hn hm B D (fun n C=>by first|exact C|(simp [C];done)) (fun n C=>by exact .inl C) (fun L n C K=>by simp only [bH,h_,AAr] at C;rcases C with rfl|rfl<;>first|(simp;done)|(exfalso;omega)),gZ B,E,F⟩⟩ _ _ _ rfl (e7 hm) (aN rfl) (aB [2,3,4,5,6,7,8]))
  refine aq aj 2 ?_;refine mg (k:=ys) (k':=(ys++[((y.Hi+1))])) 8 (by first|exact hsz|exact c9 _) hY E F U U U (by exact ⟨_,oR (B _ hm) dso (by first|exact .inl rfl|exact .inr U) I,U,U⟩) U U (fun B82 S O=>?_) (fun B82 S O=>?_);rotate_left 1
  ·refine aq aj 6 ?_;refine hQ _ _ _ (g4 (vs:=[]) trivial fun w hs=>sY 8 U S O hs)
  refine aS aj 9 U<|rS (SX (ck (r:= .int .i64 2) U U U (jw ⟨dc,dc⟩)) U U)<|aS aj 2 U<|KK W<|eh fun R85 By=>aS bS 2 U<|rS (SX (ck (r:= .bool false) U U U g_) U U)<|aS aj 5 U<|aq fD 2 ?_;refine iM 7 U fX U ?_;refine aL (G ⟨((cH left x),(ys++[((y.Hi+1))]),B82),⟨m8 hn hm B D (fun n C=>by first|exact C|(simp [C];done)) (fun n C=>by (simp only [dY,bT] at C;rcases C with C|rfl<;>first|exact .inl C|exact .inr (oR (B _ hm) dso sm I))) (fun L n C K=>by simp only [bH,h_,AAr] at C;rcases C with rfl|rfl<;>first|(simp;done)|(exfalso;omega)),gZ B,S,O⟩⟩ _ _ _ rfl (e7 hm) (aN rfl) (aB [2,3,4,5,6,7,8]))
 refine cm aj 5 [] (mc 1 U mn) ?_;refine dC (xs:=[.tmp 48]) (cs:=[(vI (y.Lo+1))]) U cM jW U U U U (by simp [Value.cells]) U U fun c=>?_;refine rS (CL (de.eq (mR ((cd m i).Lo) ((cd m i).Hi) ([(y.Lo+1)]) (some ⟨c,0,none⟩) 1 (by (simp;done))) cp) (aw (aM 0 U U (by simp [br]) U)<|aA) U) ?_;refine aq aj 2 ?_;refine cz (t:=52) U (aG fun j=>?_) (aH fun j=>?_)
 ·refine aS aj 12 U<|rS (SX (ck (r:= .int .i64 1) U U U (jw ⟨dc,dc⟩)) U U)<|aS aj 2 U<|KK T<|eh fun R52 V=>aS bS 2 U<|rS (SX (ck (r:= .bool true) U U U g_) U U)<|aS aj 10 U<|rS (SX (uE (v:=(vI (y.Hi+1))) 1 U U U JK bP U dc U) U U)<|cm aj 9 [] (mr 6 U mn) ?_;refine cz (t:=43) U (aK fun s=>?_) (aJ fun s=>?_)
  ·refine aS aj 21 U<|rS (SX (ck (r:= .int .i64 2) U U U (jw ⟨dc,dc⟩)) U U)<|aS aj 2 U<|KK V<|eh fun R70 Bx=>aS bS 2 U<|rS (SX (ck (r:= .bool false) U U U g_) U U)<|aS aj 5 U<|aq fD 2 ?_;refine iM 7 U fX U ?_;refine aL (G ⟨((cH left x),ys,A),⟨m8 hn hm B D (fun n C=>by first|exact C|(simp [C];done)) (fun n C=>by exact .inl C) (fun L n C K=>by simp only [bH,h_,AAr] at C;rcases C with rfl|rfl<;>first|(simp;done)|(exfalso;omega)),gZ B,E,F⟩⟩ _ _ _ rfl (e7 hm) (aN rfl) (aB [2,3,4,5,6,7,8]))
  refine cm aj 5 [] (mc 2 U mn) ?_;refine dC (xs:=[.tmp 48]) (cs:=[(vI (y.Hi+1))]) U cM jW U U U U (by simp [Value.cells]) U U fun e=>?_;refine rS (CL (de.eq (mR ((cd m i).Lo) ((cd m i).Hi) ([(y.Hi+1)]) (some ⟨e,0,none⟩) 1 (by (simp;done))) cp) (aw (aM 0 U U (by simp [br]) U)<|aA) U) ?_;refine aq aj 2 ?_;refine cz (t:=52) U (aG fun u=>?_) (aH fun u=>?_)
  ·refine aS aj 12 U<|rS (SX (ck (r:= .int .i64 2) U U U (jw ⟨dc,dc⟩)) U U)<|aS aj 2 U<|KK V<|eh fun R67 A9=>aS bS 2 U<|rS (SX (ck (r:= .bool false) U U U g_) U U)<|aS aj 5 U<|aq fD 2 ?_;refine iM 8 U fX U ?_;refine aL (G ⟨((cH left x),ys,A),⟨m8 hn hm B D (fun n C=>by first|exact C|(simp [C];done)) (fun n C=>by exact .inl C) (fun L n C K=>by simp only [bH,h_,AAr] at C;rcases C with rfl|rfl<;>first|(simp;done)|(exfalso;omega)),gZ B,E,F⟩⟩ _ _ _ rfl (e7 hm) (aN rfl) (aB [3,4,5,6,7,8,9]))
  refine aq aj 2 ?_;refine mg (k:=ys) (k':=(ys++[((y.Hi+1))])) 9 (by first|exact hsz|exact c9 _) hY E F U U U (by exact ⟨_,oR (B _ hm) dso (by first|exact .inl rfl|exact .inr U) I,U,U⟩) U U (fun B61 R N=>?_) (fun B61 R N=>?_);rotate_left 1
  ·refine aq aj 6 ?_;refine hQ _ _ _ (g4 (vs:=[]) trivial fun w hs=>sY 9 U R N hs)
  refine aS aj 9 U<|rS (SX (ck (r:= .int .i64 2) U U U (jw ⟨dc,dc⟩)) U U)<|aS aj 2 U<|KK V<|eh fun R64 A8=>aS bS 2 U<|rS (SX (ck (r:= .bool false) U U U g_) U U)<|aS aj 5 U<|aq fD 2 ?_;refine iM 8 U fX U ?_;refine aL (G ⟨((cH left x),(ys++[((y.Hi+1))]),B61),⟨m8 hn hm B D (fun n C=>by first|exact C|(simp [C];done)) (fun n C=>by (simp only [dY,bT] at C;rcases C with C|rfl<;>first|exact .inl C|exact .inr (oR (B _ hm) dso sm I))) (fun L n C K=>by simp only [bH,h_,AAr] at C;rcases C with rfl|rfl<;>first|(simp;done)|(exfalso;omega)),gZ B,R,N⟩⟩ _ _ _ rfl (e7 hm) (aN rfl) (aB [3,4,5,6,7,8,9]))
 refine aq aj 2 ?_;refine mg (k:=ys) (k':=(ys++[((y.Lo+1))])) 8 (by first|exact hsz|exact c9 _) hY E F U U U (by exact ⟨_,oR (B _ hm) dso (by first|exact .inl rfl|exact .inr U) I,U,U⟩) U U (fun B28 AB H=>?_) (fun B28 AB H=>?_);rotate_left 1
 ·refine aq aj 6 ?_;refine hQ _ _ _ (g4 (vs:=[]) trivial fun w hs=>sY 8 U AB H hs)
 refine aS aj 9 U<|rS (SX (ck (r:= .int .i64 1) U U U (jw ⟨dc,dc⟩)) U U)<|aS aj 2 U<|KK T<|eh fun R31 AA=>aS bS 2 U<|rS (SX (ck (r:= .bool true) U U U g_) U U)<|aS aj 10 U<|rS (SX (uE (v:=(vI (y.Hi+1))) 1 U U U JK bP U dc U) U U)<|cm aj 9 [] (mr 6 U mn) ?_;refine cz (t:=43) U (aK fun o=>?_) (aJ fun o=>?_)
 ·refine aS aj 21 U<|rS (SX (ck (r:= .int .i64 2) U U U (jw ⟨dc,dc⟩)) U U)<|aS aj 2 U<|KK AA<|eh fun R49 A7=>aS bS 2 U<|rS (SX (ck (r:= .bool false) U U U g_) U U)<|aS aj 5 U<|aq fD 2 ?_;refine iM 7 U fX U ?_;refine aL (G ⟨((cH left x),(ys++[((y.Lo+1))]),B28),⟨m8 hn hm B D (fun n C=>by first|exact C|(simp [C];done)) (fun n C=>by (simp only [dY,bT] at C;rcases C with C|rfl<;>first|exact .inl C|exact .inr (oR (B _ hm) dso sm I))) (fun L n C K=>by simp only [bH,h_,AAr] at C;rcases C with rfl|rfl<;>first|(simp;done)|(exfalso;omega)),gZ B,AB,H⟩⟩ _ _ _ rfl (e7 hm) (aN rfl) (aB [2,3,4,5,6,7,8]))
 refine cm aj 5 [] (mc 2 U mn) ?_;refine dC (xs:=[.tmp 48]) (cs:=[(vI (y.Hi+1))]) U cM jW U U U U (by simp [Value.cells]) U U fun d=>?_;refine rS (CL (de.eq (mR ((cd m i).Lo) ((cd m i).Hi) ([(y.Hi+1)]) (some ⟨d,0,none⟩) 1 (by (simp;done))) cp) (aw (aM 0 U U (by simp [br]) U)<|aA) U) ?_;refine aq aj 2 ?_;refine cz (t:=52) U (aG fun q=>?_) (aH fun q=>?_)
 ·refine aS aj 12 U<|rS (SX (ck (r:= .int .i64 2) U U U (jw ⟨dc,dc⟩)) U U)<|aS aj 2 U<|KK AA<|eh fun R46 A6=>aS bS 2 U<|rS (SX (ck (r:= .bool false) U U U g_) U U)<|aS aj 5 U<|aq fD 2 ?_;refine iM 8 U fX U ?_;refine aL (G ⟨((cH left x),(ys++[((y.Lo+1))]),B28),⟨m8 hn hm B D (fun n C=>by first|exact C|(simp [C];done)) (fun n C=>by (simp only [dY,bT] at C;rcases C with C|rfl<;>first|exact .inl C|exact .inr (oR (B _ hm) dso sm I))) (fun L n C K=>by simp only [bH,h_,AAr] at C;rcases C with rfl|rfl<;>first|(simp;done)|(exfalso;omega)),gZ B,AB,H⟩⟩ _ _ _ rfl (e7 hm) (aN rfl) (aB [3,4,5,6,7,8,9]))
 refine aq aj 2 ?_;refine mg (k:=(ys++[((y.Lo+1))])) (k':=((ys++[((y.Lo+1))])++[((y.Hi+1))])) 9 (by first|exact hsz|exact c9 _) hY AB H U U U (by exact ⟨_,oR (B _ hm) dso (by first|exact .inl rfl|exact .inr U) I,U,U⟩) U U (fun B40 P M=>?_) (fun B40 P M=>?_);rotate_left 1
 ·refine aq aj 6 ?_;refine hQ _ _ _ (g4 (vs:=[]) trivial fun w hs=>sY 9 U P M hs)
 refine aS aj 9 U<|rS (SX (ck (r:= .int .i64 2) U U U (jw ⟨dc,dc⟩)) U U)<|aS aj 2 U<|KK AA<|eh fun R43 A5=>aS bS 2 U<|rS (SX (ck (r:= .bool false) U U U g_) U U)<|aS aj 5 U<|aq fD 2 ?_;refine iM 8 U fX U ?_;refine aL (G ⟨((cH left x),((ys++[((y.Lo+1))])++[((y.Hi+1))]),B40),⟨m8 hn hm B D (fun n C=>by first|exact C|(simp [C];done)) (fun n C=>by (simp only [dY,bT] at C;rcases C with (C|rfl)|rfl<;>first|exact .inl C|exact .inr (oR (B _ hm) dso sm I))) (fun L n C K=>by simp only [bH,h_,AAr] at C;rcases C with rfl|rfl<;>first|(simp;done)|(exfalso;omega)),gZ B,P,M⟩⟩ _ _ _ rfl (e7 hm) (aN rfl) (aB [3,4,5,6,7,8,9]))
theorem QE (gw:Nat) (i:Int):
 lf Tryz.prog 81 [(vP gw),(vI i)] [] (fun (x:Nat×Nat)=>(Value.func (.func 120) [].toArray [(Value.pointer (some ⟨x.1,0,none⟩)),(Value.pointer (some ⟨x.2,0,none⟩))].toArray)) (fun (x:Nat×Nat)=>True) (fun (x:Nat×Nat)=>[(cb x.1 87 [(vP gw)]),(cb x.2 3 [(vI i)])]):=by
 refine cR kr Tryz.func81 U U fun C Q hQ hN=>?_
 try dsimp only
 refine aS bS 2 U<|sR U U fun A=>sR U U fun B=>aS aj 5 U<|rS (FU U)<|aq aj 4 ?_;refine LX hQ (A,B) [1,0] [] mn U U U U ?_;trivial
end
section
open Go.RowKit
theorem DY (r:cN) (kA:OA) (kC:Nat) (cA:OA) (cC:Nat) (bA:OA) (bC:Nat) (slA:OA) (slC:Nat) (drA:OA) (drC:Nat) (heA:OA) (heC:Nat) (tA:OA) (tN tC:Nat) (gs gw:Nat) (m:k9) (i:Int) (hb: ∀ p∈m,0≤p.2.Lo∧p.2.Lo≤p.2.Hi∧p.2.Hi≤30000000) (hi:m.lookup i≠none) (hm12:m.length≤12):
 lf Tryz.prog 37 [(vP gw),(vI i)] [(cb gw 98 (hP.cells (hP.mk (pP r kA kC cA cC bA bC slA slC drA drC heA heC) (aV.mk tA tN tC) (Value.map (some gs))))),(iu iV gs (bR fg m))] (fun (x:(OA)×Nat)=>(vS x.1 ((e9 m i (cd m i)).length) x.2)) (fun (x:(OA)×Nat)=>True) (fun (x:(OA)×Nat)=>[(fB x.1 x.2 (e9 m i (cd m i)))]):=by
 refine cR kr Tryz.func37 U U fun w0 Q hQ hN=>?_
 try dsimp only
 refine aS bS 2 U<|sR U U fun b2=>sR U U fun b3=>aq aj 5 ?_;refine lj (kV:=iV) U U fun AA=>?_
 try dsimp only
 refine AL U W6 fun b6=>IN U Zm U U<|dD aj 6 [] (mc 3 U mn) U<|rS (SX (bK U U) U U)<|dD aj 2 [] (mr 4 U mn) U<|rS (SX (Ib U U rX (by exact mP 5 U)) U U)<|aq aj 4 ?_;have A:(0≤m.length)∧(j7 ([]:tg) (fun u=>1≤u∧u≤(0:Int))):=by exact ⟨c4 _,QX fun k=>by omega⟩
 refine bu (ι:={z:Nat×tg // (z.1≤m.length)∧(j7 z.2 (fun u=>1≤u∧u≤(z.1:Int)))}) [2,3,5,20] [0,2,3,4,5] U U (fun z=>[(21,(vI (z.1.1:Int)))]) (fun z=>[(iu iV AA (bR vB z.1.2))]) (fun _=>rfl) (fun _=>rfl) (fun z=>m.length-z.1.1) ⟨(0,([]:tg)),A⟩ (aN U) (aB [0,2,3,4,5,1]) ?_;clear A;rintro ⟨⟨n,nv⟩,⟨d,K⟩⟩ J9 A5
 try dsimp only at d K
 try dsimp only
 refine aq bS 6 ?_;refine bY U (aH fun A2=>?_) (aG fun A2=>?_)
 ·refine dD aW 14 [] (mc 0 U mn) U<|iP (kV:=iV) (x:=((n:Int)+1)) (C':=[_,_,_,_,_,(iu iV AA (bR vB (d_ nv ((n:Int)+1) true)))]) 5 U U U U pW (eD nZ) U (gH _ _ _ _).symm U<|aq aj 7 ?_;have AO:(vI (((n+1):Nat):Int))=(vI ((n:Int)+1)):=by exact cI I
  refine aL (A5 ⟨((n+1),(d_ nv ((n:Int)+1) true)),⟨I,(Pp K I).By fun k=>by omega⟩⟩ _ _ _ U os (cx 4<|aQ U AO<|cS.nil _) (aB [0,1,2,3,4,5]))
 refine aS aW 1 U<|cm fD 5 [] (mc 0 U mn) ?_;refine cX (O3 nv AA) (aP [5]) U fun G Cx=>?_
 try dsimp only
 refine cm aj 8 [0,1] (mc 3 U (mc 2 U mn)) ?_;refine cX (QE gw i) (aA) U fun B9 C0=>?_;obtain ⟨W,X⟩:=B9
 try dsimp only
 refine aq aj 3 ?_;refine iy 6 U (by exact fun _ h=>h)<|iy 8 U (by exact fun _ h=>h) ?_;refine px (L0:=[(2,(vP b2)),(3,(vP b3)),(5,(vP b6)),(7,(Value.map (some G)))]) (F:=[(cb gw 98 (hP.cells (hP.mk (pP r kA kC cA cC bA bC slA slC drA drC heA heC) (aV.mk tA tN tC) (Value.map (some gs))))).ro,(iu iV gs (bR fg m)).ro,(cb W 87 [(vP gw)]),(cb X 3 [(vI i)])]) (fun k (y:tg)=>(j7 y (yg m i k))) (fun k y=>[(iu iV G (bR vB nv)),(cb b6 134 [(Value.map (some AA))]),(cb b3 3 [(vI i)]),(cb b2 87 [(vP gw)]),(cb gw 98 (hP.cells (hP.mk (pP r kA kC cA cC bA bC slA slC drA drC heA heC) (aV.mk tA tN tC) (Value.map (some gs))))).ro,(iu iV gs (bR fg m)).ro,(iu iV AA (bR vB y))]) (fun _ (_:Unit)=>False) (fun _ _=>[]) [4,5,6,7,8,9,10] [1,0,2,3] nv rfl rfl (KX r kA kC cA cC bA bC slA slC drA drC heA heC tA tN tC gs gw m i W X (by exact hb)) rfl rfl rfl (by exact QM (K.By fun k=>by omega)) (by simp only [AAI,h_,AAs,AAv,ABC];exact ⟨⟨_,sm,(df (bL _))⟩,⟨_,sm,(df (bL _))⟩,⟨_,sm,(bL _)⟩,⟨_,sm,(bL _)⟩⟩) (by rintro k x k2 ⟨n,_,rfl,_⟩;rfl) rfl (aN rfl) ?_ ?_ (fun _ _ _ h=>h.elim) (fun _ _ h=>h.elim);rotate_left 1
 ·rintro EY k nw AP c;have T:=c
  try dsimp only
  refine cm jE 6 [] (mc 6 U mn) ?_;refine xO 11 U U pW U U fun B3=>?_
  try dsimp only
  refine aq aj 3 ?_;have A:(∀ p∈nw,p∈nw)∧(j7 nv (fun u=>(1≤u∧u≤(m.length:Int))∧ ¬ (yg m i k u∧u ∉ nw.map (·.1)))):=by exact ⟨fun p hp=>hp,K.By fun u=>⟨fun q=>⟨I,fun z=>z.2 ((T.2 u).2 z.1)⟩,fun q=>by omega⟩⟩
  refine bu (ι:={z:tg×tg // (∀ p∈z.1,p∈nw)∧(j7 z.2 (fun u=>(1≤u∧u≤(m.length:Int))∧ ¬ (yg m i k u∧u ∉ z.1.map (·.1))))}) [7,68] [0,1,2,9,10] U U (fun z=>[]) (fun z=>[(iu iV G (bR vB z.1.2)),(CF iV B3 AA (bR vB nw) (bR vB z.1.1) none)]) (fun _=>rfl) (fun _=>rfl) (fun z=>z.1.1.length) ⟨(nw,nv),A⟩ (cS.nil _) (aB [0,1,2,9,10,5,11]) ?_;clear A;rintro ⟨⟨left,rk⟩,⟨AB,J⟩⟩ J55 o
  try dsimp only at AB J
  try dsimp only
  refine aq bS 2 ?_;refine vp (eD nZ).inj (f:=Value.bool) 6 U U U U (fun A4=>?_) (fun u v An DA=>?_);rotate_left 1
  ·try dsimp only
   refine aS aj 10 U<|rS (SX (vK 6 U U U) U U)<|aS aj 7 U<|pg (kV:=iV) (x:=u) (C':=[_,_,_,_,_,(iu iV G (bR vB (cH rk u))),_]) 5 U U U U pW (eD nZ) U (mo _ _ _).symm U<|aq aj 2 ?_;refine iM 6 U z8 U ?_;refine aL (o ⟨((cH left u),(cH rk u)),⟨gZ AB,Ts AB T An J⟩⟩ _ _ _ U (e7 An) (aN U) (aB [0,1,2,3,4,5,6]))
  refine aS aj 6 U<|aq fD 4 ?_;have A0:j7 rk (fun u=>(1≤u∧u≤(m.length:Int))∧ ¬ yg m i k u):=J.By fun u=>⟨fun q=>⟨q.1,fun z=>q.2 ⟨z,by rw [A4];simp⟩⟩,fun q=>⟨q.1,fun z=>q.2 z.1⟩⟩;have V:eg (rk.map (·.1))=(e9 m i (cd m i)):=Ik hi AP A0;have DL:rk.length≤m.length:=Oz A0 fun k q=>q.1;have A6:rk.length=(e9 m i (cd m i)).length:=by rw [← V];simp
  refine aq aj 1 ?_;refine cX (Sq G) (aA) U fun A1 C1=>?_
  try dsimp only
  refine cX (Ly rk G A1 I) (aP [6,0]) U fun CI C2=>?_;obtain ⟨e,g⟩:=CI
  try dsimp only
  rw [V];refine aq aj 4 ?_;refine hQ _ _ _ (nI 2 U U<|g4 (vs:=[(vS e rk.length g)]) ⟨U,trivial⟩ fun w hs=>EO (e,g) [0] ?_ ?_ U U U hs)
  ·(rw [← A6];rfl)
  ·trivial
 rintro k x k2 nw l ra rb S w1 K26 Qr27 Dw hx Z AC Y B7 Ci;obtain ⟨n,DC,rfl,rfl⟩:=hx;have T:=Z
 try dsimp only
 refine aq bS 3 ?_;refine aL (AC _ _ ?_);refine dD bS 11 [] (mc 4 U mn) U<|rS (SX (bK U U) U U)<|cm aj 2 [] (mr 5 U mn) ?_;refine kz (kV:=iV) (m:=bR fg m) 6 U U rX U ⟨U,fun h=>h⟩ (by exact mP 6 U) U fun Bx=>?_
 try dsimp only
 refine aq aj 3 ?_;have A:((1:Int)+(mX m i n:Int)=1+(mX m i n:Int))∧((1:Int)+(qx m i n:Int)=1+(qx m i n:Int))∧(∀ p∈m,p∈m)∧(1≤(1:Int)∧1≤(1:Int)):=by exact ⟨rfl,rfl,fun p hp=>hp,I⟩
 refine bu (ι:={z:k9×Int×Int // (z.2.1+(mX z.1 i n:Int)=1+(mX m i n:Int))∧(z.2.2+(qx z.1 i n:Int)=1+(qx m i n:Int))∧(∀ p∈z.1,p∈m)∧(1≤z.2.1∧1≤z.2.2)}) [2,3,5,7,8,38] [1,2,3,4,5,6,7,8] U U (fun z=>[(9,(vI z.1.2.1)),(10,(vI z.1.2.2))]) (fun z=>[(BA iV Bx gs (bR fg m) (bR fg z.1.1) none)]) (fun _=>rfl) (fun _=>rfl) (fun z=>z.1.1.length) ⟨(m,(1:Int),(1:Int)),A⟩ (aN U) (aB [1,2,3,4,5,6,7,8,0]) ?_;clear A;rintro ⟨⟨left,s,t⟩,⟨C,D,B,R⟩⟩ J33 L
 try dsimp only at C D B R
 try dsimp only
 have A7:=Jj (m:=m) (i:=i) (n:=n);have A8:=Oh (m:=m) (i:=i) (n:=n);refine aq bS 2 ?_;refine jQ (eD nZ).inj (f:=fg) 8 U U U U (fun P=>?_) (fun x y hm hn=>?_)
 ·refine aS aj 6 U<|aq fD 9 ?_;have A:(s≤s∧(s≤t+1∨s=s))∧(j7 nw (fun u=>yg m i k u∧ ¬ (s≤u∧u<s))):=by exact ⟨⟨wt _,.inr rfl⟩,T.By fun u=>⟨fun q=>⟨q,fun z=>by omega⟩,fun q=>q.1⟩⟩
  refine bu (ι:={z:Int×tg // (s≤z.1∧(z.1≤t+1∨z.1=s))∧(j7 z.2 (fun u=>yg m i k u∧ ¬ (s≤u∧u<z.1)))}) [2,3,5,7,8,9,10] [0,1,2,3,4,5,6,8] U U (fun z=>[(13,(vI z.1.1))]) (fun z=>[(iu iV AA (bR vB z.1.2))]) (fun _=>rfl) (fun _=>rfl) (fun z=>(t+1-z.1.1).toNat) ⟨(s,nw),A⟩ (aN U) (aB [0,1,2,3,4,5,6,8,7]) ?_;clear A;rintro ⟨⟨q,n2⟩,⟨N,H⟩⟩ J37 j
  try dsimp only at N H
  try dsimp only
  have A7:=Jj (m:=m) (i:=i) (n:=n);have A8:=Oh (m:=m) (i:=i) (n:=n);have Di:s=1+(mX m i n:Int):=by rw [P] at C;simp only [Cm] at C;omega
  have Do:t=1+(qx m i n:Int):=by rw [P] at D;simp only [Eo] at D;omega
  refine aq bS 8 ?_;refine bE U (aG fun A3=>?_) (aH fun A3=>?_)
  ·refine aS aW 1 U<|aq fD 2 ?_;exact Y n2 _ _ (by exact NP (a:=s) (b:=t) (by rw [P,Cm] at C;omega) (by rw [P,Eo] at D;omega) (H.By fun u=>⟨fun z=>⟨z.1,fun w=>z.2 I⟩,fun z=>⟨z.1,fun w=>z.2 I⟩⟩)) (aB [0,1,2,3,4,5,6,8])
  refine dD aW 7 [] (mc 2 U mn) U<|pg (kV:=iV) (x:=q) (C':=[_,_,_,_,_,_,_,_,(iu iV AA (bR vB (cH n2 q)))]) 8 U U U U pW (eD nZ) U (mo _ _ _).symm U<|aq aj 8 ?_;refine aL (j ⟨((q+1),(cH n2 q)),⟨I,GX N.1 H⟩⟩ _ _ _ U dso (aN U) (aB [0,1,2,3,4,5,6,7,8]))
 try dsimp only
 refine aS aj 10 U<|rS (SX (jI 8 U U U) U U)<|aS aj 2 U<|AL U dA fun C3=>aS aj 1 U<|eN U cJ U<|cm aj 10 [] (mc 4 U mn) ?_;refine bY U (aH fun E=>?_) (aG fun E=>?_)
 ·refine aq aW 1 ?_;refine iM 9 U fX U ?_;refine aL (L ⟨((cH left x),s,t),(by refine ⟨?_,?_,gZ B,?_⟩<;>dsimp only <;>first|omega|(rw [← K1 hn hm E];omega)|(rw [← OE hn hm E];omega))⟩ _ _ _ U (e7 hm) (aN U) (aB [1,2,3,4,5,6,7,8,9]))
 refine cm aW 11 [] (mc 0 U mn) ?_;refine bE U (aG fun O=>?_) (aH fun O=>?_)
 ·refine cm aW 10 [] (mc 0 U mn) ?_;refine bE U (aG fun M=>?_) (aH fun M=>?_)
  ·refine aq aW 2 ?_;refine iM 9 U fX U ?_;refine aL (L ⟨((cH left x),s,t),(by refine ⟨?_,?_,gZ B,?_⟩<;>dsimp only <;>first|omega|(have:=FF hn hm E O;omega)|(have:=I1 hn hm E M;omega))⟩ _ _ _ U (e7 hm) (aN U) (aB [1,2,3,4,5,6,7,8,9]))
  refine aq aW 6 ?_;refine iM 9 U fX U ?_;refine aL (L ⟨((cH left x),s,(t+1)),(by refine ⟨?_,?_,gZ B,?_⟩<;>dsimp only <;>first|omega|(have:=FF hn hm E O;omega)|(have:=E0 hn hm E M;omega))⟩ _ _ _ U (e7 hm) (aN U) (aB [1,2,3,4,5,6,7,8,9]))
 refine cm aW 14 [] (mc 0 U mn) ?_;refine bE U (aG fun M=>?_) (aH fun M=>?_)
 ·refine aq aW 2 ?_;refine iM 9 U fX U ?_;refine aL (L ⟨((cH left x),(s+1),t),(by refine ⟨?_,?_,gZ B,?_⟩<;>dsimp only <;>first|omega|(have:=CW hn hm E O;omega)|(have:=I1 hn hm E M;omega))⟩ _ _ _ U (e7 hm) (aN U) (aB [1,2,3,4,5,6,7,8,9]))
 refine aq aW 6 ?_;refine iM 9 U fX U ?_;refine aL (L ⟨((cH left x),(s+1),(t+1)),(by refine ⟨?_,?_,gZ B,?_⟩<;>dsimp only <;>first|omega|(have:=CW hn hm E O;omega)|(have:=E0 hn hm E M;omega))⟩ _ _ _ U (e7 hm) (aN U) (aB [1,2,3,4,5,6,7,8,9]))
end
end Go.Proofs.YtgnlmfdknlbkkaaGreatDoor
