/-
 The statement juryMore_said, part 6 of 8: B3, B5, B6, V2, V5, V6, Wh1, V4, V8, Wh2, Jw3, Jw4, Jw5, Rc1, Rc2, Rc3, Rc4, Rs1, S2, Rs2, Rs3.
 Conditions: none.
-/
import Derived.Test.YtijpnoadncadoaaGreatDoorTv1
import Derived.Test.YtijpnoadncadoaaGreatDoorTv2
import Derived.Test.YtijpnoadncadoaaGreatDoorTv3
import Derived.Test.YtijpnoadncadoaaGreatDoorTv4
import Derived.Test.YtijpnoadncadoaaGreatDoorTv5
namespace Go.Proofs.YtijpnoadncadoaaGreatDoor
set_option maxRecDepth 100000
set_option maxHeartbeats 4000000
set_option linter.unusedVariables false
section
open Go.RowKit
theorem Gw (i:Int) (s:cG) (ts:List au) (tsA:OA) (tsC g1:Nat) (hst: ∀ x∈ts,bX x) (hlen:ts.length≤12):
 dK Tryz.prog 133 [(vI i),(vA (cG.cells s)),(vP g1)] [(rd tsA ts.length 9 (ts.map au.cells)),(cx g1 196 (eI.cells (eI.mk (bM.mk (bx.mk tsA ts.length tsC)))))] (vB (!(decide (fO ts s)))):=by
 refine bG kr Tryz.func133 U U fun AA Q hQ hN=>?_
 try dsimp only
 refine WS fun _ C=>eL U fun G=>rP 1 [] I ?_
 refine RK C<|aq fun _ A=>lI cy [0,1,2,3,4,5,6] [7,8,9,10,11,12,13,14,15,16,17,18,19,20,21,22,23,24,25,26] [false,false,false,false,false,false,false] [] [(cx G 120 (cG.cells s)),(rd tsA ts.length 9 (ts.map au.cells)).ro,(cx g1 196 (eI.cells (eI.mk (bM.mk (bx.mk tsA ts.length tsC))))).ro] [] kr (aP [0,1,2]) (aP [])<|eS U (FA 0 U fK U)<|eS U (FA 0 U fK U)<|eS U (Kv (vS tsA ts.length tsC) 2 U cq U U)<|eS U (LN U Rz)<|eS U (BI U (xY ⟨om,om⟩))<|eS U (FA 0 U fK U)<|eS U (L1 (vI s.bB) 0 U cq U U)<|eC U<|N1 7<|NO U U [8,9,10,11,12,13,14,15,16,17,18,19,20,21,22,23,24,25,26] fun T4 D=>eB (xs:=[.tmp 12]) (cs:=[(vI s.bB)]) U dp ky U U U U (by simp [Value.cells]) U U fun H=>RD D 1 U<|P6 [14,15,16,17,18,19,20,21,22,23,24,25,26,27,28,29,30,31,5] kr kr U _ U U (aP [1,2,3]) ?_
 refine dS (CL (dK.eq (pk 0 ((ts.length:Int)-1) ([s.bB]) (some ⟨H,0,none⟩) 1 (by (simp; done))) cE) (ax (bu 0 U U (by simp [bR]) U)<|aN) U) ?_
 refine dP 2 [] I ?_
 refine hO (t:=16) U (bg fun B=>?_) (bf fun B=>?_)
 ·refine k6 9 U<|dP 7 [] I ?_
  refine cM<|RK A<|av<|Q1 hQ U U U ?_
  (refine cB ?_; rw [bH (Cf om)]; rfl)
 refine k6 1 U<|dS (LP (ai.cells s.mU) 1 U cq U U U)<|dP 5 [0,1] (mr 3 U (mc 1 U I)) ?_
 obtain ⟨x,hx⟩:=aM ts ((s.bB).toNat) om
 have E:=bO au.cells hx
 refine dS (IA ((s.bB).toNat) U (aG 2 U) yo dc om om)<|dS (o1 ((((s.bB).toNat)*9)+1) U (aG 2 U) (Nat.mul_pos om dc) fK U) ?_
 have F:=(hst x (aQ hx)).2.1
 simp only [eh] at F
 refine dS (o1 ((((s.bB).toNat)*9)+1) U (aG 2 U) (Nat.mul_pos om dc) fK U)<|dS (gQ ((s.bB).toNat) 1 (vI x.kJ.Lo) U cq (aG 2 U) E U dc U)<|k6 1 U<|dS (CL (wo s.mU 0 (x.kJ.Lo-1)) (aN) U)<|dP 3 [] I ?_
 refine cM<|RK A<|av<|Q1 hQ U U U ?_
 exact congrArg (fun b=>vB (!b)) (gY.2 (BC om hx).symm)
theorem Ec (l:List cG) (lA:OA) (lC:Nat) (f:Value) (p:Int→cG→Bool) (X:aB) (hf: ∀ x0 x1,(∃ k:Nat,x0=(k:Int)∧l[k]? =some x1)→DD Tryz.prog f [.int .i64 x0,.agg (cG.cells x1).toArray] [X] (.bool (p x0 x1))) (hlen:l.length≤1000000):
 p9 Tryz.prog 132 [(vS lA l.length lC),f] [(rd lA l.length 3 (l.map cG.cells)),X] (fun (x:(OA)×Nat)=>(vS x.1 ((KU (fun jj yy=>p (jj:Int) yy) l).length) x.2)) (fun (x:(OA)×Nat)=>True) (fun (x:(OA)×Nat)=>[(own x.1 x.2 3 1 ((KU (fun jj yy=>p (jj:Int) yy) l).map iC))]):=by
 refine fF kr Tryz.func132 U U fun W Q hQ hN=>?_
 try dsimp only
 refine WS fun _ L=>bE 1 U<|RK L<|WS fun _ M=>bE 1 U<|RK M<|aq fun _ N=>WS fun _ O=>rP 3 [] I ?_
 refine RK O<|aF<|eP 3 1 ?_
 have A:(0≤l.length):=by exact Nat.zero_le _
 refine bQ (ι:={z:Nat×(OA)×Nat // (z.1≤l.length)}) [0,1,8,9] [1,2] U U (fun z=>[(5,(vS z.1.2.1 ((sX (fun jj yy=>p (jj:Int) yy) l z.1.1).length) z.1.2.2)),(10,(vI (z.1.1:Int)))]) (fun z=>[(own z.1.2.1 z.1.2.2 3 1 ((sX (fun jj yy=>p (jj:Int) yy) l z.1.1).map iC))]) (fun _=>rfl) (fun _=>rfl) (fun z=>l.length-z.1.1) ⟨(0,none,0),A⟩ (bk U) (aP [1,2,0]) ?_
 clear A
 rintro ⟨⟨i,a,c⟩,B⟩ J5 C
 try dsimp only at B
 try dsimp only
 refine WS fun _ P=>rP 1 [] I ?_
 refine RK P<|aq fun _ R=>bV U (aU fun V=>?_) (aV fun V=>?_)
 ·refine bL<|ab<|ab<|aH<|KK N<|WS fun _ F=>?_
  rw [MI (p:=fun (i:Nat) x=>p (i:Int) x) (show i=l.length by omega)]
  refine rP 2 [] I ?_
  refine RK F<|av<|LX hQ (a,c) [2] [] I U U U U ?_
  trivial
 refine WK R<|aq fun _ G=>aF<|WS fun _ D=>rP 1 [] I ?_
 obtain ⟨x,hx⟩:=aM l i om
 have S:=bO cG.cells hx
 refine rS (IA i U (aG 0 U) Jc dc om om)<|rS (lS i 0 (cG.cells x) U cq (aG 0 U) S U dc U U)<|AL U Fk fun T=>bE 1 U<|fR U Oh U<|RK D<|WS fun _ E=>rP 3 [] (mc 0 U I) ?_
 refine rS (SX (qc U U U (hf (i:Int) x ⟨i,U,hx⟩) (bw [2])) U U)<|RK E<|bV U (fun hp=>?_) (fun hp=>?_)
 ·refine cg<|aO<|KK G<|aw ?_
  rw [← Mu (p:=fun (i:Nat) x=>p (i:Int) x) hx hp]
  refine rP 2 [] I ?_
  refine aK ?_
  have AB:(vI (((i+1):Nat):Int))=(vI ((i:Int)+1)):=by exact cI om
  refine a_ (C ⟨((i+1),a,c),(by first|omega|(simp only []; omega))⟩ _ _ _ U os (cK 5<|bj U AB<|dv.nil _) (aP [1,2,3]))
 refine aw<|rP 2 [] I ?_
 refine eB (xs:=[.tmp 20]) (cs:=[(vI (i:Int))]) U dp ky U U U U (by simp [Value.cells]) U U fun AA=>?_
 refine dH (es2:=(List.map iC (sX (fun jj yy=>p (jj:Int) yy) l (i+1)))) (m':=(sX (fun jj yy=>p (jj:Int) yy) l (i+1)).length) 4 U U U r8 U U sm (bu (es:=List.map iC [(i:Int)]) 0 U U (by simp [bR]) U) (kZ _) (by have:=AV (p:=fun (i:Nat) x=>p (i:Int) x) (l:=l) (n:=i); simp; omega) (by have:=AV (p:=fun (i:Nat) x=>p (i:Int) x) (l:=l) (n:=i); simp only [maxLen]; omega) (by rw [Ky hx hp]; simp) sm U fun J K=>?_
 try dsimp only
 refine bE 1 U<|aK<|aO<|KK G<|aw<|rP 2 [] I ?_
 refine aK ?_
 have H:(vI (((i+1):Nat):Int))=(vI ((i:Int)+1)):=by exact cI om
 refine a_ (C ⟨((i+1),J,K),(by first|omega|(simp only []; omega))⟩ _ _ _ U os (cK 5<|bj U H<|dv.nil _) (aP [2,3,4]))
theorem CK (ts:List au) (tsA:OA) (tsC:Nat) (l:List cG) (lA:OA) (lC:Nat) (hst: ∀ x∈ts,bX x) (hlen:ts.length≤12) (hl:l.length≤4):
 dK Tryz.prog 116 [(vA (eI.cells (eI.mk (bM.mk (bx.mk tsA ts.length tsC))))),(vS lA l.length lC)] [(rd tsA ts.length 9 (ts.map au.cells)),(rd lA l.length 3 (l.map cG.cells))] (vB (decide (∀ s∈l,fO ts s))):=by
 refine bG kr Tryz.func116 U U fun J Q hQ hN=>?_
 try dsimp only
 refine WS fun _ B=>eL U fun A=>bE 1 U<|RK B<|WS fun _ C=>rP 1 [] I ?_
 refine rS (FU U) ?_
 refine cX (Ec l lA lC (Value.func (.func 133) [].toArray [(vP A)].toArray) (fun E D=>(!(decide (fO ts D)))) (dU [(rd tsA ts.length 9 (ts.map au.cells)),(cx A 196 (eI.cells (eI.mk (bM.mk (bx.mk tsA ts.length tsC)))))]) (by intro E D _; exact k9 (fi:=[]) (ca:=[(vP A)]) (jY (Gw E D ts tsA tsC A (by first|assumption|omega) (by first|assumption|omega)) (bw [0,1]))) om) (gj 2 U U<|ax (jV (bw [1,0]))<|aN) U fun G F=>?_
 obtain ⟨H,AA⟩:=G
 try dsimp only
 refine rP 3 [] I ?_
 refine RK C<|av<|Q1 hQ U U U ?_
 exact congrArg Value.bool (decide_eq_decide.2 (by rw [show ∀ n:Nat,((n:Int)=0)↔n=0 from fun n=>by omega,GI]; simp only [Bool.not_eq_false',decide_eq_true_eq]; exact ⟨fun h s hs=>by obtain ⟨k,hk⟩:=List.getElem?_of_mem hs; exact h k s hk,fun h k s hk=>h s (List.mem_of_getElem? hk)⟩))
theorem DX (z:ai) (hz:lT z):
 dK Tryz.prog 119 [(vA (ai.cells z))] [] (vA (ai.cells (oE z))):=by
 unfold lT at hz
 refine bG kr Tryz.func119 U U fun E Q hQ hN=>?_
 try dsimp only
 refine WS fun _ A=>eL U fun C=>AL U ed fun D=>RK A<|WS fun _ B=>e9 2 [] (mc 1 U I) U<|rS (NG U ⟨om,om⟩)<|rP 2 [] (mc 1 U I) ?_
 refine rS (NG U ⟨om,om⟩)<|rS (SX (bq (xs:=[(0,.tmp 5),(1,.tmp 8)]) (cs:=(ai.cells (ai.mk (-z.Hi) (-z.Lo)))) U U (bp g4 U)) U U)<|fR U c_ U<|RK B<|av ?_
 exact C5 hQ [0] (mc 0 U I) U U
theorem Q5 (ts:List au) (tsA:OA) (tsC:Nat) (s:cG) (hlen:ts.length≤1000000) (hside: ∀ x∈ts,0≤x.jm∧x.jm≤255):
 dK Tryz.prog 93 [(vA (bM.cells (bM.mk (bx.mk tsA ts.length tsC)))),(vA (cG.cells s))] [(rd tsA ts.length 9 (ts.map au.cells))] (vT [(vA (ai.cells (OD ts s))),(vI (E4 ts s))]):=by
 refine bG kr Tryz.func93 U U fun Z Q hQ hN=>?_
 try dsimp only
 refine WS fun _ K=>eL U fun V=>eL U fun W=>AL U ed fun X=>bE 1 U<|RK K<|WS fun _ L=>e9 1 [] (mc 2 U I) U<|rS (CL (ES ts tsA tsC hlen hside) (bw [3]) U)<|bE 3 U<|AL U Je fun Y=>fR U JS U<|bE 1 U<|RK L<|aq fun _ M=>WS fun _ N=>rP 2 [] I ?_
 refine RK N<|cw U (bg fun he=>?_) (bf fun he=>?_)
 ·refine WS fun _ O=>rS (SX (bq (xs:=[]) (cs:=(ai.cells (ai.mk 0 0))) U U (bp g4 U)) U U)<|bE 1 U<|qy U c_ U<|rP 1 [] I ?_
  refine RK O<|av<|mY hQ [0] (mc 1 U I) U ?_
  (have e:=JU (s:=s) (y7 he).1; rw [e.1,e.2,(y7 he).2]<;>rfl)
 refine WK M<|aq fun _ C=>WS fun _ D=>?_
 have B:=D7 he
 have H:=j9 B
 have R:=kX B
 refine rP 2 [0,1] (mc 0 U (mc 2 U I)) ?_
 refine eB (xs:=[.tmp 20]) (cs:=(cG.cells s)) U Jc Fk U U U U (by simp [Value.cells,cG.aZ]) U U fun AB=>?_
 refine rS (CL (dK.eq (CK ts tsA tsC ([s]) (some ⟨AB,0,none⟩) 1 asm asm (by (simp; done))) En) (gj 5 U U<|ax (bu 0 U U (by simp [cG.aZ]) U)<|aN) U) ?_
 refine rP 1 [] I ?_
 refine RK D<|cw U (bg fun A=>?_) (bf fun A=>?_)
 ·refine WS fun _ E=>rS (SX (bq (xs:=[]) (cs:=(ai.cells (ai.mk 0 0))) U U (bp g4 U)) U U)<|FH U c_ U<|rP 1 [] I ?_
  refine RK E<|av<|mY hQ [0] (mc 2 U I) U ?_
  (have e:=KD B A; rw [e.1,e.2]<;>rfl)
 refine WK C<|WS fun _ F=>?_
 have AA:=A.1
 have P:=qD H A
 refine e9 3 [0,1] (mc 1 U (mc 3 U I)) U<|rS (CL (Kx ts tsA tsC 0 s.bB asm asm om) (bw [5]) U)<|bE 3 U<|AL U ed fun S=>AL U ed fun T=>qy U c_ U<|fR U c_ U<|RK F<|WS fun _ G=>rP 2 [] (mc 1 U I) ?_
 refine rS (LP (ai.cells s.mU) 5 U cq U U U)<|eB (xs:=[.tmp 34]) (cs:=(ai.cells s.mU)) U lu ed U U U U (by simp [Value.cells,ai.aZ]) U U fun J=>?_
 refine rS (CL (dK.eq (pY (eK ts (0:Int).toNat (s.bB-0).toNat) ([s.mU]) (some ⟨J,0,none⟩) 1 (by exact re H om) (by intro z hz; simp only [cu] at hz; subst hz; exact P) sm) nO) (ax (bu 0 rfl rfl (by simp [ai.aZ]) rfl)<|aN) rfl) ?_
 refine IF U c_ U<|rP 1 [] I ?_
 refine RK G<|av<|mY hQ [0] (mc 5 U I) U ?_
 (have e:=xh B A; rw [e.1,e.2]; unfold Ll; rw [show (s.bB-0).toNat=s.bB.toNat by rw [Int.sub_zero]]<;>rfl)
theorem Mn (ts:List au) (tsA:OA) (tsC:Nat) (p:cG) (q:cG) (hlen:ts.length≤1000000) (hside: ∀ x∈ts,0≤x.jm∧x.jm≤255):
 dK Tryz.prog 94 [(vA (bM.cells (bM.mk (bx.mk tsA ts.length tsC)))),(vA (cG.cells p)),(vA (cG.cells q))] [(rd tsA ts.length 9 (ts.map au.cells))] (vT [(vA (ai.cells (k7 ts p q))),(vI (l9 ts p q))]):=by
 refine bG kr Tryz.func94 U U fun w Q hQ hN=>?_
 try dsimp only
 refine WS fun _ c=>eL U fun r=>eL U fun s=>eL U fun t=>AL U ed fun u=>bE 1 U<|RK c<|WS fun _ d=>e9 1 [] (mc 3 U I) U<|rS (CL (ES ts tsA tsC hlen hside) (bw [4]) U)<|bE 3 U<|AL U Je fun v=>fR U JS U<|bE 1 U<|RK d<|aq fun _ g=>WS fun _ h=>rP 2 [] I ?_
 refine RK h<|cw U (bg fun he=>?_) (bf fun he=>?_)
 ·refine WS fun _ G=>rS (SX (bq (xs:=[]) (cs:=(ai.cells (ai.mk 0 0))) U U (bp g4 U)) U U)<|bE 1 U<|qy U c_ U<|rP 1 [] I ?_
  refine RK G<|av<|mY hQ [0] (mc 1 U I) U ?_
  (have e:=uX (a:=p) (b:=q) (y7 he).1; rw [e.1,e.2,(y7 he).2]<;>rfl)
 refine WK g<|aq fun _ H=>WS fun _ AB=>?_
 have A:=D7 he
 have F:=j9 A
 have j:=kX A
 refine rP 3 [0,1,2] (mc 0 U (mc 3 U (mc 2 U I))) ?_
 refine eB (xs:=[.tmp 22,.tmp 23]) (cs:=((cG.cells p)++(cG.cells q))) U Jc Fk U U U U (by simp [Value.cells,cG.aZ]) U U fun X=>?_
 refine rS (CL (dK.eq (CK ts tsA tsC ([p,q]) (some ⟨X,0,none⟩) 2 asm asm (by (simp; done))) DI) (gj 6 U U<|ax (bu 0 U U (by simp [cG.aZ]) U)<|aN) U) ?_
 refine rP 1 [] I ?_
 refine RK AB<|cw U (bg fun D=>?_) (bf fun D=>?_)
 ·refine WS fun _ J=>rS (SX (bq (xs:=[]) (cs:=(ai.cells (ai.mk 0 0))) U U (bp g4 U)) U U)<|FH U c_ U<|rP 1 [] I ?_
  refine RK J<|av<|mY hQ [0] (mc 2 U I) U ?_
  (have e:=pq A D; rw [e.1,e.2]<;>rfl)
 refine WK H<|WS fun _ K=>?_
 obtain ⟨hp,hq⟩:=D
 have n:=hp.1
 have o:=hq.1
 have i:=qD F hp
 have W:=qD F hq
 have V:=zF i
 have B:=re F (f:=(min p.bB q.bB).toNat) (k:=(max p.bB q.bB-min p.bB q.bB).toNat) om
 refine e9 5 [0,1,2] (mc 1 U (mc 4 U (mc 3 U I))) U<|rS (MN U)<|e9 4 [0,1] (mc 4 U (mc 3 U I)) U<|rS (MX U)<|rS (CL (Kx ts tsA tsC (min p.bB q.bB) (max p.bB q.bB) asm asm om) (bw [6]) U)<|bE 3 U<|AL U ed fun l=>AL U ed fun m=>qy U c_ U<|fR U c_ U<|RK K<|aq fun _ C=>WS fun _ L=>rP 5 [0,1] (mc 5 U (mc 6 U I)) ?_
 refine RK L<|bV U (aU fun E=>?_) (aV fun E=>?_)
 ·refine WK C<|aq fun _ N=>dM cy [6,7,8] [] [] [0,1,2,3,5,6,7,8] [] U U U U U<|eS U (LW 1 U cq U U)<|eS U (FA 1 U fK U)<|eS U (LP (ai.cells q.mU) 4 U cq U U U)<|eS U (FA 1 U fK U)<|eS U (LP (ai.cells p.mU) 5 U cq U U U)<|eS U (CL (DX p.mU asm) (aN) U)<|eS U (AG U)<|eC U<|cv U fun T26 S=>eB (xs:=[.tmp 52,.tmp 55]) (cs:=((ai.cells q.mU)++(ai.cells (oE p.mU)))) U lu ed U U U U (by simp [Value.cells,ai.aZ]) U U fun Z=>aK (S _ _ (aP [1,2,3,4,6,7,8,9]) ?_)
  refine cv U fun T28 T=>?_
  refine rS (CL (dK.eq (pY (eK ts (min p.bB q.bB).toNat ((max p.bB q.bB)-(min p.bB q.bB)).toNat) ([q.mU,(oE p.mU)]) (some ⟨Z,0,none⟩) 2 (by first|exact B|exact zF B) (by intro z hz; simp only [bW,List.not_mem_nil,or_false] at hz; rcases hz with rfl|rfl; exact W; exact V) sm) BM) (ax (bu 0 rfl rfl (by simp [ai.aZ]) rfl)<|aN) rfl) ?_
  refine aK (T _ _ (aP [1,2,3,4,6,7,8,9]) ?_)
  refine cv U fun T29 AA=>IF U c_ U<|aK (AA _ _ (aP [1,2,3,4,6,7,8,9]) ?_)
  refine fP U<|KK N<|av<|mY hQ [0] (mc 5 U I) U ?_
  (have e:=lK A ⟨hp,hq⟩; rw [e.1,e.2]; unfold j4 yf; rw [if_neg E]<;>rfl)
 refine aw<|rP 1 [] (mc 1 U I) ?_
 refine rS (CL (DX (eK ts (min p.bB q.bB).toNat ((max p.bB q.bB)-(min p.bB q.bB)).toNat) asm) (aN) U)<|qy U c_ U<|RK C<|aq fun _ M=>dM cy [6,7,8] [] [] [0,1,2,3,5,6,7,8] [] U U U U U<|eS U (LW 1 U cq U U)<|eS U (FA 1 U fK U)<|eS U (LP (ai.cells q.mU) 4 U cq U U U)<|eS U (FA 1 U fK U)<|eS U (LP (ai.cells p.mU) 5 U cq U U U)<|eS U (CL (DX p.mU asm) (aN) U)<|eS U (AG U)<|eC U<|cv U fun T21 O=>eB (xs:=[.tmp 52,.tmp 55]) (cs:=((ai.cells q.mU)++(ai.cells (oE p.mU)))) U lu ed U U U U (by simp [Value.cells,ai.aZ]) U U fun Y=>aK (O _ _ (aP [1,2,3,4,6,7,8,9]) ?_)
 refine cv U fun T23 P=>?_
 refine rS (CL (dK.eq (pY (oE (eK ts (min p.bB q.bB).toNat ((max p.bB q.bB)-(min p.bB q.bB)).toNat)) ([q.mU,(oE p.mU)]) (some ⟨Y,0,none⟩) 2 (by first|exact B|exact zF B) (by intro z hz; simp only [bW,List.not_mem_nil,or_false] at hz; rcases hz with rfl|rfl; exact W; exact V) sm) BM) (ax (bu 0 rfl rfl (by simp [ai.aZ]) rfl)<|aN) rfl) ?_
 refine aK (P _ _ (aP [1,2,3,4,6,7,8,9]) ?_)
 refine cv U fun T24 R=>IF U c_ U<|aK (R _ _ (aP [1,2,3,4,6,7,8,9]) ?_)
 refine fP U<|KK M<|av<|mY hQ [0] (mc 5 U I) U ?_
 (have e:=lK A ⟨hp,hq⟩; rw [e.1,e.2]; unfold j4 yf; rw [if_pos E]<;>rfl)
theorem rr (ts:List au) (tsA:OA) (tsC:Nat) (s:cG) (hst: ∀ x∈ts,bX x) (hlen:ts.length≤12):
 dK Tryz.prog 139 [(vA (bM.cells (bM.mk (bx.mk tsA ts.length tsC)))),(vA (cG.cells s))] [(rd tsA ts.length 9 (ts.map au.cells))] (vB (decide (fO ts s))):=by
 refine bG kr Tryz.func139 U U fun H Q hQ hN=>?_
 try dsimp only
 refine WS fun _ C=>eL U fun F=>eL U fun G=>bE 1 U<|RK C<|aq fun _ A=>dA cy 22 kr<|lR 6 [0,1] (mc 0 U (mc 1 U I)) U<|dS (CL (pC s.bB 0 ((ts.length:Int)-1)) (aN) U)<|dP 1 [] I ?_
 refine jD (t:=12) U (aU fun B=>?_) (aV fun B=>?_)
 ·refine k6 8 U<|dP 6 [] I ?_
  refine cM<|RK A<|av<|Q1 hQ U U U ?_
  (refine cB ?_; rw [bH (Cf om)])
 refine k6 1 U<|dS (LP (ai.cells s.mU) 0 U cq U U U)<|dP 4 [0,1] (mc 1 U (mc 0 U I)) ?_
 obtain ⟨x,hx⟩:=aM ts ((s.bB).toNat) om
 have D:=bO au.cells hx
 refine dS (IA ((s.bB).toNat) U (aG 2 U) yo dc om om)<|dS (o1 ((((s.bB).toNat)*9)+1) U (aG 2 U) (Nat.mul_pos om dc) fK U) ?_
 have E:=(hst x (aQ hx)).2.1
 simp only [eh] at E
 refine dS (o1 ((((s.bB).toNat)*9)+1) U (aG 2 U) (Nat.mul_pos om dc) fK U)<|dS (gQ ((s.bB).toNat) 1 (vI x.kJ.Lo) U cq (aG 2 U) D U dc U)<|k6 1 U<|dS (CL (p8 s.mU 0 (x.kJ.Lo-1)) (aN) U)<|dP 2 [] I ?_
 refine cM<|RK A<|av<|Q1 hQ U U U ?_
 exact cB (gY.2 (BC om hx).symm)
theorem Ab (ts:List au) (tsA:OA) (tsC:Nat) (f t:Int) (hst: ∀ x∈ts,bX x) (hlen:ts.length≤12) (hf:0≤f∧f≤t∧t≤ts.length):
 dK Tryz.prog 161 [(vA (bM.cells (bM.mk (bx.mk tsA ts.length tsC)))),(vI f),(vI t)] [(rd tsA ts.length 9 (ts.map au.cells))] (vT [(vA (ai.cells (eK ts f.toNat (t-f).toNat))),(vA (ai.cells (gK ts f.toNat (t-f).toNat)))]):=by
 refine bG kr Tryz.func161 U U fun i Q hQ hN=>?_
 try dsimp only
 refine WS fun _ R=>eL U fun e=>AL U ed fun g=>AL U ed fun h=>RK R<|WS fun _ S=>AL U ed fun a=>AL U ed fun b=>RK S<|aq fun _ T=>WS fun _ AA=>rP 2 [] I ?_
 refine RK AA<|aF ?_
 have A:(0≤(t-f).toNat):=by exact Nat.zero_le _
 have K:(vI (f+(0:Int)))=(vI f):=by exact cI om
 refine bQ (ι:={z:Nat // (z≤(t-f).toNat)}) [1,2,3,6,7,8,9] [2,3,4,5] U U (fun z=>[(10,(vI (f+(z.1:Int))))]) (fun z=>[(cx b 53 (ai.cells (gK ts f.toNat z.1))),(cx a 53 (ai.cells (eK ts f.toNat z.1)))]) (fun _=>rfl) (fun _=>rfl) (fun z=>(t-f).toNat-z.1) ⟨0,A⟩ (bj U K<|dv.nil _) (aP [2,3,4,5,0,1]) ?_
 clear A
 rintro ⟨k,V⟩ J11 B
 try dsimp only
 refine aq fun _ C=>WS fun _ D=>rP 3 [] I ?_
 refine RK D<|bV U (aU fun P=>?_) (aV fun P=>?_)
 ·refine bL<|ab<|ab<|aH<|KK T<|aq fun _ H=>dM cy [2,3] [] [] [2,3,4,5] [] U U U U U<|eS U (LW 3 U cq U U)<|eS U (LW 2 U cq U U)<|eC U<|cv U fun T23 AB=>qy U c_ U<|aK (AB _ _ (aP [2,3,4,5]) ?_)
  refine cv U fun T24 J=>fR U c_ U<|aK (J _ _ (aP [2,3,4,5]) ?_)
  refine fP U<|KK H<|av<|mY hQ [0,1] (mc 1 U (mc 0 U I)) U ?_
  obtain rfl:k=(t-f).toNat:=om; rfl
 refine WK C<|aq fun _ E=>aF<|WS fun _ F=>rP 3 [] (mc 2 U I) ?_
 obtain ⟨x,hx⟩:=aM ts (f.toNat+k) om
 have Y:=bO au.cells hx
 refine rS (IA (f.toNat+k) U (aG 3 U) yo dc om om)<|rS (lS (f.toNat+k) 0 (au.cells x) U cq (aG 3 U) Y U dc U U)<|AL U Fy fun Z=>fR U JQ U<|RK F<|WS fun _ G=>?_
 have O:=hst x (aQ hx)
 have d:=mw hst f.toNat k
 have c:=Ex hst f.toNat k
 have W:=O.2.1
 have X:=O.2.2.1
 simp only [eh] at W X
 refine e9 12 [0,1,0,1] (mc 6 U (mc 0 U I)) U<|rS (SX (bq (xs:=[(0,.tmp 28),(1,.tmp 34)]) (cs:=(ai.cells (ai.mk (((eK ts f.toNat k).Lo)+x.kJ.Lo) (((eK ts f.toNat k).Hi)+x.kJ.Hi)))) U U (bp g4 U)) U U)<|Rj U c_ U<|RK G<|aw<|rP 12 [0,1,0,1] (mc 5 U (mc 0 U I)) ?_
 refine rS (SX (bq (xs:=[(0,.tmp 41),(1,.tmp 47)]) (cs:=(ai.cells (ai.mk (((gK ts f.toNat k).Lo)+x.l0.Lo) (((gK ts f.toNat k).Hi)+x.l0.Hi)))) U U (bp g4 U)) U U)<|IF U c_ U<|aK<|aO<|KK E ?_
 have L:(ai.cells (ai.mk (((eK ts f.toNat k).Lo)+x.kJ.Lo) (((eK ts f.toNat k).Hi)+x.kJ.Hi)))=(ai.cells (eK ts f.toNat (k+1))):=by rw [qb hx]; rfl
 rw [L]
 have M:(ai.cells (ai.mk (((gK ts f.toNat k).Lo)+x.l0.Lo) (((gK ts f.toNat k).Hi)+x.l0.Hi)))=(ai.cells (gK ts f.toNat (k+1))):=by rw [pZ hx]; rfl
 rw [M]
 refine aw<|rP 3 [] I ?_
 refine aK ?_
 have N:(vI (f+(((k+1):Nat):Int)))=(vI ((f+(k:Int))+1)):=by exact cI om
 refine a_ (B ⟨(k+1),(by first|omega|(simp only []; omega))⟩ _ _ _ U os (cK 7<|bj U N<|dv.nil _) (aP [1,2,3,4,5,6]))
end
section
open Go.RowKit
theorem Po (l:br) (kA:OA) (kC:Nat) (az:List RA) (cA:OA) (cC:Nat) (bA:OA) (bC:Nat) (hin:eo l az):
 dK Tryz.prog 106 [(vA (ct.cells (jW l kA kC cA cC bA bC)))] [(rd kA l.aS.length 9 (l.aS.map au.cells)),(rd cA l.aj.length 2 (List.zipWith ay.cells l.aj az)),(dU (bo ay.gn l.aj az)),(rd bA l.aa.length 4 (l.aa.map bK.cells))] (vB (decide (fp l))):=by
 have R:=hin.se
 have P:=hin.sb
 have N:=hin.nP
 have O:=hin.r9
 refine bG kr Tryz.func106 U U fun T Q hQ hN=>?_
 try dsimp only
 refine WS fun _ G=>eL U fun S=>bE 1 U<|RK G<|WS fun _ A=>rP 2 [] (mc 0 U I) ?_
 refine eB (xs:=[.tmp 4]) (cs:=[(vI l.hG)]) U dp ky U U U U (by simp [Value.cells]) U U fun H=>?_
 refine rS (CL (dK.eq (ik 1 5000 ([l.hG]) (some ⟨H,0,none⟩) 1 (by (simp; done))) cE) (ax (bu 0 U U (by simp [bR]) U)<|aN) U) ?_
 refine rP 1 [] I ?_
 refine cL (t:=7) U (aU fun K=>?_) (aV fun K=>?_)
 ·refine rP 36 [] I ?_
  refine RK A<|av<|Q1 hQ U U U ?_
  exact cB (bH (by unfold fp; omega)).symm
 refine rP 3 [] (mc 1 U I) ?_
 refine eB (xs:=[.tmp 10]) (cs:=[(vI (l.aj.length:Int))]) U dp ky U U U U (by simp [Value.cells]) U U fun AA=>?_
 refine rS (CL (dK.eq (ik 1 4 ([(l.aj.length:Int)]) (some ⟨AA,0,none⟩) 1 (by (simp; done))) cE) (ax (bu 0 U U (by simp [bR]) U)<|aN) U) ?_
 refine rP 2 [] I ?_
 refine cL (t:=14) U (aU fun L=>?_) (aV fun L=>?_)
 ·refine rP 29 [] I ?_
  refine RK A<|av<|Q1 hQ U U U ?_
  exact cB (bH (by unfold fp; omega)).symm
 refine rP 3 [] (mc 2 U I) ?_
 refine eB (xs:=[.tmp 17]) (cs:=[(vI (l.aa.length:Int))]) U dp ky U U U U (by simp [Value.cells]) U U fun J=>?_
 refine rS (CL (dK.eq (ik 1 6 ([(l.aa.length:Int)]) (some ⟨J,0,none⟩) 1 (by (simp; done))) cE) (ax (bu 0 U U (by simp [bR]) U)<|aN) U) ?_
 refine rP 2 [] I ?_
 refine cL (t:=21) U (aU fun M=>?_) (aV fun M=>?_)
 ·refine rP 22 [] I ?_
  refine RK A<|av<|Q1 hQ U U U ?_
  exact cB (bH (by unfold fp; omega)).symm
 refine rP 6 [] (mc 3 U I) ?_
 refine eB (xs:=[.tmp 27]) (cs:=[(vI l.cf)]) U dp ky U U U U (by simp [Value.cells]) U U fun B=>?_
 refine rS (CL (dK.eq (ik 0 ((l.aa.length:Int)-1) ([l.cf]) (some ⟨B,0,none⟩) 1 (by (simp; done))) cE) (ax (bu 0 U U (by simp [bR]) U)<|aN) U) ?_
 refine rP 2 [] I ?_
 refine cL (t:=31) U (aU fun E=>?_) (aV fun E=>?_)
 ·refine rP 12 [] I ?_
  refine RK A<|av<|Q1 hQ U U U ?_
  exact cB (bH (by unfold fp; omega)).symm
 refine rP 2 [] (mc 4 U I) ?_
 refine eB (xs:=[.tmp 33]) (cs:=[(vI l.e8)]) U dp ky U U U U (by simp [Value.cells]) U U fun C=>?_
 refine rS (CL (dK.eq (ik 0 3 ([l.e8]) (some ⟨C,0,none⟩) 1 (by (simp; done))) cE) (ax (bu 0 U U (by simp [bR]) U)<|aN) U) ?_
 refine rP 2 [] I ?_
 refine cL (t:=37) U (aU fun F=>?_) (aV fun F=>?_)
 ·refine rP 6 [] I ?_
  refine RK A<|av<|Q1 hQ U U U ?_
  exact cB (bH (by unfold fp; omega)).symm
 refine rP 2 [] (mc 5 U I) ?_
 refine eB (xs:=[.tmp 39]) (cs:=[(vI l.di)]) U dp ky U U U U (by simp [Value.cells]) U U fun D=>?_
 refine rS (CL (dK.eq (ik 0 3 ([l.di]) (some ⟨D,0,none⟩) 1 (by (simp; done))) cE) (ax (bu 0 U U (by simp [bR]) U)<|aN) U) ?_
 refine rP 2 [] I ?_
 refine RK A<|av<|Q1 hQ U U U ?_
 exact cB (gY.2 (by unfold fp; omega))
theorem Pf (l:br) (kA:OA) (kC:Nat) (az:List RA) (cA:OA) (cC:Nat) (bA:OA) (bC:Nat) (hin:eo l az):
 dK Tryz.prog 107 [(vA (ct.cells (jW l kA kC cA cC bA bC)))] [(rd kA l.aS.length 9 (l.aS.map au.cells)),(rd cA l.aj.length 2 (List.zipWith ay.cells l.aj az)),(dU (bo ay.gn l.aj az)),(rd bA l.aa.length 4 (l.aa.map bK.cells))] (vB (decide (∀ c∈l.aj,fr c))):=by
 have H:=hin.se
 have G:=hin.sb
 have E:=hin.nP
 have F:=hin.r9
 refine bG kr Tryz.func107 U U fun K Q hQ hN=>?_
 try dsimp only
 refine WS fun _ C=>eL U fun J=>bE 1 U<|RK C<|WS fun _ D=>rP 2 [] (mc 0 U I) ?_
 refine rS (CL (zB l.aj az cA cC (Value.func (.func 109) [].toArray [].toArray) (fun m=>(!(decide (fr m)))) (dU (bo ay.gn l.aj az)) (by intro AA m a B A; exact k9 (fi:=[]) (ca:=[]) (QY l.aj az AA m a (by exact B) (by exact A) (by exact hin.Qv _ _ _ B A))) asm asm) (PV 2 3 3 U U U U U U) U) ?_
 refine rP 2 [] I ?_
 refine RK D<|av<|Q1 hQ U U U ?_
 exact cB (by rw [Bool.eq_iff_iff,decide_eq_true_eq]; exact DU)
theorem Qn (b:bK) (l:br) (kA:OA) (kC:Nat) (az:List RA) (cA:OA) (cC:Nat) (bA:OA) (bC g1:Nat) (hin:eo l az) (htr:dq l.aS=true):
 dK Tryz.prog 113 [(vA (bK.cells b)),(vP g1)] [(rd kA l.aS.length 9 (l.aS.map au.cells)),(rd cA l.aj.length 2 (List.zipWith ay.cells l.aj az)),(dU (bo ay.gn l.aj az)),(rd bA l.aa.length 4 (l.aa.map bK.cells)),(cx g1 28 (ct.cells (jW l kA kC cA cC bA bC)))] (vB (!(decide (j5 l b)))):=by
 have J:=hin.se
 have H:=hin.sb
 have F:=hin.nP
 have G:=hin.r9
 have AA:=hin.side
 refine bG kr Tryz.func113 U U fun M Q hQ hN=>?_
 try dsimp only
 refine WS fun _ C=>eL U fun K=>bE 1 U<|RK C<|WS fun _ D=>bE 1 U<|rS (VZ (bM.cells (bM.mk (bx.mk kA l.aS.length kC))) 5 U cq U U U)<|bE 1 U<|rS (LP (cG.cells b.mV) 0 U cq U U U)<|rS (CL (Q5 l.aS kA kC b.mV asm asm) (bw [1]) U)<|bE 3 U<|AL U ed fun L=>fR U c_ U<|bE 1 U<|RK D<|WS fun _ B=>rP 3 [] I ?_
 refine bZ (t:=16) U (bg fun A=>?_) (bf fun A=>?_)
 ·refine rP 11 [] I ?_
  refine RK B<|av<|Q1 hQ U U U ?_
  (refine cB ?_; rw [bH (fun h:j5 l b=>A ((FF htr).2 h.1))]; rfl)
 refine rP 6 [0,1] (mr 6 U (mc 1 U I)) ?_
 refine eB (xs:=[.tmp 22]) (cs:=[(vI b.kh)]) U dp ky U U U U (by simp [Value.cells]) U U fun E=>?_
 refine rS (CL (dK.eq (ik 0 ((l.aj.length:Int)-1) ([b.kh]) (some ⟨E,0,none⟩) 1 (by (simp; done))) cE) (ax (bu 0 U U (by simp [bR]) U)<|aN) U) ?_
 refine rP 3 [] I ?_
 refine RK B<|av<|Q1 hQ U U U ?_
 (refine cB ?_; refine congrArg Bool.not (gY.2 ⟨fun h=>⟨(FF htr).1 A,om,om⟩,fun h=>by have:=h.2; omega⟩))
theorem Ph (l:br) (kA:OA) (kC:Nat) (az:List RA) (cA:OA) (cC:Nat) (bA:OA) (bC:Nat) (hin:eo l az) (htr:dq l.aS=true):
 dK Tryz.prog 111 [(vA (ct.cells (jW l kA kC cA cC bA bC)))] [(rd kA l.aS.length 9 (l.aS.map au.cells)),(rd cA l.aj.length 2 (List.zipWith ay.cells l.aj az)),(dU (bo ay.gn l.aj az)),(rd bA l.aa.length 4 (l.aa.map bK.cells))] (vB (decide (∀ b∈l.aa,j5 l b))):=by
 have H:=hin.se
 have G:=hin.sb
 have E:=hin.nP
 have F:=hin.r9
 refine bG kr Tryz.func111 U U fun AA Q hQ hN=>?_
 try dsimp only
 refine WS fun _ B=>eL U fun A=>bE 1 U<|RK B<|WS fun _ C=>rP 2 [] (mc 0 U I) ?_
 refine rS (FU U) ?_
 refine rS (CL (Aa l.aa bA bC (Value.func (.func 113) [].toArray [(vP A)].toArray) (fun D=>(!(decide (j5 l D)))) (dU [(rd kA l.aS.length 9 (l.aS.map au.cells)),(rd cA l.aj.length 2 (List.zipWith ay.cells l.aj az)),(dU (bo ay.gn l.aj az)),(rd bA l.aa.length 4 (l.aa.map bK.cells)),(cx A 28 (ct.cells (jW l kA kC cA cC bA bC)))]) (by intro D _; exact k9 (fi:=[]) (ca:=[(vP A)]) (jY (Qn D l kA kC az cA cC bA bC A (by first|assumption|omega) (by first|assumption|omega)) (bw [0,1,2,3,4]))) asm) (gj 4 U U<|ax (jV (bw [1,2,3,4,0]))<|aN) U) ?_
 refine rP 2 [] I ?_
 refine RK C<|av<|Q1 hQ U U U ?_
 exact cB (by rw [Bool.eq_iff_iff,decide_eq_true_eq]; exact GN)
theorem Jr (l:br) (kA:OA) (kC:Nat) (az:List RA) (cA:OA) (cC:Nat) (bA:OA) (bC:Nat) (n:Int) (hin:eo l az) (htr:dq l.aS=true) (hbk: ∀ b∈l.aa,j5 l b) (hn:0≤n∧n<(l.aa.length:Int)):
 dK Tryz.prog 66 [(vA (ct.cells (jW l kA kC cA cC bA bC))),(vI n)] [(rd kA l.aS.length 9 (l.aS.map au.cells)),(rd cA l.aj.length 2 (List.zipWith ay.cells l.aj az)),(dU (bo ay.gn l.aj az)),(rd bA l.aa.length 4 (l.aa.map bK.cells))] (vI (lz l n.toNat)):=by
 have P:=hin.se
 have N:=hin.sb
 have L:=hin.nP
 have M:=hin.r9
 have O:=hin.side
 refine bG kr Tryz.func66 U U fun AA Q hQ hN=>?_
 try dsimp only
 refine WS fun _ E=>eL U fun R=>bE 1 U<|RK E<|WS fun _ F=>rP 3 [] (mc 0 U I) ?_
 obtain ⟨x,hx⟩:=aM l.aa ((n).toNat) om
 have J:=bO bK.cells hx
 refine rS (IA ((n).toNat) U (aG 4 U) v9 dc om om)<|rS (o1 (((n).toNat)*4) U (aG 4 U) (Nat.mul_pos om dc) fK U)<|rS (lS ((n).toNat) 0 (cG.cells x.mV) U cq (aG 4 U) J U dc U U)<|AL U Fk fun S=>fR U Oh U<|RK F<|WS fun _ G=>bE 1 U<|rS (LP (bM.cells (bM.mk (bx.mk kA l.aS.length kC))) 1 U cq U U U)<|e9 1 [] (mc 0 U I) U<|rS (CL (Q5 l.aS kA kC x.mV asm asm) (bw [2]) U)<|bE 3 U<|AL U ed fun T=>fR U c_ U<|bE 1 U<|RK G<|aq fun _ C=>WS fun _ H=>rP 2 [] I ?_
 refine RK H<|bV U (aU fun D=>?_) (aV fun D=>?_)
 ·refine WK C<|WS fun _ B=>rP 3 [] (mc 0 U I) ?_
  refine RK B<|av<|Q1 hQ U U U ?_
  (refine congrArg (Value.int .i64) ?_; rw [show n.toNat=0 by omega] at hx ⊢; rw [yT hx,(xh htr (hbk _ (List.mem_of_getElem? hx)).1).2])
 refine dM cy [14] [] [] [1,2,3,4,5,6] [] U U U U U<|eS U (FA 0 U fK U)<|eS U (LP (bM.cells (bM.mk (bx.mk kA l.aS.length kC))) 1 U cq U U U)<|eS U (FA 3 U fK U)<|eS U (L1 (vS bA l.aa.length bC) 1 U cq U U)<|eS U (MV U)<|eS U (BI U (xY ⟨om,om⟩)) ?_
 obtain ⟨y,hy⟩:=aM l.aa (((n-1)).toNat) om
 have K:=bO bK.cells hy
 refine eS U (IA (((n-1)).toNat) U (aG 5 U) v9 dc om om)<|eS U (o1 ((((n-1)).toNat)*4) U (aG 5 U) (Nat.mul_pos om dc) fK U)<|eS U (lS (((n-1)).toNat) 0 (cG.cells y.mV) U cq (aG 5 U) K U dc U U)<|eS U (LW 0 U cq U U)<|eS U (CL (Mn l.aS kA kC y.mV x.mV asm asm) (bw [2]) U)<|eS U (MV U)<|eS U (EX U)<|eS U (EX U)<|eC U<|cv U fun T9 AB=>fR U c_ U<|aK (AB _ _ (aP [1,2,3,4,5,6]) ?_)
 refine fP U<|KK C<|WS fun _ A=>rP 3 [] (mc 0 U I) ?_
 refine RK A<|av<|Q1 hQ U U U ?_
 (refine congrArg (Value.int .i64) ?_; rw [Cv om hx (by rw [show n.toNat-1=(n-1).toNat by omega]; exact hy),(lK htr ⟨(hbk _ (List.mem_of_getElem? hy)).1,(hbk _ (List.mem_of_getElem? hx)).1⟩).2])
theorem O3 (l:br) (kA:OA) (kC:Nat) (az:List RA) (cA:OA) (cC:Nat) (bA:OA) (bC:Nat) (hin:eo l az) (htr:dq l.aS=true) (hbk: ∀ b∈l.aa,j5 l b):
 dK Tryz.prog 114 [(vA (ct.cells (jW l kA kC cA cC bA bC)))] [(rd kA l.aS.length 9 (l.aS.map au.cells)),(rd cA l.aj.length 2 (List.zipWith ay.cells l.aj az)),(dU (bo ay.gn l.aj az)),(rd bA l.aa.length 4 (l.aa.map bK.cells))] (vB (decide (∀ i,i<l.aa.length→1≤lz l i))):=by
 have V:=hin.se
 have AA:=hin.sb
 have S:=hin.nP
 have T:=hin.r9
 refine bG kr Tryz.func114 U U fun X Q hQ hN=>?_
 try dsimp only
 refine WS fun _ J=>eL U fun W=>bE 1 U<|RK J<|aq fun _ K=>WS fun _ L=>rP 4 [] (mc 0 U I) ?_
 refine RK L<|aF ?_
 have A:(0≤l.aa.length)∧(∀ j,j<0→1≤lz l j):=by exact ⟨Nat.zero_le _,fun j hj=>absurd hj (Nat.not_lt_zero _)⟩
 refine bQ (ι:={z:Nat // (z≤l.aa.length)∧(∀ j,j<z→1≤lz l j)}) [1,6] [0,1,2,3,4] U U (fun z=>[(7,(vI (z.1:Int)))]) (fun z=>[]) (fun _=>rfl) (fun _=>rfl) (fun z=>l.aa.length-z.1) ⟨0,A⟩ (bk U) (aP [0,1,2,3,4]) ?_
 clear A
 rintro ⟨i,⟨P,B⟩⟩ J5 AB
 try dsimp only
 refine WS fun _ M=>rP 1 [] I ?_
 refine RK M<|aq fun _ N=>bV U (aU fun R=>?_) (aV fun R=>?_)
 ·refine bL<|ab<|ab<|aH<|KK K<|WS fun _ G=>rP 1 [] I ?_
  refine RK G<|av<|Q1 hQ U U U ?_
  exact cB (dI (fun j hj=>B j om)).symm
 refine WK N<|aq fun _ O=>aF<|WS fun _ D=>bE 2 U<|RK D<|WS fun _ E=>e9 2 [] (mc 0 U I) U<|rS (CL (Jr l kA kC az cA cC bA bC (i:Int) hin htr hbk om) (bw [1,2,3,4]) U)<|rP 1 [] I ?_
 refine RK E<|cw U (aV fun C=>?_) (aU fun C=>?_)
 ·refine WS fun _ F=>rP 1 [] I ?_
  refine RK F<|av<|Q1 hQ U U U ?_
  exact cB (bH (fun h=>by have:=h i om; simp only [Int.toNat_natCast] at C; omega)).symm
 refine cg<|aO<|KK O<|aw<|rP 2 [] I ?_
 refine aK ?_
 have H:(vI (((i+1):Nat):Int))=(vI ((i:Int)+1)):=by exact cI om
 refine a_ (AB ⟨(i+1),⟨om,fun j hj=>by rcases Nat.lt_or_ge j i with q|q; exact B j q; (obtain rfl:j=i:=by omega); simp only [Int.toNat_natCast] at C; omega⟩⟩ _ _ _ rfl os (dv.cons rfl<|dv.cons rfl<|bj rfl H<|dv.nil _) (aP [0,1,2,3,4]))
end
section
open Go.RowKit
theorem Qj:
 dK Tryz.prog 92 [] [] (vA ((g9.cells (g9.mk (Value.func (.func 106) [].toArray [].toArray)))++(g9.cells (g9.mk (Value.func (.func 107) [].toArray [].toArray)))++(g9.cells (g9.mk (Value.func (.func 111) [].toArray [].toArray)))++(g9.cells (g9.mk (Value.func (.func 114) [].toArray [].toArray))))):=by
 refine bG kr Tryz.func92 U U fun D Q hQ hN=>?_
 try dsimp only
 refine WS fun _ A=>AL U SI fun C=>RK A<|WS fun _ B=>rS (SX (bq (xs:=[(0,.func 106)]) (cs:=(g9.cells (g9.mk (Value.func (.func 106) [].toArray [].toArray)))) U U (bp Fv U)) U U)<|rS (SX (bq (xs:=[(0,.func 107)]) (cs:=(g9.cells (g9.mk (Value.func (.func 107) [].toArray [].toArray)))) U U (bp Fv U)) U U)<|rS (SX (bq (xs:=[(0,.func 111)]) (cs:=(g9.cells (g9.mk (Value.func (.func 111) [].toArray [].toArray)))) U U (bp Fv U)) U U)<|rS (SX (bq (xs:=[(0,.func 114)]) (cs:=(g9.cells (g9.mk (Value.func (.func 114) [].toArray [].toArray)))) U U (bp Fv U)) U U)<|rS (SX (bq (xs:=[(0,.tmp 1),(1,.tmp 2),(2,.tmp 3),(3,.tmp 4)]) (cs:=((g9.cells (g9.mk (Value.func (.func 106) [].toArray [].toArray)))++(g9.cells (g9.mk (Value.func (.func 107) [].toArray [].toArray)))++(g9.cells (g9.mk (Value.func (.func 111) [].toArray [].toArray)))++(g9.cells (g9.mk (Value.func (.func 114) [].toArray [].toArray))))) U U (bp RW U)) U U)<|fR U Sy U<|RK B<|av ?_
 exact C5 hQ [0] (mc 0 U I) U U
theorem xp (l:br) (kA:OA) (kC:Nat) (az:List RA) (cA:OA) (cC:Nat) (bA:OA) (bC:Nat) (hin:eo l az):
 dK Tryz.prog 64 [(vA (ct.cells (jW l kA kC cA cC bA bC)))] [(rd kA l.aS.length 9 (l.aS.map au.cells)),(rd cA l.aj.length 2 (List.zipWith ay.cells l.aj az)),(dU (bo ay.gn l.aj az)),(rd bA l.aa.length 4 (l.aa.map bK.cells))] (vI (dJ l)):=by
 have A1:=hin.se
 have Am:=hin.sb
 have AN:=hin.nP
 have AO:=hin.r9
 have A0:=hin.side
 refine bG kr Tryz.func64 U U fun w0 Q hQ hN=>?_
 try dsimp only
 refine WS fun _ m=>eL U fun b2=>bE 1 U<|RK m<|aq fun _ n=>WS fun _ o=>bE 1 U<|rS (LP (bM.cells (bM.mk (bx.mk kA l.aS.length kC))) 0 U cq U U U)<|rS (CL (AW l.aS kA kC asm asm) (bw [1]) U)<|bE 1 U<|RK o<|WS fun _ p=>rP 2 [] I ?_
 refine RK p<|cw U (bg fun B=>?_) (bf fun B=>?_)
 ·refine WS fun _ q=>rP 2 [] I ?_
  refine RK q<|av<|Q1 hQ U U U ?_
  (refine cI ?_; rw [(y7 B).2,zu (y7 B).1])
 refine WK n<|aq fun _ s=>WS fun _ t=>?_
 have A:=D7 B
 refine rS (CL Qj (aN) U)<|bE 1 U<|RK t<|aF<|pt 5<|js fun R9 u=>WS fun _ C=>rS (SX (eu (r:= .bool true) U U U m0) U U)<|RK C<|aq fun _ D=>aT U<|WK D<|aq fun _ E=>aF<|WS fun _ F=>rS (SX (tR (vs:=(g9.cells (g9.mk (Value.func (.func 106) [].toArray [].toArray)))) 0 U U U Fj cq U dc U) U U)<|AL U ED fun x=>fR U EZ U<|RK F<|WS fun _ G=>e9 3 [0,1] (mc 0 U (mc 1 U I)) U<|rS (CL (Po l kA kC az cA cC bA bC hin) (bw [2,3,4,5]) U)<|rP 1 [] I ?_
 refine RK G<|cw U (bg fun g=>?_) (bf fun g=>?_)
 ·refine WS fun _ H=>rP 1 [] I ?_
  refine RK H<|av<|Q1 hQ U U U ?_
  exact cI (q6 A fun h=>absurd h.head asm).symm
 refine cg<|aO<|KK E<|aw<|rS (SX (eu (r:= .int .i64 1) U U U (mL ⟨dc,dc⟩)) U U)<|bE 1 U<|RK u<|js fun R18 d=>WS fun _ AB=>rS (SX (eu (r:= .bool true) U U U m0) U U)<|RK AB<|aq fun _ J=>aT U<|WK J<|aq fun _ K=>aF<|WS fun _ L=>rS (SX (tR (vs:=(g9.cells (g9.mk (Value.func (.func 107) [].toArray [].toArray)))) 1 U U U Fj cq U dc U) U U)<|AL U ED fun y=>fR U EZ U<|RK L<|WS fun _ M=>e9 3 [0,1] (mc 0 U (mc 2 U I)) U<|rS (CL (Pf l kA kC az cA cC bA bC hin) (bw [3,4,5,6]) U)<|rP 1 [] I ?_
 refine RK M<|cw U (bg fun i=>?_) (bf fun i=>?_)
 ·refine WS fun _ N=>rP 1 [] I ?_
  refine RK N<|av<|Q1 hQ U U U ?_
  exact cI (q6 A fun h=>absurd h.clock asm).symm
 refine cg<|aO<|KK K<|aw<|rS (SX (eu (r:= .int .i64 2) U U U (mL ⟨dc,dc⟩)) U U)<|bE 1 U<|RK d<|js fun R27 e=>WS fun _ O=>rS (SX (eu (r:= .bool true) U U U m0) U U)<|RK O<|aq fun _ P=>aT U<|WK P<|aq fun _ R=>aF<|WS fun _ S=>rS (SX (tR (vs:=(g9.cells (g9.mk (Value.func (.func 111) [].toArray [].toArray)))) 2 U U U Fj cq U dc U) U U)<|AL U ED fun z=>fR U EZ U<|RK S<|WS fun _ T=>e9 3 [0,1] (mc 0 U (mc 3 U I)) U<|rS (CL (Ph l kA kC az cA cC bA bC hin asm) (bw [4,5,6,7]) U)<|rP 1 [] I ?_
 refine RK T<|cw U (bg fun j=>?_) (bf fun j=>?_)
 ·refine WS fun _ AA=>rP 1 [] I ?_
  refine RK AA<|av<|Q1 hQ U U U ?_
  exact cI (q6 A fun h=>absurd h.tW asm).symm
 refine cg<|aO<|KK R<|aw<|rS (SX (eu (r:= .int .i64 3) U U U (mL ⟨dc,dc⟩)) U U)<|bE 1 U<|RK e<|js fun R36 f=>WS fun _ V=>rS (SX (eu (r:= .bool true) U U U m0) U U)<|RK V<|aq fun _ W=>aT U<|WK W<|aq fun _ X=>aF<|WS fun _ Y=>rS (SX (tR (vs:=(g9.cells (g9.mk (Value.func (.func 114) [].toArray [].toArray)))) 3 U U U Fj cq U dc U) U U)<|AL U ED fun AC=>fR U EZ U<|RK Y<|WS fun _ Z=>e9 3 [0,1] (mc 0 U (mc 4 U I)) U<|rS (CL (O3 l kA kC az cA cC bA bC hin asm asm) (bw [5,6,7,8]) U)<|rP 1 [] I ?_
 refine RK Z<|cw U (bg fun k=>?_) (bf fun k=>?_)
 ·refine WS fun _ a=>rP 1 [] I ?_
  refine RK a<|av<|Q1 hQ U U U ?_
  exact cI (q6 A fun h=>absurd h.PA asm).symm
 refine cg<|aO<|KK X<|aw<|rS (SX (eu (r:= .int .i64 4) U U U (mL ⟨dc,dc⟩)) U U)<|bE 1 U<|RK f<|js fun R45 w=>WS fun _ b=>rS (SX (eu (r:= .bool false) U U U m0) U U)<|RK b<|aq fun _ v=>cj U<|bL<|ab<|ab<|aH<|KK s<|WS fun _ c=>rP 1 [] I ?_
 refine RK c<|av<|Q1 hQ U U U ?_
 exact cI (xX A (yM asm asm asm asm)).symm
theorem Bo (lo hi:Int) (f:Value) (p:Int→Bool) (X:aB) (r:Int) (hf: ∀ x0,0≤x0∧x0<hi→DD Tryz.prog f [.int .i64 x0] [X] (.bool (p x0))) (hb:0≤lo∧lo≤r∧r≤hi∧hi≤100000000) (hno: ∀ x,lo≤x→x<r→p x=false) (hyes: ∀ x,r≤x→x<hi→p x=true):
 dK Tryz.prog 95 [(vI lo),(vI hi),f] [X] (vI r):=by
 refine bG kr Tryz.func95 U U fun N Q hQ hN=>?_
 try dsimp only
 refine WS fun _ F=>rP 1 [] I ?_
 refine RK F<|aq fun _ G=>aF ?_
 have A:(lo≤lo∧lo≤r)∧(r≤hi∧hi≤hi):=by omega
 refine bQ (ι:={z:Int×Int // (lo≤z.1∧z.1≤r)∧(r≤z.2∧z.2≤hi)}) [2] [0] U U (fun z=>[(0,(vI z.1.1)),(1,(vI z.1.2))]) (fun z=>[]) (fun _=>rfl) (fun _=>rfl) (fun z=>(z.1.2-z.1.1).toNat) ⟨(lo,hi),A⟩ (bk U) (aP [0]) ?_
 clear A
 rintro ⟨⟨a,b⟩,⟨B,C⟩⟩ J3 D
 try dsimp only at B C
 try dsimp only
 refine aq fun _ H=>WS fun _ AA=>rP 3 [] I ?_
 refine RK AA<|bV U (aU fun M=>?_) (aV fun M=>?_)
 ·refine bL<|ab<|ab<|aH<|KK G<|WS fun _ L=>rP 2 [] I ?_
  refine RK L<|av<|Q1 hQ U U U ?_
  exact cI om
 refine WK H<|aF<|WS fun _ J=>bE 4 U<|rS (BI U (uk om om om))<|bE 2 U<|RK J<|WS fun _ K=>rP 2 [] I ?_
 refine rS (SX (qc U U U (hf (a+((b-a)/2)) om) (bw [0])) U U)<|RK K<|cw U (fun hp=>?_) (fun hp=>?_)
 ·refine aw<|rP 2 [] I ?_
  refine aK<|aO ?_
  refine a_ (D ⟨(a,(a+((b-a)/2))),(by dsimp only; rcases Int.lt_or_le (a+(b-a)/2) r with q|q; (have E:=hno _ om q; (rw [E] at hp; cases hp)); (have E:=hyes _ q om; (refine ⟨⟨om,om⟩,om,om⟩)))⟩ _ _ _ rfl (by simp only []; omega) (bk rfl) (aP [0]))
 refine aw<|rP 3 [] I ?_
 refine aK<|aO ?_
 refine a_ (D ⟨(((a+((b-a)/2))+1),b),(by dsimp only; rcases Int.lt_or_le (a+(b-a)/2) r with q|q; (have E:=hno _ om q; (refine ⟨⟨om,om⟩,om,om⟩)); (have E:=hyes _ q om; (rw [E] at hp; cases hp)))⟩ _ _ _ rfl (by simp only []; omega) (bk rfl) (aP [0]))
theorem JV (u:Int) (c:ay) (sA:OA) (sC g1:Nat) (s:aI) (g2:Nat) (hc:fr c) (hu:0≤u∧u≤90000000):
 dK Tryz.prog 96 [(vI u),(vP g1),(vP g2)] [(rd sA c.bI.length 3 (c.bI.map cQ.cells)),(cx g1 73 (dy.cells (dy.mk c.dF (bx.mk sA c.bI.length sC)))),(cx g2 78 (aI.cells s))] (vB (decide (s.Read≤u+(iQ c u).Hi))):=by
 have C:=qH hc hu
 refine bG kr Tryz.func96 U U fun D Q hQ hN=>?_
 try dsimp only
 refine WS fun _ A=>bE 1 U<|RK A<|aq fun _ B=>dA cy 10 kr<|lR 3 [] (mr 1 U I) U<|dS (CL (Fc c sA sC u hc hu) (bw [0]) U)<|dS (SX (rI (v:=(vI ((iQ c u).Hi))) U U fK Kh U) U U)<|dP 5 [] (mr 2 U I) ?_
 refine cM<|RK B<|av ?_
 exact Q1 hQ U U U U
theorem Ku (u:Int) (c:ay) (sA:OA) (sC g1:Nat) (s:aI) (g2:Nat) (hc:fr c) (hu:0≤u∧u≤90000000):
 dK Tryz.prog 98 [(vI u),(vP g1),(vP g2)] [(rd sA c.bI.length 3 (c.bI.map cQ.cells)),(cx g1 73 (dy.cells (dy.mk c.dF (bx.mk sA c.bI.length sC)))),(cx g2 78 (aI.cells s))] (vB (decide (s.Read<u+(iQ c u).Lo))):=by
 have C:=qH hc hu
 refine bG kr Tryz.func98 U U fun D Q hQ hN=>?_
 try dsimp only
 refine WS fun _ A=>bE 1 U<|RK A<|aq fun _ B=>dA cy 10 kr<|lR 3 [] (mr 1 U I) U<|dS (CL (Fc c sA sC u hc hu) (bw [0]) U)<|dS (SX (rI (v:=(vI ((iQ c u).Lo))) U U fK H7 U) U U)<|dP 5 [] (mr 2 U I) ?_
 refine cM<|RK B<|av ?_
 exact Q1 hQ U U U U
theorem zX (l:br) (kA:OA) (kC:Nat) (az:List RA) (cA:OA) (cC:Nat) (bA:OA) (bC:Nat) (s:aI) (hin:eo l az) (hok:lF l) (hs:(0≤s.fI∧s.fI≤(l.aa.length:Int)-1)∧0≤s.Read∧s.Read≤86400000):
 dK Tryz.prog 67 [(vA (ct.cells (jW l kA kC cA cC bA bC))),(vA (aI.cells s))] [(rd kA l.aS.length 9 (l.aS.map au.cells)),(rd cA l.aj.length 2 (List.zipWith ay.cells l.aj az)),(dU (bo ay.gn l.aj az)),(rd bA l.aa.length 4 (l.aa.map bK.cells))] (vA (ai.cells (cS l s))):=by
 have V:=hin.se
 have S:=hin.sb
 have P:=hin.nP
 have R:=hin.r9
 refine bG kr Tryz.func67 U U fun Z Q hQ hN=>?_
 try dsimp only
 refine WS fun _ AB=>eL U fun X=>eL U fun D=>AL U ed fun Y=>RK AB<|aq fun _ J=>dM cy [11,12] [] [] [0,1,2,3,4,5,6] [] U U U U U<|eS U (FA 2 U fK U)<|eS U (L1 (vS cA l.aj.length cC) 2 U cq U U)<|eS U (FA 3 U fK U)<|eS U (L1 (vS bA l.aa.length bC) 2 U cq U U)<|eS U (FA 0 U fK U)<|eS U (L1 (vI s.fI) 1 U cq U U) ?_
 obtain ⟨y,hy⟩:=aM l.aa ((s.fI).toNat) om
 have O:=bO bK.cells hy
 refine eS U (IA ((s.fI).toNat) U (aG 6 U) v9 dc om om)<|eS U (o1 ((((s.fI).toNat)*4)+3) U (aG 6 U) (Nat.mul_pos om dc) fK U)<|eS U (gQ ((s.fI).toNat) 3 (vI y.kh) U cq (aG 6 U) O U dc U) ?_
 have W:=(hok.tW _ (aQ hy)).2
 obtain ⟨x,hx⟩:=aM l.aj ((y.kh).toNat) om
 obtain ⟨xa,F⟩:=aM az ((y.kh).toNat) om
 have N:(List.zipWith ay.cells l.aj az)[(y.kh).toNat]? =some (ay.cells x xa):=dx hx F
 refine eS U (IA ((y.kh).toNat) U (aG 4 U) Ae dc om om)<|eS U (lS ((y.kh).toNat) 0 (dy.cells (dy.mk x.dF (bx.mk xa.1 x.bI.length xa.2))) U cq (aG 4 U) N U dc U U)<|eC U<|cv U fun T6 L=>AL U O2 fun E=>aK (L _ _ (aP [1,2,3,4,5,6,7]) ?_)
 refine cv U fun T8 M=>fR U Rh U<|aK (M _ _ (aP [1,2,3,4,5,6,7]) ?_)
 refine fP U<|KK J<|WS fun _ K=>?_
 have A:=hok.clock _ (aQ hx)
 have AA:=iO (p:=gJ x s.Read) (n:=86400001)
 have T:=iO (p:=gH x s.Read) (n:=86400001)
 refine rS (FU U) ?_
 refine rS (CL (Bo 0 86400001 (Value.func (.func 96) [].toArray [(vP E),(vP D)].toArray) (fun B=>(decide (s.Read≤B+(iQ x B).Hi))) (dU [(rd xa.1 x.bI.length 3 (x.bI.map cQ.cells)),(cx E 73 (dy.cells (dy.mk x.dF (bx.mk xa.1 x.bI.length xa.2)))),(cx D 78 (aI.cells s))]) (fQ (gJ x s.Read) 86400001) (by intro B _; exact k9 (fi:=[]) (ca:=[(vP E),(vP D)]) (jY (JV B x xa.1 xa.2 E s D (by first|assumption|omega) (by first|assumption|omega)) (PV 0 1 2 U U U U U U))) om (by intro z G hz; exact (lh A G om).1 hz) (by intro z hz H; exact (lh A om H).2.1 hz)) (ax (jV (ax (show iH _ (rd xa.1 x.bI.length 3 (x.bI.map cQ.cells)).holds from (cY 6 U (bP hx F (by simp [ay.gn]))))<|gj 0 U U<|gj 2 U U<|aN))<|aN) U) ?_
 refine rS (FU U) ?_
 refine rS (CL (Bo 0 86400001 (Value.func (.func 98) [].toArray [(vP E),(vP D)].toArray) (fun C=>(decide (s.Read<C+(iQ x C).Lo))) (dU [(rd xa.1 x.bI.length 3 (x.bI.map cQ.cells)),(cx E 73 (dy.cells (dy.mk x.dF (bx.mk xa.1 x.bI.length xa.2)))),(cx D 78 (aI.cells s))]) (fQ (gH x s.Read) 86400001) (by intro C _; exact k9 (fi:=[]) (ca:=[(vP E),(vP D)]) (jY (Ku C x xa.1 xa.2 E s D (by first|assumption|omega) (by first|assumption|omega)) (PV 0 1 2 U U U U U U))) om (by intro z G hz; exact (lh A G om).2.2.1 hz) (by intro z hz H; exact (lh A om H).2.2.2 hz)) (ax (jV (ax (show iH _ (rd xa.1 x.bI.length 3 (x.bI.map cQ.cells)).holds from (cY 6 U (bP hx F (by simp [ay.gn]))))<|gj 0 U U<|gj 2 U U<|aN))<|aN) U) ?_
 refine rP 1 [] I ?_
 refine rS (SX (bq (xs:=[(0,.tmp 18),(1,.tmp 21)]) (cs:=(ai.cells (ai.mk (fQ (gJ x s.Read) 86400001) ((fQ (gH x s.Read) 86400001)-1)))) U U (bp g4 U)) U U)<|qy U c_ U<|RK K<|av<|C5 hQ [0] (mc 1 U I) U ?_
 unfold cS qQ; rw [wK hy hx]
end
section
open Go.RowKit
theorem sU (ln:ct) (ri:cN) (e:List Int) (tms:List TM) (e_A:OA) (e_C:Nat) (tb:List Nat) (t_A:OA) (t_C:Nat) (fA:OA) (fN fC:Nat) (bA:OA) (bN bC:Nat) (gw b:Nat) (g1 g2:Nat) (hb:b<tms.length) (htb:tb.length=tms.length):
 MF Tryz.prog 99 [] [(vP g1),(vP g2)] [(rd e_A e.length 1 (e.map iC)),(rd t_A tms.length 1 (List.zipWith gD tms tb)),(dU (bo qf tms tb)),(cx gw 150 (ck.cells (ck.mk ln ri (bx.mk e_A e.length e_C) (bx.mk t_A tms.length t_C) (bx.mk fA fN fC) (bx.mk bA bN bC)))),(cx g1 108 [(vP gw)]),(cx g2 3 [(vI (b:Int))])] ([]:List (Int×ai)) (fun ys x ys'=> ∃ o,o∈iT (cV ln ri e tms) b∧x=NK o∧ys'=ys++[o]) (fun ys=> ∀ o∈iT (cV ln ri e tms) b,o∈ys):=by
 refine EV kr Tryz.func99 U U fun l J Z A0 d Q hY V AA hQ hN=>?_
 try dsimp only
 refine aq fun _ X=>aq fun _ R=>dA cy 12 kr<|lR 2 [] (mr 5 U I) U<|dS (SX (cT U U) U U)<|lR 4 [0,1] (mr 4 U (mr 5 U I)) U<|dS (SX (cT U U) U U)<|dP 3 [] (mr 4 U I) ?_
 refine dS (SX (bq (xs:=[(0,.tmp 11),(1,.tmp 16)]) (cs:=(ai.cells (ai.mk ri.Start ri.gf))) U U (bp g4 U)) U U)<|cM<|wH (k:=([]:List (Int×ai))) (k':=(([]:List (Int×ai))++[((-1),(ai.mk ri.Start ri.gf))])) 0 (by first|exact hsz|exact Nat.le_refl _) hY V AA U U U (by exact ⟨(-1,⟨ri.Start,ri.gf⟩),cH ..,U,U⟩) U U (fun B3 N M=>?_) (fun B3 N M=>?_)
 rotate_left 1
 ·refine rP 1 [] I ?_
  refine RK R<|aT U<|av ?_
  refine hQ _ _ _ (jX (vs:=[]) trivial fun w hs=>E0 0 U N M hs)
 refine bE 1 U<|RK R<|cj U<|WK X<|aq fun _ Y=>dA cy 7 kr<|lR 1 [] (mr 5 U I) U<|dS (SX (cT U U) U U)<|dP 3 [0,1] (mr 4 U (mr 6 U I)) ?_
 obtain ⟨x,hx⟩:=aM tms b om
 obtain ⟨xa,L⟩:=aM tb b om
 have a:(List.zipWith gD tms tb)[b]? =some (gD x xa):=dx hx L
 refine dS (IA b U (aG 2 U) xr dc om om)<|dS (gQ b 0 (Value.map (some xa)) U cq (aG 2 U) a U dc U)<|cM<|pL (kV:=iV) (m:=cU jZ x) 3 U U sk U ⟨⟨(kj iV xa (cU jZ x)),(bP hx L (by simp [qf])),U⟩,fun h=>h⟩ (show iH _ (kj iV xa (cU jZ x)).holds from cY 3 U (bP hx L (by simp [qf]))) U fun j=>?_
 try dsimp only
 refine RK Y<|aF ?_
 have G:(∀ o∈x,o∈x∨o∈(([]:List (Int×ai))++[((-1),(ai.mk ri.Start ri.gf))]))∧(∀ o∈x,o∈x)∧(J (([]:List (Int×ai))++[((-1),(ai.mk ri.Start ri.gf))]) B3)∧(Fo A0 d B3)∧((-1,(⟨ri.Start,ri.gf⟩:ai))∈(([]:List (Int×ai))++[((-1),(ai.mk ri.Start ri.gf))])):=by exact ⟨fun o ho=> .inl ho,fun o ho=>ho,asm,asm,sm⟩
 refine bQ (ι:={z:TM×(List (Int×ai))×aB // (∀ o∈x,o∈z.1∨o∈z.2.1)∧(∀ o∈z.1,o∈x)∧(J z.2.1 z.2.2)∧(Fo A0 d z.2.2)∧((-1,(⟨ri.Start,ri.gf⟩:ai))∈z.2.1)}) [0,1,2,27] [2,3,4,6,7] U U (fun z=>[]) (fun z=>[(C4 iV j xa (cU jZ x) (cU jZ z.1.1) none),z.1.2.2]) (fun _=>rfl) (fun _=>rfl) (fun z=>z.1.1.length) ⟨(x,(([]:List (Int×ai))++[((-1),(ai.mk ri.Start ri.gf))]),B3),G⟩ (dv.nil _) (aP [2,3,4,6,7,0,1]) ?_
 clear G
 rintro ⟨⟨left,ys,A⟩,⟨B,C,D,E,F⟩⟩ J8 W
 try dsimp only at B C D E F
 try dsimp only
 refine WS fun _ S=>ov (iK sr).inj (f:=jZ) 5 U U U U (fun T=>?_) (fun i z hm hn=>?_)
 ·refine rP 1 [] I ?_
  refine RK S<|aq fun _ c=>cj U<|bL<|ab<|ab<|aH ?_
  refine hN _ _ _ (jX (vs:=[]) trivial fun w hs=>Pt 6 U (by exact Gq hx B T F) D E hs)
 try dsimp only
 refine bE 1 U<|RK S<|aq fun _ O=>aT U<|WK O<|aF<|WS fun _ P=>rS (SX (oJ 5 U U U) U U)<|bE 2 U<|AL U ed fun g=>bE 1 U<|fR U c_ U<|RK P<|WS fun _ K=>rP 3 [] (mc 0 U I) ?_
 refine wH (k:=ys) (k':=(ys++[(i,z)])) 7 (by first|exact hsz|exact Nat.le_refl _) hY D E U U U (by exact ⟨(i,z),(yk hx).2 (.inr (C _ hm)),U,U⟩) U U (fun B15 AB H=>?_) (fun B15 AB H=>?_)
 rotate_left 1
 ·refine rP 1 [] I ?_
  refine RK K<|aT U<|av ?_
  refine hQ _ _ _ (jX (vs:=[]) trivial fun w hs=>E0 7 U AB H hs)
 refine rP 1 [] I ?_
 refine RK K<|cj U<|cg<|aO<|q9 6 U py U ?_
 refine a_ (W ⟨((fz left i),(ys++[(i,z)]),B15),⟨Hu hn hm B,mH C,asm,asm,by simp [F]⟩⟩ _ _ _ U (mO hm) (bk U) (aP [1,2,3,4,5,6,7]))
theorem vd (gw b:Nat):
 p9 Tryz.prog 71 [(vP gw),(vI (b:Int))] [] (fun (x:Nat×Nat)=>(Value.func (.func 99) [].toArray [(Value.pointer (some ⟨x.1,0,none⟩)),(Value.pointer (some ⟨x.2,0,none⟩))].toArray)) (fun (x:Nat×Nat)=>True) (fun (x:Nat×Nat)=>[(cx x.1 108 [(vP gw)]),(cx x.2 3 [(vI (b:Int))])]):=by
 refine fF kr Tryz.func71 U U fun E Q hQ hN=>?_
 try dsimp only
 refine WS fun _ A=>wq U U fun C=>wq U U fun D=>bE 1 U<|RK A<|WS fun _ B=>rS (FU U)<|rP 1 [] I ?_
 refine RK B<|av<|LX hQ (C,D) [1,0] [] I U U U U ?_
 trivial
theorem Jn (gw b:Nat):
 p9 Tryz.prog 45 [(vP gw),(vI (b:Int))] [] (fun (x:Nat×Nat)=>(Value.func (.func 70) [].toArray [(Value.pointer (some ⟨x.1,0,none⟩)),(Value.pointer (some ⟨x.2,0,none⟩))].toArray)) (fun (x:Nat×Nat)=>True) (fun (x:Nat×Nat)=>[(cx x.1 108 [(vP gw)]),(cx x.2 3 [(vI (b:Int))])]):=by
 refine fF kr Tryz.func45 U U fun E Q hQ hN=>?_
 try dsimp only
 refine WS fun _ A=>wq U U fun C=>wq U U fun D=>bE 1 U<|RK A<|WS fun _ B=>rS (FU U)<|rP 1 [] I ?_
 refine RK B<|av<|LX hQ (C,D) [1,0] [] I U U U U ?_
 trivial
end
section
open Go.RowKit
theorem Cc (ln:ct) (ri:cN) (e:List Int) (tms:List TM) (e_A:OA) (e_C:Nat) (tb:List Nat) (t_A:OA) (t_C gw:Nat) (hw:Hy (cV ln ri e tms)) (hn:ln.aa.n=e.length) (htb:tb.length=tms.length):
 Lj Tryz.prog 68 [(vP gw)] [(rd e_A e.length 1 (e.map iC)),(rd t_A tms.length 1 (List.zipWith gD tms tb)),(dU (bo qf tms tb))] (cx gw 150 (ck.cells (ck.mk ln ri (bx.mk e_A e.length e_C) (bx.mk t_A tms.length t_C) (bx.mk none 0 0) (bx.mk none 0 0)))) (fun (x:(List FM)×(List Nat)×(OA)×Nat×(List FM)×(List Nat)×(OA)×Nat)=>(vT [])) (fun (x:(List FM)×(List Nat)×(OA)×Nat×(List FM)×(List Nat)×(OA)×Nat)=>vW (cV ln ri e tms) x.1∧sL (cV ln ri e tms) x.2.2.2.2.1∧x.2.1.length=x.1.length∧x.2.2.2.2.2.1.length=x.2.2.2.2.1.length) (fun (x:(List FM)×(List Nat)×(OA)×Nat×(List FM)×(List Nat)×(OA)×Nat)=>(bU [(cx gw 150 (ck.cells (ck.mk ln ri (bx.mk e_A e.length e_C) (bx.mk t_A tms.length t_C) (bx.mk x.2.2.1 x.1.length x.2.2.2.1) (bx.mk x.2.2.2.2.2.2.1 x.2.2.2.2.1.length x.2.2.2.2.2.2.2)))),(own x.2.2.1 x.2.2.2.1 156 1 (List.zipWith gD x.1 x.2.1)),(bU (bo m6 x.1 x.2.1)),(own x.2.2.2.2.2.2.1 x.2.2.2.2.2.2.2 156 1 (List.zipWith gD x.2.2.2.2.1 x.2.2.2.2.2.1)),(bU (bo m6 x.2.2.2.2.1 x.2.2.2.2.2.1))])):=by
 have Wc:e.length≤6:=hw.n
 have Wd:tms.length=e.length:=hw.times
 refine uW kr Tryz.func68 U U fun w0 Q hQ hN=>?_
 try dsimp only
 refine WS fun _ Do=>wq U U fun W=>RK Do<|WS fun _ Eu=>e9 1 [] (mc 0 U I) U<|rS (SX (cT U U) U U)<|rP 5 [] (mc 1 U I) ?_
 refine RK Eu ?_
 refine kS (ι:={z:(OA)×(OA) // True}) [0,1,2] [0,2,3,4] U U (fun z=>[]) (fun z=>[(own z.1.1 (ln.aa.n+1) 156 1 (List.map oC (List.replicate (ln.aa.n+1) (none:Option Nat)))),(own z.1.2 (ln.aa.n+1) 156 1 (List.map oC (List.replicate (ln.aa.n+1) (none:Option Nat)))),(cx gw 150 (ck.cells (ck.mk ln ri (bx.mk e_A e.length e_C) (bx.mk t_A tms.length t_C) (bx.mk z.1.1 (ln.aa.n+1) (ln.aa.n+1)) (bx.mk z.1.2 (ln.aa.n+1) (ln.aa.n+1)))))]) (fun _=>rfl) (fun _=>rfl) ?_ fun K4 FG=>?_
 ·rintro ⟨⟨fA,bA⟩,_⟩
  try dsimp only
  refine Ct 6 U U fun wz Sz hz=>?_
  have WZ:(List.replicate (ln.aa.n+1) (none:Option Nat)).length=(ln.aa.n+1):=List.length_replicate
  try dsimp only
  refine kS (ι:={z:Nat // True}) [0,1,2] [0,1,2,3,4,6] U U (fun z=>[]) (fun z=>[(bU (bo m6 [[((aL.mk 0 0),ri.Start)]] [z.1])),(own fA (ln.aa.n+1) 156 1 (List.map oC (dE [z.1] (ln.aa.n+1))))]) (fun _=>rfl) (fun _=>rfl) ?_ fun K5 VO=>?_
  ·rintro ⟨ga,_⟩
   try dsimp only
   refine aq fun _ FS=>WS fun _ Fd=>rP 2 [] I ?_
   refine RK Fd<|aF<|od ?_
   have C:(0≤ln.aa.n)∧(([[((aL.mk 0 0),ri.Start)]]).length=0+1)∧(([ga]).length=0+1)∧(qo (cV ln ri e tms) ([[((aL.mk 0 0),ri.Start)]])):=by exact ⟨Nat.zero_le _,rfl,rfl,qo.first⟩
   refine wD (ι:={z:Nat×(List FM)×(List Nat)×(List Nat) // (z.1≤ln.aa.n)∧(z.2.1.length=z.1+1)∧(z.2.2.1.length=z.1+1)∧(qo (cV ln ri e tms) z.2.1)}) (fun z=>z.1.2.2.2.map jT) (fun z=>[(0,(vP gw)),(1,(vP W)),(2,(vI (ln.aa.n:Int))),(52,(vI (ln.aa.n:Int))),(53,(vI (z.1.1:Int)))]) (fun z=>[(bU (z.1.2.2.2.map l6)),(cx gw 150 (ck.cells (ck.mk ln ri (bx.mk e_A e.length e_C) (bx.mk t_A tms.length t_C) (bx.mk fA (ln.aa.n+1) (ln.aa.n+1)) (bx.mk bA (ln.aa.n+1) (ln.aa.n+1))))).ro,(cx W 108 [(vP gw)]),(rd e_A e.length 1 (e.map iC)).ro,(rd t_A tms.length 1 (List.zipWith gD tms tb)).ro,(dU (bo qf tms tb)).ro,(own bA (ln.aa.n+1) 156 1 (List.map oC (List.replicate (ln.aa.n+1) (none:Option Nat)))),(bU (bo m6 z.1.2.1 z.1.2.2.1)),(own fA (ln.aa.n+1) 156 1 (List.map oC (dE z.1.2.2.1 (ln.aa.n+1))))]) (fun z=>ln.aa.n-z.1.1) ⟨(0,[[((aL.mk 0 0),ri.Start)]],[ga],([]:List Nat)),C⟩ U (bk U) (aP [0,1,2,3,4,5,6,7,8]) ?_
   clear C
   rintro ⟨⟨b,fs,fb,T4⟩,⟨Ig,A4,In,M⟩⟩ J8 VJ
   try dsimp only at Ig A4 In M
   try dsimp only
   have Wa:(dE fb (ln.aa.n+1)).length=(ln.aa.n+1):=nu om
   refine WS fun _ Fn=>rP 1 [] I ?_
   refine RK Fn<|aq fun _ AN=>cw U (aV fun UV=>?_) (aU fun UV=>?_)
   ·refine WK AN<|aq fun _ LA=>aF<|WS fun _ LE=>rP 1 [] I ?_
    refine AL U ky fun s=>MD U AR U U<|RK LE<|aq fun _ LT=>dM cy [6,8] [6] [0] [0,1,2,3,4,5,6,7,8] [0,1,2,3,4,5,6,7,8,9] U U U U U<|eS U (Ef 3 U cq U)<|eS U (SX (cT U U) U U)<|eS U (FA 12 U fK U)<|eS U (Kv (vS fA (ln.aa.n+1) (ln.aa.n+1)) 2 U cq U U)<|eS U (Ef 0 U cq U)<|eS U (BI U (mL ⟨om,om⟩)) ?_
    obtain ⟨WE,TQ⟩:=aM (dE fb (ln.aa.n+1)) (b+1) om
    have hx17m:(List.map oC (dE fb (ln.aa.n+1)))[(b+1)]? =some (oC WE):=by rw [fX,TQ]; rfl
    refine fS U (IA (b+1) U (ak (n:=(ln.aa.n+1)) 9 U sq) ou dc om om) ?_
    refine eC U<|jF U fun T18 P1=>mG (kV:=eD) U U fun B=>?_
    try dsimp only
    refine aK (P1 _ _ (aP [1,2,3,4,5,6,7,8,9]) (aP [1,2,3,4,5,6,7,8,9,10]) ?_)
    refine cv U fun T20 P2=>?_
    have R5:((dE fb (ln.aa.n+1)).set (b+1) (some B))=(dE (fb++[B]) (ln.aa.n+1)):=by exact rG om om
    refine gR (k:=(b+1)) (o:=0) (vs:=[(Value.map (some B))]) (es':=(List.map oC (dE (fb++[B]) (ln.aa.n+1)))) (C':=[_,_,_,_,_,_,_,_,_,_,(own fA (ln.aa.n+1) 156 1 (List.map oC (dE (fb++[B]) (ln.aa.n+1))))]) 10 U U U JF U U U U hx17m U dc (by exact (List.map_set (f:=oC) (l:=(dE fb (ln.aa.n+1))) (i:=(b+1)) (a:=(some B))).symm.trans (congrArg _ R5)) U<|aK (P2 _ _ (aP [1,2,3,4,5,6,7,8,9]) ?_)
    refine fP U<|KK LT<|aq fun _ La=>?_
    have V6:(dE (fb++[B]) (ln.aa.n+1)).length=(ln.aa.n+1):=nu (by simp; omega)
    obtain ⟨mb,N⟩:=aM fs b om
    obtain ⟨ga,Z⟩:=aM fb b om
    refine yE 9 N Z U U U ?_
    try dsimp only
    refine dA cy 7 kr<|lR 1 [] (mc 6 U I) U<|dS (SX (cT U U) U U)<|dP 3 [0,1] (mr 5 U (mc 3 U I)) ?_
    have R9:(List.map oC (dE (fb++[B]) (ln.aa.n+1)))[b]? =some (oC (some ga)):=qp (mS (KW Z))
    refine dS (IA b U (ak (n:=(ln.aa.n+1)) 11 U sq) ou dc om om) ?_
    refine dS (gQ b 0 (Value.map (some ga)) U cq (ak (n:=(dE (fb++[B]) (ln.aa.n+1)).length) 11 U sm) R9 U dc U)<|cM<|yO 0 U U o4 U U fun B3=>?_
    try dsimp only
    refine RK La<|aF ?_
    have C:(∀ p∈mb,p∈mb)∧(xg (cV ln ri e tms) b ([]:FM))∧(ke (cV ln ri e tms) b mb ([]:FM) mb):=by exact ⟨fun p hp=>hp,xg.start,ke.start⟩
    refine wD (ι:={z:FM×FM×(List Nat) // (∀ p∈z.1,p∈mb)∧(xg (cV ln ri e tms) b z.2.1)∧(ke (cV ln ri e tms) b mb z.2.1 z.1)}) (fun z=>z.1.2.2.map jT) (fun z=>[(0,(vP gw)),(1,(vP W)),(2,(vI (ln.aa.n:Int))),(3,(vP s)),(52,(vI (ln.aa.n:Int))),(53,(vI (b:Int))),(71,(vP B3))]) (fun z=>[(AH eD B3 ga (cU iV mb) (cU iV z.1.1) none),(bU (jd m6 fs fb b)),(kj eD B (cU iV z.1.2.1)),(cx s 3 [(vI (b:Int))]),(bU (z.1.2.2.map l6)),(cx gw 150 (ck.cells (ck.mk ln ri (bx.mk e_A e.length e_C) (bx.mk t_A tms.length t_C) (bx.mk fA (ln.aa.n+1) (ln.aa.n+1)) (bx.mk bA (ln.aa.n+1) (ln.aa.n+1))))).ro,(cx W 108 [(vP gw)]),(rd e_A e.length 1 (e.map iC)).ro,(rd t_A tms.length 1 (List.zipWith gD tms tb)).ro,(dU (bo qf tms tb)).ro,(own bA (ln.aa.n+1) 156 1 (List.map oC (List.replicate (ln.aa.n+1) (none:Option Nat)))),(own fA (ln.aa.n+1) 156 1 (List.map oC (dE (fb++[B]) (ln.aa.n+1))))]) (fun z=>z.1.1.length) ⟨(mb,([]:FM),T4),C⟩ U (bk U) (aP [0,1,2,3,4,5,6,7,8,9,10,11]) ?_
    clear C
    rintro ⟨⟨left,m,A5⟩,⟨c,d,g⟩⟩ J26 K0
    try dsimp only at c d g
    try dsimp only
    refine WS fun _ Ck=>x5 o6.inj (f:=iV) 0 U U U U (fun Uq=>?_) (fun t v hm Io=>?_)
    ·refine bE 1 U<|RK Ck<|aq fun _ WP=>cj U<|bL<|ab<|ab<|aH<|aO<|KK LA<|aw<|rP 2 [] I ?_
     refine aK<|IT (C':=[(kj eD ga (cU iV mb)),(bU (jd m6 fs fb b)),(kj eD B (cU iV m)),(cx s 3 [(vI (b:Int))]),(bU (A5.map l6)),(cx gw 150 (ck.cells (ck.mk ln ri (bx.mk e_A e.length e_C) (bx.mk t_A tms.length t_C) (bx.mk fA (ln.aa.n+1) (ln.aa.n+1)) (bx.mk bA (ln.aa.n+1) (ln.aa.n+1))))).ro,(cx W 108 [(vP gw)]),(rd e_A e.length 1 (e.map iC)).ro,(rd t_A tms.length 1 (List.zipWith gD tms tb)).ro,(dU (bo qf tms tb)).ro,(own bA (ln.aa.n+1) 156 1 (List.map oC (List.replicate (ln.aa.n+1) (none:Option Nat)))),(own fA (ln.aa.n+1) 156 1 (List.map oC (dE (fb++[B]) (ln.aa.n+1))))]) 0 U Kn U<|Ii 1 0 N Z U U U ?_
     try dsimp only
     refine xy (X':=bo m6 (fs++[m]) (fb++[B])) 0 1 U U (zo om U) ?_
     try dsimp only
     have R6:(vI (((b+1):Nat):Int))=(vI ((b:Int)+1)):=by exact cI om
     refine a_ (VJ ⟨((b+1),(fs++[m]),(fb++[B]),A5),⟨om,by simp; omega,by simp; omega,M.add A4 N d g Uq⟩⟩ _ _ _ U os (cK 4<|bj U R6<|dv.nil _) (aP [2,3,4,5,6,7,8,0,9]))
    try dsimp only
    refine bE 1 U<|RK Ck<|aq fun _ Li=>aT U<|WK Li<|aF<|WS fun _ Lk=>rS (SX (xL 0 U U U) U U)<|bE 2 U<|AL U tN fun J2=>AL U ky fun J3=>qy U sB U<|MD U AR U U<|RK Lk<|WS fun _ Lq=>rP 2 [0,1] (mc 8 U (mc 5 U I)) ?_
    refine cX (vd gw b) (aN) U fun WI WT=>?_
    obtain ⟨C0,C3⟩:=WI
    try dsimp only
    refine RK Lq<|aF<|jq 11 U (by exact fun _ h=>h)<|jq 13 U (by exact fun _ h=>h)<|jq 15 U (by exact fun _ h=>h)<|jq 12 U (by exact fun _ h=>h) ?_
    refine uu (L0:=[(0,(vP gw)),(1,(vP W)),(2,(vI (ln.aa.n:Int))),(3,(vP s)),(4,(vP J2)),(5,(vP J3)),(52,(vI (ln.aa.n:Int))),(53,(vI (b:Int))),(71,(vP B3))]) (F:=[(rd e_A e.length 1 (e.map iC)).ro,(rd t_A tms.length 1 (List.zipWith gD tms tb)).ro,(dU (bo qf tms tb)).ro,(cx gw 150 (ck.cells (ck.mk ln ri (bx.mk e_A e.length e_C) (bx.mk t_A tms.length t_C) (bx.mk fA (ln.aa.n+1) (ln.aa.n+1)) (bx.mk bA (ln.aa.n+1) (ln.aa.n+1))))).ro,(cx C0 108 [(vP gw)]),(cx C3 3 [(vI (b:Int))])]) (fun k (y:FM)=>(n_ (cV ln ri e tms) b mb left y (t,v) k)) (fun k y=>[(cx J3 3 [(vI v)]),(cx J2 158 (aL.cells t)),(AH eD B3 ga (cU iV mb) (cU iV (fz left t)) (some (t,(vI v)))),(bU (jd m6 fs fb b)),(kj eD B (cU iV y)),(cx s 3 [(vI (b:Int))]),(bU (A5.map l6)),(cx gw 150 (ck.cells (ck.mk ln ri (bx.mk e_A e.length e_C) (bx.mk t_A tms.length t_C) (bx.mk fA (ln.aa.n+1) (ln.aa.n+1)) (bx.mk bA (ln.aa.n+1) (ln.aa.n+1))))).ro,(cx W 108 [(vP gw)]),(rd e_A e.length 1 (e.map iC)).ro,(rd t_A tms.length 1 (List.zipWith gD tms tb)).ro,(dU (bo qf tms tb)).ro,(own bA (ln.aa.n+1) 156 1 (List.map oC (List.replicate (ln.aa.n+1) (none:Option Nat)))),(own fA (ln.aa.n+1) 156 1 (List.map oC (dE (fb++[B]) (ln.aa.n+1))))]) (fun _ (_:Unit)=>False) (fun _ _=>[]) [6,7,8,9,10,11,12,13,14,15,16,17,18,19] [3,2,1,0,4,5] m rfl rfl (sU ln ri e tms e_A e_C tb t_A t_C fA (ln.aa.n+1) (ln.aa.n+1) bA (ln.aa.n+1) (ln.aa.n+1) gw b C0 C3 om om) rfl rfl rfl (by exact n_.start d g) (by simp only [List.forall_mem_cons,List.not_mem_nil,false_imp_iff,implies_true,and_true]; exact ⟨⟨_,aQ (i:=0) rfl,(dL (bY _))⟩,⟨_,aQ (i:=1) rfl,(dL (bY _))⟩,⟨_,aQ (i:=2) rfl,(dL (bY _))⟩,⟨_,aQ (i:=3) rfl,(dL (bY _))⟩,⟨_,aQ (i:=4) rfl,(bY _)⟩,⟨_,aQ (i:=5) rfl,(bY _)⟩⟩) (by rintro k x k2 ⟨o,_,rfl,_⟩; rfl) rfl (bk rfl) ?_ ?_ (fun _ _ _ h=>h.elim) (fun _ _ h=>h.elim)
    rotate_left 1
    ·rintro WD k O A3 IP
     have D:=IP
     try dsimp only
     refine aO<|aO<|Iq (X:=A5.map l6) 13 0 U U ?_
     try dsimp only
     refine q9 9 U BG U ?_
     refine a_ (K0 ⟨((fz left t),O,(WD::A5)),⟨mH c,D.on,D.next Io hm A3⟩⟩ _ _ _ U (mO hm) (bk U) (aP [9,10,11,12,0,4,14,1,2,3,18,19]))
    rintro k x k2 O l ra rb S w1 K39 Qr40 WA hx IO L2 H WG WM
    obtain ⟨o,ho,rfl,rfl⟩:=hx
    have D:=IO
    try dsimp only
    refine WS fun _ L3=>rP 1 [] I ?_
    refine RK L3<|aw<|AL U ed fun WV=>fR U c_ U<|aK<|iF (fun _ _ h=>h) (aP [1,0,2,3,4,5,6,7,8,9,10,11,12,13,14,15])<|a_ (L2 _ _ ?_)
    refine aF<|aq fun _ L5=>dM cy [16,18] [] [] [0,1,2,3,4,5,6,7,8,9,10,11,12,13,14,15] [] U U U U U<|eS U (Ef 2 U cq U)<|eS U (Ef 10 U cq U)<|eS U (SX (cT U U) U U)<|eS U (FA 10 U fK U)<|eS U (Kv (vS e_A e.length e_C) 9 U cq U U)<|eS U (Ef 7 U cq U) ?_
    obtain ⟨y,hy⟩:=aM e b om
    have Iv:=bO iC hy
    refine eS U (IA b U (aG 11 U) dp dc om om)<|eS U (gQ b 0 (vI y) U cq (aG 11 U) Iv U dc U) ?_
    have V0:=hw.least y (aQ hy)
    have hp:=M.mem N (c _ hm)
    have Vs:=Ih hw _ _ hp
    have V9:=vr o.1
    have V_:=hw.opt ho
    have Wb:=hw.now
    dsimp only at Vs
    refine eS U (BI U (mL ⟨om,om⟩))<|eS U (FA 0 U fK U)<|eS U (L1 (vI o.2.Lo) 1 U cq U U)<|eS U (MX U)<|eS U (LW 3 U cq U U)<|eS U (MV U)<|eS U (CL (H0 o.1) (aN) U)<|eS U (CL (wB t (fJ o.1) om om) (aN) U)<|eS U (AG U)<|eC U<|cv U fun T45 Qr=>AL U tN fun WW=>aK (Qr _ _ (aP [1,2,3,4,5,6,7,8,9,10,11,12,13,14,15,16]) ?_)
    refine cv U fun T47 Qv=>fR U sB U<|aK (Qv _ _ (aP [1,2,3,4,5,6,7,8,9,10,11,12,13,14,15,16]) ?_)
    refine fP U<|KK L5<|aq fun _ M2=>dA cy 15 kr<|lR 1 [] (mc 11 U I) U<|dS (SX (cT U U) U U)<|dP 4 [0,1] (mr 10 U (mc 8 U I)) ?_
    have ST:(List.map oC (dE (fb++[B]) (ln.aa.n+1)))[(b+1)]? =some (oC (some B)):=qp (mS (zI om))
    refine dS (IA (b+1) U (ak (n:=(ln.aa.n+1)) 16 U sq) ou dc om om) ?_
    refine dS (gQ (b+1) 0 (Value.map (some B)) U cq (ak (n:=(dE (fb++[B]) (ln.aa.n+1)).length) 16 U sm) ST U dc U)<|lR 1 [] (mc 0 U I) U<|dS (SX (sK (kV:=eD) (x:=(dG t (fJ o.1))) (l:=O) (f:=iV) (z:=0) U U U o4 o6 VK (by exact aG 7 U)) U U)<|k6 5 U<|cM<|RK M2<|aq fun _ AO=>dA cy 19 kr<|lR 4 [0,1] (mc 2 U (mc 11 U I)) U<|dS (SX (cT U U) U U)<|lR 3 [] (mr 10 U I) U<|dS (MN U)<|dP 2 [] I ?_
    refine jD (t:=121) U (aU fun P=>?_) (aV fun P=>?_)
    ·refine dP 8 [] I ?_
     refine cM<|RK AO<|cj U<|cg<|aO ?_
     exact H O _ _ (by exact D.skip (KB hy P)) (aP [1,3,4,5,6,7,8,9,10,11,12,13,14,15,16])
    refine dP 3 [] I ?_
    refine hO (t:=124) U (fun R=>?_) (fun R=>?_)
    ·rw [Bool.not_eq_true'] at R
     refine k6 5 U<|cM<|RK AO<|aT U<|dA cy 10 kr<|lR 1 [] (mc 11 U I) U<|dS (SX (cT U U) U U)<|dP 4 [0,1] (mr 10 U (mc 8 U I)) ?_
     have SW:(List.map oC (dE (fb++[B]) (ln.aa.n+1)))[(b+1)]? =some (oC (some B)):=qp (mS (zI om))
     refine dS (IA (b+1) U (ak (n:=(ln.aa.n+1)) 16 U sq) ou dc om om) ?_
     refine dS (gQ (b+1) 0 (Value.map (some B)) U cq (ak (n:=(dE (fb++[B]) (ln.aa.n+1)).length) 16 U sm) SW U dc U)<|dP 2 [] (mc 0 U I) ?_
     refine cM<|jc (kV:=eD) (x:=(dG t (fJ o.1))) (C':=[_,_,_,_,_,_,_,(kj eD B (cU iV (ep O (dG t (fJ o.1)) (max (v+y) o.2.Lo)))),_,_,_,_,_,_,_,_,_]) 7 U U U U o4 o6 U (gP _ _ _ _).symm U<|aK<|aO ?_
     exact H (ep O (dG t (fJ o.1)) (max (v+y) o.2.Lo)) _ _ (by exact D.set hp ho (zJ hy P) (.inl (by simpa using R))) (aP [1,3,4,5,6,7,8,9,10,11,12,13,14,15,16])
    rw [Bool.not_eq_false'] at R
    refine dP 5 [] I ?_
    refine cM<|RK AO<|bV U (aU fun u=>?_) (aV fun u=>?_)
    ·refine cg<|aO ?_
     exact H O _ _ (by exact D.oW (zJ hy P) (by simpa using R) u) (aP [1,3,4,5,6,7,8,9,10,11,12,13,14,15,16])
    refine dA cy 10 kr<|lR 1 [] (mc 11 U I) U<|dS (SX (cT U U) U U)<|dP 4 [0,1] (mr 10 U (mc 8 U I)) ?_
    have S1:(List.map oC (dE (fb++[B]) (ln.aa.n+1)))[(b+1)]? =some (oC (some B)):=qp (mS (zI om))
    refine dS (IA (b+1) U (ak (n:=(ln.aa.n+1)) 16 U sq) ou dc om om) ?_
    refine dS (gQ (b+1) 0 (Value.map (some B)) U cq (ak (n:=(dE (fb++[B]) (ln.aa.n+1)).length) 16 U sm) S1 U dc U)<|dP 2 [] (mc 0 U I) ?_
    refine cM<|jc (kV:=eD) (x:=(dG t (fJ o.1))) (C':=[_,_,_,_,_,_,_,(kj eD B (cU iV (ep O (dG t (fJ o.1)) (max (v+y) o.2.Lo)))),_,_,_,_,_,_,_,_,_]) 7 U U U U o4 o6 U (gP _ _ _ _).symm U<|aK<|aO ?_
    exact H (ep O (dG t (fJ o.1)) (max (v+y) o.2.Lo)) _ _ (by exact D.set hp ho (zJ hy P) (.inr u)) (aP [1,3,4,5,6,7,8,9,10,11,12,13,14,15,16])
   refine bL<|ab<|ab<|aH<|KK FS<|WS fun _ Am=>rP 1 [] I ?_
   refine AL U ky fun T6=>MD U AR U U<|RK Am<|aF ?_
   rw [GL]
   refine od ?_
   have C:(0≤ln.aa.n+1)∧(([]:List FM).length=0)∧(([]:List Nat).length=0)∧(iv (cV ln ri e tms) (ln.aa.n+1-0) ([]:List FM)):=by exact ⟨Nat.zero_le _,rfl,rfl,iv.none_⟩
   refine wD (ι:={z:Nat×(List FM)×(List Nat)×Nat×(List Nat) // (z.1≤ln.aa.n+1)∧(z.2.1.length=z.1)∧(z.2.2.1.length=z.1)∧(iv (cV ln ri e tms) (ln.aa.n+1-z.1) z.2.1)}) (fun z=>z.1.2.2.2.2.map jT) (fun z=>[(0,(vP gw)),(1,(vP W)),(2,(vI (ln.aa.n:Int))),(12,(Value.pointer (some ⟨z.1.2.2.2.1,0,none⟩)))]) (fun z=>[(bU (bo m6 z.1.2.1 z.1.2.2.1)),(cx z.1.2.2.2.1 3 [(vI ((ln.aa.n:Int)-(z.1.1:Int)))]),(bU (z.1.2.2.2.2.map l6)),(cx gw 150 (ck.cells (ck.mk ln ri (bx.mk e_A e.length e_C) (bx.mk t_A tms.length t_C) (bx.mk fA (ln.aa.n+1) (ln.aa.n+1)) (bx.mk bA (ln.aa.n+1) (ln.aa.n+1))))).ro,(cx W 108 [(vP gw)]),(rd e_A e.length 1 (e.map iC)).ro,(rd t_A tms.length 1 (List.zipWith gD tms tb)).ro,(dU (bo qf tms tb)).ro,(own bA (ln.aa.n+1) 156 1 (List.map oC (iu z.1.2.2.1 (ln.aa.n+1)))),(bU (bo m6 fs fb)),(own fA (ln.aa.n+1) 156 1 (List.map oC (dE fb (ln.aa.n+1))))]) (fun z=>ln.aa.n+1-z.1.1) ⟨(0,([]:List FM),([]:List Nat),T6,T4),C⟩ U (bk U) (aP [0,1,2,3,4,5,6,7,8,9,10]) ?_
   clear C
   rintro ⟨⟨j,bs,bb,gq,q⟩,⟨A8,A9,Bx,E⟩⟩ J57 Ci
   try dsimp only at A8 A9 Bx E
   try dsimp only
   refine aq fun _ A0=>WS fun _ A1=>rP 2 [] (mc 1 U I) ?_
   refine RK A1<|bV U (aU fun J7=>?_) (aV fun J7=>?_)
   ·refine bL<|ab<|ab<|aH ?_
    rw [show (List.map oC (dE fb (ln.aa.n+1)))=(List.zipWith gD fs fb) from by rw [zt om]; exact (AA om).symm]
    rw [show (List.map oC (iu bb (ln.aa.n+1)))=(List.zipWith gD bs bb) from by rw [G9 om]; exact (AA om).symm]
    refine Ar (C1:=[(own fA (ln.aa.n+1) 156 1 (List.zipWith gD fs fb)),(bU (bo m6 fs fb)),(own bA (ln.aa.n+1) 156 1 (List.zipWith gD bs bb)),(bU (bo m6 bs bb)),(bU (q.map l6))]) hz [10,9,8,0,2] U U (by simp only [fu,List.all_nil,pA,LR,Bool.and_true]; rfl) ?_
    rw [show (cx gw 150 (ck.cells (ck.mk ln ri (bx.mk e_A e.length e_C) (bx.mk t_A tms.length t_C) (bx.mk fA (ln.aa.n+1) (ln.aa.n+1)) (bx.mk bA (ln.aa.n+1) (ln.aa.n+1)))))=(cx gw 150 (ck.cells (ck.mk ln ri (bx.mk e_A e.length e_C) (bx.mk t_A tms.length t_C) (bx.mk fA fs.length (ln.aa.n+1)) (bx.mk bA bs.length (ln.aa.n+1))))) from by rw [show fs.length=(ln.aa.n+1) from by omega,show bs.length=(ln.aa.n+1) from by omega]]
    refine Qh [(cx gw 150 (ck.cells (ck.mk ln ri (bx.mk e_A e.length e_C) (bx.mk t_A tms.length t_C) (bx.mk fA fs.length (ln.aa.n+1)) (bx.mk bA bs.length (ln.aa.n+1))))),(own fA (ln.aa.n+1) 156 1 (List.zipWith gD fs fb)),(bU (bo m6 fs fb)),(own bA (ln.aa.n+1) 156 1 (List.zipWith gD bs bb)),(bU (bo m6 bs bb))] [(bU (q.map l6))] ?_
    refine hN _ _ _ (JY 1 U U<|jX (vs:=[]) trivial fun w hs=>Rl (fs,fb,fA,(ln.aa.n+1),bs,bb,bA,(ln.aa.n+1)) 0 ?_ ?_ U (by show List.all _ _=true; simp only [fu,List.all_nil,pA,Bool.and_true]; rfl) hs)
    ·clear hs w hQ hN A1 A0 Am AN Fn Fd FS Eu Do; rfl
    ·clear hs w hQ hN A1 A0 Am AN Fn Fd FS Eu Do; exact ⟨M.ok (by show fs.length=e.length+1; omega),iv.ok (by have:=E; rwa [show ln.aa.n+1-j=0 by omega] at this) (by show bs.length=e.length+1; omega),dso,dso⟩
   refine WK A0<|aq fun _ Cp=>aF<|aq fun _ NE=>?_
   obtain ⟨b,WY⟩: ∃ b:Nat,b+j=ln.aa.n:=⟨ln.aa.n-j,om⟩
   rw [show (ln.aa.n:Int)-(j:Int)=(b:Int) from by omega]
   have WR:(iu bb (ln.aa.n+1)).length=(ln.aa.n+1):=yG om
   refine dM cy [5,12,13,15] [11] [0,1,2] [0,1,2,3,4,5,6,7,9,10] [0,1,2,3,4,5,6,7,8,9,10] U U U U U<|eS U (Ef 4 U cq U)<|eS U (SX (cT U U) U U)<|eS U (FA 13 U fK U)<|eS U (Kv (vS bA (ln.aa.n+1) (ln.aa.n+1)) 3 U cq U U)<|eS U (Ef 1 U cq U)<|eS U (SX (bq (xs:=[]) (cs:=(aL.cells (aL.mk 0 0))) U U (bp BW U)) U U)<|eS U (Ef 4 U cq U)<|eS U (SX (cT U U) U U)<|eS U (FA 7 U fK U)<|eS U (FA 8 U fK U)<|eS U (Kv (vI ri.gf) 3 U cq U U) ?_
   obtain ⟨WF,To⟩:=aM (iu bb (ln.aa.n+1)) b om
   have hx63m:(List.map oC (iu bb (ln.aa.n+1)))[b]? =some (oC WF):=by rw [fX,To]; rfl
   refine fS U (IA b U (ak (n:=(ln.aa.n+1)) 8 U sq) ou dc om om) ?_
   refine eC U<|jF U fun T64 RS=>mG (kV:=eD) U U fun A=>?_
   try dsimp only
   refine aK (RS _ _ (aP [1,2,3,4,5,6,7,8,10,11]) (aP [1,2,3,4,5,6,7,8,9,10,11]) ?_)
   refine jF U fun T66 R0=>?_
   have R7:(ep ([]:List (aL×Int)) (aL.mk 0 0) ri.gf)=[((aL.mk 0 0),ri.gf)]:=by rfl
   refine yK (kV:=eD) (x:=(aL.mk 0 0)) (C':=[(kj eD A (cU iV ([((aL.mk 0 0),ri.gf)]))),_,_,_,_,_,_,_,_,_,_,_]) 0 U U U U o4 o6 U ((gP _ _ _ _).symm.trans (congrArg _ R7)) U<|aK (R0 _ _ (aP [1,2,3,4,5,6,7,8,10,11]) (aP [1,2,3,4,5,6,7,8,9,10,11]) ?_)
   refine jF U fun T68 R1=>rS (MV U)<|aK (R1 _ _ (aP [1,2,3,4,5,6,7,8,10,11]) (aP [1,2,3,4,5,6,7,8,9,10,11]) ?_)
   refine cv U fun T69 R2=>?_
   have R8:((iu bb (ln.aa.n+1)).set b (some A))=(iu (A::bb) (ln.aa.n+1)):=by exact FR om
   refine gR (k:=b) (o:=0) (vs:=[(Value.map (some A))]) (es':=(List.map oC (iu (A::bb) (ln.aa.n+1)))) (C':=[_,_,_,_,_,_,_,_,_,(own bA (ln.aa.n+1) 156 1 (List.map oC (iu (A::bb) (ln.aa.n+1)))),_,_]) 9 U U U JF U U U U hx63m U dc (by exact (List.map_set (f:=oC) (l:=(iu bb (ln.aa.n+1))) (i:=b) (a:=(some A))).symm.trans (congrArg _ R8)) U<|aK (R2 _ _ (aP [1,2,3,4,5,6,7,8,10,11]) ?_)
   refine fP U<|KK NE<|aq fun _ Ne=>WS fun _ OK=>rP 3 [] (mc 2 U I) ?_
   refine RK OK<|cw U (aV fun J9=>?_) (aU fun J9=>?_)
   ·refine bL<|ab<|aH<|KK Cp<|aq fun _ OM=>WS fun _ Oi=>e9 1 [] (mc 2 U I) U<|RK Oi<|aw<|AL U ky fun UP=>MD U AR U U<|RK OM<|aw<|rP 2 [] (mc 0 U I) ?_
    refine MD U AR U U<|aK ?_
    rw [show (b:Int)-1=(ln.aa.n:Int)-(((j+1):Nat):Int) from by omega]
    refine yZ (ms:=bs) (m:=[((aL.mk 0 0),ri.gf)]) (a:=A) 2 1 U U U ?_
    try dsimp only
    refine a_ (Ci ⟨((j+1),([((aL.mk 0 0),ri.gf)]::bs),(A::bb),UP,q),⟨om,by simp; omega,by simp; omega,by exact iv.end_ (b:=b) E om om (by show e.length≤b; omega)⟩⟩ _ _ _ U os (bk U) (aP [0,1,3,4,5,6,7,8,9,10,11]))
   refine WK Ne<|aq fun _ Op=>?_
   have V8:(iu (A::bb) (ln.aa.n+1)).length=(ln.aa.n+1):=yG (by simp; omega)
   obtain ⟨mb,N⟩:=aM bs 0 om
   obtain ⟨ga,Z⟩:=aM bb 0 om
   refine yE 1 N Z U U U ?_
   try dsimp only
   refine dA cy 8 kr<|lR 1 [] (mc 6 U I) U<|dS (SX (cT U U) U U)<|dP 4 [0,1] (mr 5 U (mc 3 U I)) ?_
   have S2:(List.map oC (iu (A::bb) (ln.aa.n+1)))[(b+1)]? =some (oC (some ga)):=qp (tT (i:=1) (by simpa using Z) (by simp; omega))
   refine dS (IA (b+1) U (ak (n:=(ln.aa.n+1)) 10 U sq) ou dc om om) ?_
   refine dS (gQ (b+1) 0 (Value.map (some ga)) U cq (ak (n:=(iu (A::bb) (ln.aa.n+1)).length) 10 U sm) S2 U dc U)<|cM<|yO 0 U U o4 U U fun B9=>?_
   try dsimp only
   refine RK Op<|aF ?_
   have C:(∀ p∈mb,p∈mb)∧(wh (cV ln ri e tms) b ([((aL.mk 0 0),ri.gf)]))∧(jQ (cV ln ri e tms) b mb ([((aL.mk 0 0),ri.gf)]) mb):=by exact ⟨fun p hp=>hp,wh.start (by show b<e.length; omega),jQ.start⟩
   refine wD (ι:={z:FM×FM×(List Nat) // (∀ p∈z.1,p∈mb)∧(wh (cV ln ri e tms) b z.2.1)∧(jQ (cV ln ri e tms) b mb z.2.1 z.1)}) (fun z=>z.1.2.2.map jT) (fun z=>[(0,(vP gw)),(1,(vP W)),(2,(vI (ln.aa.n:Int))),(12,(vP gq)),(171,(vP B9))]) (fun z=>[(AH eD B9 ga (cU iV mb) (cU iV z.1.1) none),(bU (jd m6 bs bb 0)),(kj eD A (cU iV z.1.2.1)),(cx gq 3 [(vI (b:Int))]),(bU (z.1.2.2.map l6)),(cx gw 150 (ck.cells (ck.mk ln ri (bx.mk e_A e.length e_C) (bx.mk t_A tms.length t_C) (bx.mk fA (ln.aa.n+1) (ln.aa.n+1)) (bx.mk bA (ln.aa.n+1) (ln.aa.n+1))))).ro,(cx W 108 [(vP gw)]),(rd e_A e.length 1 (e.map iC)).ro,(rd t_A tms.length 1 (List.zipWith gD tms tb)).ro,(dU (bo qf tms tb)).ro,(own bA (ln.aa.n+1) 156 1 (List.map oC (iu (A::bb) (ln.aa.n+1)))),(bU (bo m6 fs fb)),(own fA (ln.aa.n+1) 156 1 (List.map oC (dE fb (ln.aa.n+1))))]) (fun z=>z.1.1.length) ⟨(mb,[((aL.mk 0 0),ri.gf)],q),C⟩ U (bk U) (aP [0,1,2,3,4,5,6,7,8,9,10,11,12]) ?_
   clear C
   rintro ⟨⟨left,m,V⟩,⟨J,K,L⟩⟩ J80 K8
   try dsimp only at J K L
   try dsimp only
   refine WS fun _ Cx=>x5 o6.inj (f:=iV) 0 U U U U (fun KV=>?_) (fun t v hm Io=>?_)
   ·refine bE 1 U<|RK Cx<|aq fun _ WQ=>cj U<|bL<|ab<|ab<|aH<|aO<|KK Cp<|aq fun _ Or=>WS fun _ Os=>e9 1 [] (mc 3 U I) U<|RK Os<|aw<|AL U ky fun J4=>MD U AR U U<|RK Or<|aw<|rP 2 [] (mc 0 U I) ?_
    refine MD U AR U U<|aK<|IT (C':=[(cx J4 3 [(vI ((b:Int)-1))]),(kj eD ga (cU iV mb)),(bU (jd m6 bs bb 0)),(kj eD A (cU iV m)),(cx gq 3 [(vI (b:Int))]),(bU (V.map l6)),(cx gw 150 (ck.cells (ck.mk ln ri (bx.mk e_A e.length e_C) (bx.mk t_A tms.length t_C) (bx.mk fA (ln.aa.n+1) (ln.aa.n+1)) (bx.mk bA (ln.aa.n+1) (ln.aa.n+1))))).ro,(cx W 108 [(vP gw)]),(rd e_A e.length 1 (e.map iC)).ro,(rd t_A tms.length 1 (List.zipWith gD tms tb)).ro,(dU (bo qf tms tb)).ro,(own bA (ln.aa.n+1) 156 1 (List.map oC (iu (A::bb) (ln.aa.n+1)))),(bU (bo m6 fs fb)),(own fA (ln.aa.n+1) 156 1 (List.map oC (dE fb (ln.aa.n+1))))]) 1 U Kn U<|Ii 2 1 N Z U U U ?_
    try dsimp only
    rw [show (b:Int)-1=(ln.aa.n:Int)-(((j+1):Nat):Int) from by omega]
    refine yZ (ms:=bs) (m:=m) (a:=A) 0 2 U U U ?_
    try dsimp only
    refine a_ (Ci ⟨((j+1),(m::bs),(A::bb),J4,V),⟨om,by simp; omega,by simp; omega,by exact iv.more (b:=b) E om om (by show b<e.length; omega) N K L KV⟩⟩ _ _ _ U os (bk U) (aP [0,1,3,4,5,6,7,8,9,10,11]))
   try dsimp only
   refine bE 1 U<|RK Cx<|aq fun _ PA=>aT U<|WK PA<|aF<|WS fun _ PP=>rS (SX (xL 0 U U U) U U)<|bE 2 U<|AL U tN fun J5=>AL U ky fun J6=>qy U sB U<|MD U AR U U<|RK PP<|WS fun _ PU=>rP 2 [0,1] (mc 8 U (mc 5 U I)) ?_
   refine cX (vd gw b) (aN) U fun WL WU=>?_
   obtain ⟨C2,Di⟩:=WL
   try dsimp only
   refine RK PU<|aF<|jq 11 U (by exact fun _ h=>h)<|jq 13 U (by exact fun _ h=>h)<|jq 15 U (by exact fun _ h=>h)<|jq 12 U (by exact fun _ h=>h) ?_
   refine uu (L0:=[(0,(vP gw)),(1,(vP W)),(2,(vI (ln.aa.n:Int))),(12,(vP gq)),(13,(vP J5)),(14,(vP J6)),(171,(vP B9))]) (F:=[(rd e_A e.length 1 (e.map iC)).ro,(rd t_A tms.length 1 (List.zipWith gD tms tb)).ro,(dU (bo qf tms tb)).ro,(cx gw 150 (ck.cells (ck.mk ln ri (bx.mk e_A e.length e_C) (bx.mk t_A tms.length t_C) (bx.mk fA (ln.aa.n+1) (ln.aa.n+1)) (bx.mk bA (ln.aa.n+1) (ln.aa.n+1))))).ro,(cx C2 108 [(vP gw)]),(cx Di 3 [(vI (b:Int))])]) (fun k (y:FM)=>(nM (cV ln ri e tms) b mb left y (t,v) k)) (fun k y=>[(cx J6 3 [(vI v)]),(cx J5 158 (aL.cells t)),(AH eD B9 ga (cU iV mb) (cU iV (fz left t)) (some (t,(vI v)))),(bU (jd m6 bs bb 0)),(kj eD A (cU iV y)),(cx gq 3 [(vI (b:Int))]),(bU (V.map l6)),(cx gw 150 (ck.cells (ck.mk ln ri (bx.mk e_A e.length e_C) (bx.mk t_A tms.length t_C) (bx.mk fA (ln.aa.n+1) (ln.aa.n+1)) (bx.mk bA (ln.aa.n+1) (ln.aa.n+1))))).ro,(cx W 108 [(vP gw)]),(rd e_A e.length 1 (e.map iC)).ro,(rd t_A tms.length 1 (List.zipWith gD tms tb)).ro,(dU (bo qf tms tb)).ro,(own bA (ln.aa.n+1) 156 1 (List.map oC (iu (A::bb) (ln.aa.n+1)))),(bU (bo m6 fs fb)),(own fA (ln.aa.n+1) 156 1 (List.map oC (dE fb (ln.aa.n+1))))]) (fun _ (_:Unit)=>False) (fun _ _=>[]) [6,7,8,9,10,11,12,13,14,15,16,17,18,19,20] [3,2,1,0,4,5] m rfl rfl (sU ln ri e tms e_A e_C tb t_A t_C fA (ln.aa.n+1) (ln.aa.n+1) bA (ln.aa.n+1) (ln.aa.n+1) gw b C2 Di om om) rfl rfl rfl (by exact nM.start K L) (by simp only [List.forall_mem_cons,List.not_mem_nil,false_imp_iff,implies_true,and_true]; exact ⟨⟨_,aQ (i:=0) rfl,(dL (bY _))⟩,⟨_,aQ (i:=1) rfl,(dL (bY _))⟩,⟨_,aQ (i:=2) rfl,(dL (bY _))⟩,⟨_,aQ (i:=3) rfl,(dL (bY _))⟩,⟨_,aQ (i:=4) rfl,(bY _)⟩,⟨_,aQ (i:=5) rfl,(bY _)⟩⟩) (by rintro k x k2 ⟨o,_,rfl,_⟩; rfl) rfl (bk rfl) ?_ ?_ (fun _ _ _ h=>h.elim) (fun _ _ h=>h.elim)
   rotate_left 1
   ·rintro T0 k O A3 A7
    have D:=A7
    try dsimp only
    refine aO<|aO<|Iq (X:=V.map l6) 13 0 U U ?_
    try dsimp only
    refine q9 9 U BG U ?_
    refine a_ (K8 ⟨((fz left t),O,(T0::V)),⟨mH J,D.on,D.next Io hm A3⟩⟩ _ _ _ U (mO hm) (bk U) (aP [9,10,11,12,0,4,14,1,2,3,18,19,20]))
   rintro k x k2 O l ra rb S w1 K95 Qr96 WA hx IR PY AD WH WN
   obtain ⟨o,ho,rfl,rfl⟩:=hx
   have D:=IR
   try dsimp only
   refine WS fun _ Pi=>rP 1 [] I ?_
   refine RK Pi<|aw<|AL U ed fun WX=>fR U c_ U<|aK<|iF (fun _ _ h=>h) (aP [1,0,2,3,4,5,6,7,8,9,10,11,12,13,14,15,16])<|a_ (PY _ _ ?_)
   refine aF<|aq fun _ EQ=>dM cy [16,18] [] [] [0,1,2,3,4,5,6,7,8,9,10,11,12,13,14,15,16] [] U U U U U<|eS U (Ef 2 U cq U)<|eS U (FA 1 U fK U)<|eS U (L1 (vI o.2.Hi) 1 U cq U U) ?_
   have hp:=E.VD (b:=b) om N (J _ hm)
   have Vk:=I5 hw hp
   have V9:=vr o.1
   have V_:=hw.opt ho
   dsimp only at Vk
   refine eS U (MN U)<|eS U (Ef 10 U cq U)<|eS U (SX (cT U U) U U)<|eS U (FA 10 U fK U)<|eS U (Kv (vS e_A e.length e_C) 9 U cq U U)<|eS U (Ef 7 U cq U) ?_
   obtain ⟨y,hy⟩:=aM e b om
   have Iv:=bO iC hy
   refine eS U (IA b U (aG 11 U) dp dc om om)<|eS U (gQ b 0 (vI y) U cq (aG 11 U) Iv U dc U) ?_
   have V0:=hw.least y (aQ hy)
   refine eS U (BI U (xY ⟨om,om⟩))<|eS U (LW 3 U cq U U)<|eS U (MV U)<|eS U (CL (H0 o.1) (aN) U)<|eS U (CL (wB t (fJ o.1) om om) (aN) U)<|eS U (AG U)<|eC U<|cv U fun T101 GE=>AL U tN fun WO=>aK (GE _ _ (aP [1,2,3,4,5,6,7,8,9,10,11,12,13,14,15,16,17]) ?_)
   refine cv U fun T103 GT=>fR U sB U<|aK (GT _ _ (aP [1,2,3,4,5,6,7,8,9,10,11,12,13,14,15,16,17]) ?_)
   refine fP U<|KK EQ<|aq fun _ Eq=>dA cy 14 kr<|lR 1 [] (mc 11 U I) U<|dS (SX (cT U U) U U)<|dP 3 [0,1] (mr 10 U (mc 8 U I)) ?_
   have Ic:(List.map oC (iu (A::bb) (ln.aa.n+1)))[b]? =some (oC (some A)):=qp (tT (i:=0) rfl (by simp; omega))
   refine dS (IA b U (ak (n:=(ln.aa.n+1)) 15 U sq) ou dc om om) ?_
   refine dS (gQ b 0 (Value.map (some A)) U cq (ak (n:=(iu (A::bb) (ln.aa.n+1)).length) 15 U sm) Ic U dc U)<|lR 1 [] (mc 0 U I) U<|dS (SX (sK (kV:=eD) (x:=(dG t (fJ o.1))) (l:=O) (f:=iV) (z:=0) U U U o4 o6 VK (by exact aG 7 U)) U U)<|k6 5 U<|cM<|RK Eq<|WS fun _ Y=>e9 3 [0,1] (mc 3 U (mc 2 U I)) U<|rS (MN U)<|rP 4 [] (mc 2 U I) ?_
   refine cL (t:=217) U (aU fun T=>?_) (aV fun T=>?_)
   ·refine rP 8 [] I ?_
    refine RK Y<|cj U<|cg<|aO ?_
    exact AD O _ _ (by exact D.skip (Na T)) (aP [1,3,4,5,6,7,8,9,10,11,12,13,14,15,16,17])
   refine rP 3 [] I ?_
   refine bZ (t:=220) U (fun AB=>?_) (fun AB=>?_)
   ·rw [Bool.not_eq_true'] at AB
    refine bE 5 U<|RK Y<|aT U<|dA cy 9 kr<|lR 1 [] (mc 11 U I) U<|dS (SX (cT U U) U U)<|dP 3 [0,1] (mr 10 U (mc 8 U I)) ?_
    have Id:(List.map oC (iu (A::bb) (ln.aa.n+1)))[b]? =some (oC (some A)):=qp (tT (i:=0) rfl (by simp; omega))
    refine dS (IA b U (ak (n:=(ln.aa.n+1)) 15 U sq) ou dc om om) ?_
    refine dS (gQ b 0 (Value.map (some A)) U cq (ak (n:=(iu (A::bb) (ln.aa.n+1)).length) 15 U sm) Id U dc U)<|dP 2 [] (mc 0 U I) ?_
    refine cM<|jc (kV:=eD) (x:=(dG t (fJ o.1))) (C':=[_,_,_,_,_,_,_,(kj eD A (cU iV (ep O (dG t (fJ o.1)) ((min v o.2.Hi)-y)))),_,_,_,_,_,_,_,_,_,_]) 7 U U U U o4 o6 U (gP _ _ _ _).symm U<|aK<|aO ?_
    exact AD (ep O (dG t (fJ o.1)) ((min v o.2.Hi)-y)) _ _ (by exact D.set (by show b<e.length; omega) hp ho (zz hy T) (.inl (by simpa using AB))) (aP [1,3,4,5,6,7,8,9,10,11,12,13,14,15,16,17])
   rw [Bool.not_eq_false'] at AB
   refine rP 5 [] I ?_
   refine RK Y<|bV U (aU fun AC=>?_) (aV fun AC=>?_)
   ·refine cg<|aO ?_
    exact AD O _ _ (by exact D.oW (zz hy T) (by simpa using AB) AC) (aP [1,3,4,5,6,7,8,9,10,11,12,13,14,15,16,17])
   refine dA cy 9 kr<|lR 1 [] (mc 11 U I) U<|dS (SX (cT U U) U U)<|dP 3 [0,1] (mr 10 U (mc 8 U I)) ?_
   have If:(List.map oC (iu (A::bb) (ln.aa.n+1)))[b]? =some (oC (some A)):=qp (tT (i:=0) rfl (by simp; omega))
   refine dS (IA b U (ak (n:=(ln.aa.n+1)) 15 U sq) ou dc om om) ?_
   refine dS (gQ b 0 (Value.map (some A)) U cq (ak (n:=(iu (A::bb) (ln.aa.n+1)).length) 15 U sm) If U dc U)<|dP 2 [] (mc 0 U I) ?_
   refine cM<|jc (kV:=eD) (x:=(dG t (fJ o.1))) (C':=[_,_,_,_,_,_,_,(kj eD A (cU iV (ep O (dG t (fJ o.1)) ((min v o.2.Hi)-y)))),_,_,_,_,_,_,_,_,_,_]) 7 U U U U o4 o6 U (gP _ _ _ _).symm U<|aK<|aO ?_
   exact AD (ep O (dG t (fJ o.1)) ((min v o.2.Hi)-y)) _ _ (by exact D.set (by show b<e.length; omega) hp ho (zz hy T) (.inr AC)) (aP [1,3,4,5,6,7,8,9,10,11,12,13,14,15,16,17])
  refine dM cy [4,11,12,14] [10] [0,1,2] [0,1,2,3,4,6] [0,1,2,3,4,5,6] U U U U U<|eS U (Ef 1 U cq U)<|eS U (SX (cT U U) U U)<|eS U (FA 12 U fK U)<|eS U (Kv (vS fA (ln.aa.n+1) (ln.aa.n+1)) 0 U cq U U)<|eS U (SX (bq (xs:=[]) (cs:=(aL.cells (aL.mk 0 0))) U U (bp BW U)) U U)<|eS U (Ef 1 U cq U)<|eS U (SX (cT U U) U U)<|eS U (FA 7 U fK U)<|eS U (FA 7 U fK U)<|eS U (Kv (vI ri.Start) 0 U cq U U) ?_
  obtain ⟨x6,WB⟩:=aM (List.replicate (ln.aa.n+1) (none:Option Nat)) 0 om
  have hx7m:(List.map oC (List.replicate (ln.aa.n+1) (none:Option Nat)))[0]? =some (oC x6):=by rw [fX,WB]; rfl
  refine fS U (IA 0 U (ak (n:=(ln.aa.n+1)) 5 U sq) ou dc U om) ?_
  refine eC U<|jF U fun T8 Go=>mG (kV:=eD) U U fun r=>?_
  try dsimp only
  refine aK (Go _ _ (aP [1,2,3,4,5,7]) (aP [1,2,3,4,5,6,7]) ?_)
  refine jF U fun T10 G=>?_
  have R3:(ep ([]:List (aL×Int)) (aL.mk 0 0) ri.Start)=[((aL.mk 0 0),ri.Start)]:=by rfl
  refine yK (kV:=eD) (x:=(aL.mk 0 0)) (C':=[(kj eD r (cU iV ([((aL.mk 0 0),ri.Start)]))),_,_,_,_,_,_,_]) 0 U U U U o4 o6 U ((gP _ _ _ _).symm.trans (congrArg _ R3)) U<|aK (G _ _ (aP [1,2,3,4,5,7]) (aP [1,2,3,4,5,6,7]) ?_)
  refine jF U fun T12 Pl=>rS (MV U)<|aK (Pl _ _ (aP [1,2,3,4,5,7]) (aP [1,2,3,4,5,6,7]) ?_)
  refine cv U fun T13 Pq=>?_
  have R4:((List.replicate (ln.aa.n+1) (none:Option Nat)).set 0 (some r))=(dE [r] (ln.aa.n+1)):=by rw [u6]; exact rG rfl sm
  refine gR (k:=0) (o:=0) (vs:=[(Value.map (some r))]) (es':=(List.map oC (dE [r] (ln.aa.n+1)))) (C':=[_,_,_,_,_,_,(own fA (ln.aa.n+1) 156 1 (List.map oC (dE [r] (ln.aa.n+1)))),_]) 6 U U U JF U U U U hx7m U dc (by exact (List.map_set (f:=oC) (l:=(List.replicate (ln.aa.n+1) (none:Option Nat))) (i:=0) (a:=(some r))).symm.trans (congrArg _ R4)) U<|aK (Pq _ _ (aP [1,2,3,4,5,7]) ?_)
  refine fP U<|Dz<|xy (X:=[]) (X':=bo m6 [[((aL.mk 0 0),ri.Start)]] [r]) 0 1 U U U ?_
  try dsimp only
  refine a_ (iF (bk U) (aP [1,2,3,4,5,7,0,6]) (VO ⟨r,trivial⟩))
 refine lI cy [0,1,2,3,5,6,8,9,11,12] [4,7,10,13] [false,false,false,false,false,false,false,false,false,false] [] [(cx W 108 [(vP gw)]),(rd e_A e.length 1 (e.map iC)).ro,(rd t_A tms.length 1 (List.zipWith gD tms tb)).ro,(dU (bo qf tms tb)).ro] [] kr (aP [0,2,3,4]) (aP [])<|eS U (Ef 0 U cq U)<|eS U (Ef 0 U cq U)<|eS U (MV U)<|eS U (BI U (mL ⟨om,om⟩))<|eS U (MV U)<|eS U (BI U (mL ⟨om,om⟩))<|eS U (SX (cT U U) U U)<|eS U (FA 12 U fK U)<|eS U (SX (cT U U) U U)<|eS U (FA 13 U fK U)<|eC U<|mW [4,7] kr (iR ?_<|iR ?_<|ql)
 rotate_left 1
 ·refine NO U U [4,10,13] fun T5 Gi=>?_
  refine vZ (n:=(ln.aa.n+1)) (es:=(List.map oC (List.replicate (ln.aa.n+1) (none:Option Nat)))) U U U Bi om om (by simp only [maxLen]; omega) (by rw [List.map_replicate]; rfl) U fun b6=>?_
  try dsimp only
  refine aK (Gi _ _ (aP [1,3,4,5]) ?_)
  refine N1 4<|NO U U [10,13] fun T7 A2=>?_
  refine vZ (n:=(ln.aa.n+1)) (es:=(List.map oC (List.replicate (ln.aa.n+1) (none:Option Nat)))) U U U Bi om om (by simp only [maxLen]; omega) (by rw [List.map_replicate]; rfl) U fun b8=>?_
  try dsimp only
  refine aK (A2 _ _ (aP [2,4,5,6]) ?_)
  refine N1 10<|NO U U [13] fun T9 H1=>OT (ck.cells (ck.mk ln ri (bx.mk e_A e.length e_C) (bx.mk t_A tms.length t_C) (bx.mk (some ⟨b8,0,none⟩) (ln.aa.n+1) (ln.aa.n+1)) (bx.mk none 0 0))) U yV U U<|aK (H1 _ _ (aP [2,4,5,6]) ?_)
  refine N1 13<|NO U U [] fun T10 G=>OT (ck.cells (ck.mk ln ri (bx.mk e_A e.length e_C) (bx.mk t_A tms.length t_C) (bx.mk (some ⟨b8,0,none⟩) (ln.aa.n+1) (ln.aa.n+1)) (bx.mk (some ⟨b6,0,none⟩) (ln.aa.n+1) (ln.aa.n+1)))) U yV U U<|aK (G _ _ (aP [2,4,5,6]) ?_)
  refine lU ?_
  refine a_ (iF (bk U) (aP [2,4,5,6,0,1,3]) (FG ⟨((some ⟨b8,0,none⟩),(some ⟨b6,0,none⟩)),trivial⟩))
 refine NO U U [7,10,13] fun T5 Gi=>?_
 refine vZ (n:=(ln.aa.n+1)) (es:=(List.map oC (List.replicate (ln.aa.n+1) (none:Option Nat)))) U U U Bi om om (by simp only [maxLen]; omega) (by rw [List.map_replicate]; rfl) U fun b6=>?_
 try dsimp only
 refine aK (Gi _ _ (aP [1,3,4,5]) ?_)
 refine mW [7,10] kr (iR ?_<|iR ?_<|ql)
 rotate_left 1
 ·refine NO U U [7,13] fun T7 A2=>RT (ck.cells (ck.mk ln ri (bx.mk e_A e.length e_C) (bx.mk t_A tms.length t_C) (bx.mk (some ⟨b6,0,none⟩) (ln.aa.n+1) (ln.aa.n+1)) (bx.mk none 0 0))) U yV U U<|aK (A2 _ _ (aP [1,3,4,5]) ?_)
  refine N1 7<|NO U U [13] fun T8 Go=>?_
  refine vZ (n:=(ln.aa.n+1)) (es:=(List.map oC (List.replicate (ln.aa.n+1) (none:Option Nat)))) U U U Bi om om (by simp only [maxLen]; omega) (by rw [List.map_replicate]; rfl) U fun r=>?_
  try dsimp only
  refine aK (Go _ _ (aP [2,4,5,6]) ?_)
  refine N1 13<|NO U U [] fun T10 G=>OT (ck.cells (ck.mk ln ri (bx.mk e_A e.length e_C) (bx.mk t_A tms.length t_C) (bx.mk (some ⟨b6,0,none⟩) (ln.aa.n+1) (ln.aa.n+1)) (bx.mk (some ⟨r,0,none⟩) (ln.aa.n+1) (ln.aa.n+1)))) U yV U U<|aK (G _ _ (aP [2,4,5,6]) ?_)
  refine lU ?_
  refine a_ (iF (bk U) (aP [2,4,5,6,1,0,3]) (FG ⟨((some ⟨b6,0,none⟩),(some ⟨r,0,none⟩)),trivial⟩))
 refine NO U U [10,13] fun T7 A2=>?_
 refine vZ (n:=(ln.aa.n+1)) (es:=(List.map oC (List.replicate (ln.aa.n+1) (none:Option Nat)))) U U U Bi om om (by simp only [maxLen]; omega) (by rw [List.map_replicate]; rfl) U fun b8=>?_
 try dsimp only
 refine aK (A2 _ _ (aP [2,4,5,6]) ?_)
 refine N1 10<|NO U U [13] fun T9 H1=>OT (ck.cells (ck.mk ln ri (bx.mk e_A e.length e_C) (bx.mk t_A tms.length t_C) (bx.mk (some ⟨b6,0,none⟩) (ln.aa.n+1) (ln.aa.n+1)) (bx.mk none 0 0))) U yV U U<|aK (H1 _ _ (aP [2,4,5,6]) ?_)
 refine N1 13<|NO U U [] fun T10 G=>OT (ck.cells (ck.mk ln ri (bx.mk e_A e.length e_C) (bx.mk t_A tms.length t_C) (bx.mk (some ⟨b6,0,none⟩) (ln.aa.n+1) (ln.aa.n+1)) (bx.mk (some ⟨b8,0,none⟩) (ln.aa.n+1) (ln.aa.n+1)))) U yV U U<|aK (G _ _ (aP [2,4,5,6]) ?_)
 refine lU ?_
 refine a_ (iF (bk U) (aP [2,4,5,6,1,0,3]) (FG ⟨((some ⟨b6,0,none⟩),(some ⟨b8,0,none⟩)),trivial⟩))
end
section
open Go.RowKit
theorem DM (l:br) (kA:OA) (kC:Nat) (az:List RA) (cA:OA) (cC:Nat) (bA:OA) (bC g1:Nat) (bm:Int) (g2:Nat) (hin:eo l az):
 dK Tryz.prog 43 [(vP g1),(vP g2)] [(rd kA l.aS.length 9 (l.aS.map au.cells)),(rd cA l.aj.length 2 (List.zipWith ay.cells l.aj az)),(dU (bo ay.gn l.aj az)),(rd bA l.aa.length 4 (l.aa.map bK.cells)),(cx g1 28 (ct.cells (jW l kA kC cA cC bA bC))),(cx g2 3 [(vI bm)])] (vI (jB l bm)):=by
 have K:=hin.se
 have J:=hin.sb
 have H:=hin.nP
 have AA:=hin.r9
 refine bG kr Tryz.func43 U U fun L Q hQ hN=>?_
 try dsimp only
 refine WS fun _ B=>bE 1 U<|RK B<|aq fun _ C=>WS fun _ D=>rP 5 [0,1] (mr 4 U (mr 5 U I)) ?_
 refine eB (xs:=[.tmp 7]) (cs:=[(vI bm)]) U dp ky U U U U (by simp [Value.cells]) U U fun G=>?_
 refine rS (CL (dK.eq (ik 0 ((l.aa.length:Int)-1) ([bm]) (some ⟨G,0,none⟩) 1 (by (simp; done))) cE) (ax (bu 0 U U (by simp [bR]) U)<|aN) U) ?_
 refine rP 1 [] I ?_
 refine RK D<|cw U (bg fun A=>?_) (bf fun A=>?_)
 ·refine WS fun _ E=>rP 1 [] I ?_
  refine RK E<|av<|Q1 hQ U U U ?_
  exact cI (if_neg om).symm
 refine WK C<|WS fun _ F=>rP 1 [] I ?_
 refine RK F<|av<|Q1 hQ U U U ?_
 exact cI (if_pos om).symm
theorem LK (l:br) (kA:OA) (kC:Nat) (az:List RA) (cA:OA) (cC:Nat) (bA:OA) (bC:Nat) (r:cD) (sgA:OA) (sgC:Nat) (hin:eo l az) (hsl:r.ag.length≤1000000):
 p9 Tryz.prog 42 [(vA (ct.cells (jW l kA kC cA cC bA bC))),(vA (cN.cells (jr r sgA sgC))),(vS none 0 0)] [(rd kA l.aS.length 9 (l.aS.map au.cells)),(rd cA l.aj.length 2 (List.zipWith ay.cells l.aj az)),(dU (bo ay.gn l.aj az)),(rd bA l.aa.length 4 (l.aa.map bK.cells)),(rd sgA r.ag.length 2 (r.ag.map aI.cells))] (fun (x:Bool×Int×Nat×(OA)×Nat×(OA)×Nat×(List Nat)×(List FM)×(List Nat)×(OA)×Nat×(List FM)×(List Nat)×(OA)×Nat)=>bif x.1 then (vT [(Value.pointer (some ⟨x.2.2.1,0,none⟩)),(vI 0)]) else (vT [(Value.pointer none),(vI x.2.1)])) (fun (x:Bool×Int×Nat×(OA)×Nat×(OA)×Nat×(List Nat)×(List FM)×(List Nat)×(OA)×Nat×(List FM)×(List Nat)×(OA)×Nat)=>(x.1=true→(dW l r 0=0∧vW (cm l r) x.2.2.2.2.2.2.2.2.1∧sL (cm l r) x.2.2.2.2.2.2.2.2.2.2.2.2.1∧x.2.2.2.2.2.2.2.2.2.1.length=x.2.2.2.2.2.2.2.2.1.length∧x.2.2.2.2.2.2.2.2.2.2.2.2.2.1.length=x.2.2.2.2.2.2.2.2.2.2.2.2.1.length∧x.2.2.2.2.2.2.2.1.length=(cO l r.ag r.ag.length).length))∧(x.1=false→(x.2.1=dW l r 0∧ ¬ dW l r 0=0))) (fun (x:Bool×Int×Nat×(OA)×Nat×(OA)×Nat×(List Nat)×(List FM)×(List Nat)×(OA)×Nat×(List FM)×(List Nat)×(OA)×Nat)=>bif x.1 then [(cx x.2.2.1 150 (ck.cells (ck.mk (jW l kA kC cA cC bA bC) (jr r sgA sgC) (bx.mk x.2.2.2.1 ((cr l l.aa.length).length) x.2.2.2.2.1) (bx.mk x.2.2.2.2.2.1 ((cO l r.ag r.ag.length).length) x.2.2.2.2.2.2.1) (bx.mk x.2.2.2.2.2.2.2.2.2.2.1 x.2.2.2.2.2.2.2.2.1.length x.2.2.2.2.2.2.2.2.2.2.2.1) (bx.mk x.2.2.2.2.2.2.2.2.2.2.2.2.2.2.1 x.2.2.2.2.2.2.2.2.2.2.2.2.1.length x.2.2.2.2.2.2.2.2.2.2.2.2.2.2.2)))),(own x.2.2.2.1 x.2.2.2.2.1 3 1 ((cr l l.aa.length).map iC)),(own x.2.2.2.2.2.1 x.2.2.2.2.2.2.1 153 1 (List.zipWith gD (cO l r.ag r.ag.length) x.2.2.2.2.2.2.2.1)),(bU (bo qf (cO l r.ag r.ag.length) x.2.2.2.2.2.2.2.1)),(own x.2.2.2.2.2.2.2.2.2.2.1 x.2.2.2.2.2.2.2.2.2.2.2.1 156 1 (List.zipWith gD x.2.2.2.2.2.2.2.2.1 x.2.2.2.2.2.2.2.2.2.1)),(bU (bo m6 x.2.2.2.2.2.2.2.2.1 x.2.2.2.2.2.2.2.2.2.1)),(own x.2.2.2.2.2.2.2.2.2.2.2.2.2.2.1 x.2.2.2.2.2.2.2.2.2.2.2.2.2.2.2 156 1 (List.zipWith gD x.2.2.2.2.2.2.2.2.2.2.2.2.1 x.2.2.2.2.2.2.2.2.2.2.2.2.2.1)),(bU (bo m6 x.2.2.2.2.2.2.2.2.2.2.2.2.1 x.2.2.2.2.2.2.2.2.2.2.2.2.2.1))] else []):=by
 have R8:=hin.se
 have R6:=hin.sb
 have R4:=hin.nP
 have R5:=hin.r9
 have R7:=hin.side
 refine fF kr Tryz.func42 U U fun w0 Q hQ hN=>?_
 try dsimp only
 refine WS fun _ M2=>eL U fun b2=>eL U fun b3=>bE 2 U<|RK M2<|aq fun _ NE=>WS fun _ Ne=>e9 1 [] (mc 1 U I) U<|rS (CL (xp l kA kC az cA cC bA bC hin) (bw [2,3,4,5]) U)<|bE 1 U<|RK Ne<|WS fun _ OK=>rP 2 [] I ?_
 refine RK OK<|cw U (bg fun B=>?_) (bf fun B=>?_)
 ·refine WS fun _ OM=>rP 3 [] I ?_
  refine RK OM<|av ?_
  refine LX hQ (false,(dJ l),0,none,0,none,0,[],[],[],none,0,[],[],none,0) [] [] I U (by first|rfl|(show List.all _ _=true; simp only [cond_true,fu,List.all_nil,pA,qE,Bool.and_true]; rfl)) U U ?_
  refine ⟨yv,fun _=>?_⟩; first|exact E3 (gE (r:=r) (me:=0) B) B|exact nK (dh (me:=0) A (fun q:eg l r=>by have p:=q.time; have s:=q.len; omega))|exact nK (dh (me:=0) A (kx hx (by unfold h_ iA; omega)))|exact nK (g5 (me:=0) A H (by first|rfl|exact h156) (show hP (cm l r)=[] from il (Int.natCast_eq_zero.1 C)))
 refine WK NE<|aq fun _ Oi=>WS fun _ w=>?_
 have A:dJ l=0:=B
 obtain ⟨K5,e⟩:=dZ A
 have Or:=e.head
 unfold fp at Or
 refine rP 2 [] (mc 0 U I) ?_
 refine eB (xs:=[.tmp 24]) (cs:=[(vI r.Start)]) U dp ky U U U U (by simp [Value.cells]) U U fun LT=>?_
 refine rS (CL (dK.eq (ik 0 86400000 ([r.Start]) (some ⟨LT,0,none⟩) 1 sd) cE) (ax (bu 0 U U (by simp [bR]) U)<|aN) U) ?_
 refine rP 2 [] I ?_
 refine bZ (t:=28) U (bg fun Lo=>?_) (bf fun Lo=>?_)
 ·refine bE 14 U<|RK w<|aT U<|WS fun _ A5=>rP 2 [] I ?_
  refine RK A5<|av ?_
  refine LX hQ (false,51,0,none,0,none,0,[],[],[],none,0,[],[],none,0) [] [] I U (by first|rfl|(show List.all _ _=true; simp only [cond_true,fu,List.all_nil,pA,qE,Bool.and_true]; rfl)) U U ?_
  refine ⟨yv,fun _=>?_⟩; first|exact E3 (gE (r:=r) (me:=0) B) B|exact nK (dh (me:=0) A (fun q:eg l r=>by have p:=q.time; have s:=q.len; omega))|exact nK (dh (me:=0) A (kx hx (by unfold h_ iA; omega)))|exact nK (g5 (me:=0) A H (by first|rfl|exact h156) (show hP (cm l r)=[] from il (Int.natCast_eq_zero.1 C)))
 refine rP 4 [] (mc 1 U I) ?_
 refine eB (xs:=[.tmp 32]) (cs:=[(vI r.gf)]) U dp ky U U U U (by simp [Value.cells]) U U fun La=>?_
 refine rS (CL (dK.eq (ik r.Start 86400000 ([r.gf]) (some ⟨La,0,none⟩) 1 sd) cE) (ax (bu 0 U U (by simp [bR]) U)<|aN) U) ?_
 refine rP 3 [] I ?_
 refine bZ (t:=37) U (bg fun L0=>?_) (bf fun L0=>?_)
 ·refine bE 5 U<|RK w<|aT U<|WS fun _ A6=>rP 2 [] I ?_
  refine RK A6<|av ?_
  refine LX hQ (false,51,0,none,0,none,0,[],[],[],none,0,[],[],none,0) [] [] I U (by first|rfl|(show List.all _ _=true; simp only [cond_true,fu,List.all_nil,pA,qE,Bool.and_true]; rfl)) U U ?_
  refine ⟨yv,fun _=>?_⟩; first|exact E3 (gE (r:=r) (me:=0) B) B|exact nK (dh (me:=0) A (fun q:eg l r=>by have p:=q.time; have s:=q.len; omega))|exact nK (dh (me:=0) A (kx hx (by unfold h_ iA; omega)))|exact nK (g5 (me:=0) A H (by first|rfl|exact h156) (show hP (cm l r)=[] from il (Int.natCast_eq_zero.1 C)))
 refine rP 5 [] (mc 2 U I) ?_
 refine RK w<|cw U (aV fun L2=>?_) (aU fun L2=>?_)
 ·refine WS fun _ A7=>rP 2 [] I ?_
  refine RK A7<|av ?_
  refine LX hQ (false,51,0,none,0,none,0,[],[],[],none,0,[],[],none,0) [] [] I U (by first|rfl|(show List.all _ _=true; simp only [cond_true,fu,List.all_nil,pA,qE,Bool.and_true]; rfl)) U U ?_
  refine ⟨yv,fun _=>?_⟩; first|exact E3 (gE (r:=r) (me:=0) B) B|exact nK (dh (me:=0) A (fun q:eg l r=>by have p:=q.time; have s:=q.len; omega))|exact nK (dh (me:=0) A (kx hx (by unfold h_ iA; omega)))|exact nK (g5 (me:=0) A H (by first|rfl|exact h156) (show hP (cm l r)=[] from il (Int.natCast_eq_zero.1 C)))
 refine WK Oi<|WS fun _ A8=>rS (SX (bq (xs:=[(0,.const (vI (-1)))]) (cs:=(aI.cells (aI.mk (-1) 0))) U U (bp Kb U)) U U)<|AL U Gz fun Y=>fR U vm U<|RK A8<|aq fun _ A9=>dM cy [5,6,7,8] [] [] [0,1,2,3,4,5,6,7,8,9] [] U U U U U<|eS U (LW 4 U cq U U)<|eS U (LW 3 U cq U U)<|eS U (FA 3 U fK U)<|eS U (L1 (vS bA l.aa.length bC) 4 U cq U U)<|eS U (LN U OO)<|eC U<|cv U fun T18 IO=>?_
 refine vZ (n:=l.aa.length) (es:=(List.map oC (List.replicate l.aa.length (none:Option Nat)))) U U U NL om om (by simp only [maxLen]; omega) (by rw [List.map_replicate]; rfl) U fun E=>?_
 try dsimp only
 refine aK (IO _ _ (aP [1,2,3,4,5,6,7,8,9,10]) ?_)
 refine cv U fun T20 IP=>rS (SX (bq (xs:=[(0,.tmp 44),(1,.tmp 45),(3,.tmp 49)]) (cs:=(ck.cells (ck.mk (jW l kA kC cA cC bA bC) (jr r sgA sgC) (bx.mk none 0 0) (bx.mk (some ⟨E,0,none⟩) l.aa.length l.aa.length) (bx.mk none 0 0) (bx.mk none 0 0)))) U U (bp NP U)) U U)<|aK (IP _ _ (aP [1,2,3,4,5,6,7,8,9,10]) ?_)
 refine cv U fun T21 IR=>eL U fun M=>aK (IR _ _ (aP [2,3,4,5,6,7,8,9,10,11]) ?_)
 refine cv U fun T23 Ic=>rS (AG U)<|aK (Ic _ _ (aP [2,3,4,5,6,7,8,9,10,11]) ?_)
 refine fP U<|KK A9<|aq fun _ Bx=>WS fun _ B3=>rP 4 [] (mc 6 U I) ?_
 refine RK B3<|aF ?_
 rw [u6]
 refine eP 3 1<|od ?_
 have G:(0≤l.aa.length)∧(([]:List Nat).length=0):=by exact ⟨Nat.zero_le _,rfl⟩
 refine bQ (ι:={z:Nat×(OA)×Nat×(List Nat) // (z.1≤l.aa.length)∧(z.2.2.2.length=z.1)}) [2,3,4,6,7,9,10,54] [4,7,8,9,10,11,12,13] U U (fun z=>[(55,(vI (z.1.1:Int)))]) (fun z=>[(bU (bo qf (List.replicate z.1.1 ([]:TM)) z.1.2.2.2)),(own z.1.2.1 z.1.2.2.1 3 1 ((cr l z.1.1).map iC)),(cx M 150 (ck.cells (ck.mk (jW l kA kC cA cC bA bC) (jr r sgA sgC) (bx.mk z.1.2.1 ((cr l z.1.1).length) z.1.2.2.1) (bx.mk (some ⟨E,0,none⟩) l.aa.length l.aa.length) (bx.mk none 0 0) (bx.mk none 0 0)))),(own (some ⟨E,0,none⟩) l.aa.length 153 1 (List.map oC (dE z.1.2.2.2 l.aa.length)))]) (fun _=>rfl) (fun _=>rfl) (fun z=>l.aa.length-z.1.1) ⟨(0,none,0,([]:List Nat)),G⟩ (bk U) (aP [4,7,8,9,10,11,12,13,0,1,2,3]) ?_
 clear G
 rintro ⟨⟨b,a,c,fb⟩,⟨y,Z⟩⟩ J26 A4
 try dsimp only at y Z
 try dsimp only
 have Os:(dE fb l.aa.length).length=l.aa.length:=nu om
 refine WS fun _ B9=>rP 1 [] I ?_
 refine RK B9<|aq fun _ Ci=>cw U (aV fun Lq=>?_) (aU fun Lq=>?_)
 ·refine WK Ci<|aq fun _ Ck=>aF<|WS fun _ Cp=>rP 2 [] I ?_
  refine RK Cp<|aq fun _ Cx=>dM cy [12,13,16] [4] [0] [0,1,2,3,4,5,6,7,8,11] [0,1,2,3,4,5,6,7,8,9,10,11] U U U U U<|eS U (MV U)<|eS U (MV U)<|eS U (SX (cT U U) U U)<|eS U (FA 10 U fK U)<|fS U (L1 (vS a ((cr l b).length) c) 10 U cq U U)<|eS U (LW 2 U cq U U)<|eS U (MV U) ?_
  refine eS U (CL (Jr l kA kC az cA cC bA bC (b:Int) hin sd (by exact e.tW) sd) (bw [3,4,5,6]) U) ?_
  have R9:=AX K5 e.tW b
  have ST:=e.PA b om
  simp only [Int.toNat_natCast]
  refine eS U (BI U (tQ ⟨om,om⟩))<|eS U (FA 1 U fK U)<|eS U (L1 (vI l.hG) 2 U cq U U) ?_
  refine eS U (CL (HK (1000*(lz l (b:Int).toNat)) l.hG sd sd) (aN) U) ?_
  refine eS U (SX (cT U U) U U)<|eS U (FA 10 U fK U)<|eC U<|jF U fun T33 Id=>eB (xs:=[.tmp 69]) (cs:=[(vI (o0 (1000*(lz l (b:Int).toNat)) l.hG))]) U dp ky U U U U (by simp [Value.cells]) U U fun RS=>aK (Id _ _ (aP [1,2,3,4,5,6,7,8,9,12]) (aP [1,2,3,4,5,6,7,8,9,10,11,12]) ?_)
  refine cv U fun T35 If=>?_
  refine dH (es2:=(List.map iC (cr l (b+1)))) (m':=(cr l (b+1)).length) 10 U U U r8 U U (by simp [cW]) (bu (es:=List.map iC [(o0 (1000*(lz l (b:Int).toNat)) l.hG)]) 0 U U (by simp [bR]) U) (kZ _) (by have:=cW (l:=l) (n:=b); first|omega|(simp; omega)) (by simp only [maxLen,cW]; omega) (by rw [q_]; simp [ej]) (by simp [cW]) U fun AO Am=>?_
  try dsimp only
  refine aK (If _ _ (aP [1,2,3,4,5,6,7,8,9,12]) ?_)
  refine cv U fun T38 Ig=>Q7 (ck.cells (ck.mk (jW l kA kC cA cC bA bC) (jr r sgA sgC) (bx.mk AO ((cr l (b+1)).length) Am) (bx.mk (some ⟨E,0,none⟩) l.aa.length l.aa.length) (bx.mk none 0 0) (bx.mk none 0 0))) U F9 U U<|aK (Ig _ _ (aP [1,2,3,4,5,6,7,8,9,12]) ?_)
  refine fP U<|KK Cx<|aw<|bE 1 U<|rS (SX (cT U U) U U)<|rP 3 [] (mc 11 U I) ?_
  refine mG (kV:=iV) U U fun K=>?_
  try dsimp only
  obtain ⟨PY,LA⟩:=aM (dE fb l.aa.length) b om
  have hx41m:(List.map oC (dE fb l.aa.length))[b]? =some (oC PY):=by rw [fX,LA]; rfl
  refine rS (IA b U (ak (n:=l.aa.length) 13 U sq) xr dc om om) ?_
  have In:((dE fb l.aa.length).set b (some K))=(dE (fb++[K]) l.aa.length):=by exact rG om om
  refine gR (k:=b) (o:=0) (vs:=[(Value.map (some K))]) (es':=(List.map oC (dE (fb++[K]) l.aa.length))) (C':=[_,_,_,_,_,_,_,_,_,_,_,_,_,(own (some ⟨E,0,none⟩) l.aa.length 153 1 (List.map oC (dE (fb++[K]) l.aa.length)))]) 13 U U U EA U U U U hx41m U dc (by exact (List.map_set (f:=oC) (l:=(dE fb l.aa.length)) (i:=b) (a:=(some K))).symm.trans (congrArg _ In)) U<|aK<|aO<|KK Ck<|aw<|rP 2 [] I ?_
  refine aK<|xy (X':=bo qf (List.replicate (b+1) ([]:TM)) (fb++[K])) 10 0 U U (EK Z) ?_
  try dsimp only
  have Io:(vI (((b+1):Nat):Int))=(vI ((b:Int)+1)):=by exact cI om
  refine a_ (A4 ⟨((b+1),AO,Am,(fb++[K])),⟨om,by simp; omega⟩⟩ _ _ _ U os (cK 8<|bj U Io<|dv.nil _) (aP [2,3,4,5,6,7,8,9,0,10,11,12]))
 refine bL<|ab<|ab<|aH<|KK Bx<|aq fun _ C0=>WS fun _ C1=>rP 4 [] (mc 1 U I) ?_
 refine RK C1<|aF ?_
 rw [show (List.replicate b ([]:TM))=cO l r.ag 0 from by rw [wU,show b=l.aa.length by omega]]
 rw [show cr l b=cr l l.aa.length from by rw [show b=l.aa.length by omega]]
 have G:(0≤r.ag.length)∧(oS l r.ag 0):=by exact ⟨Nat.zero_le _,vi⟩
 refine bQ (ι:={z:Nat // (z≤r.ag.length)∧(oS l r.ag z)}) [2,3,4,6,7,9,10,83,84] [1,2,3,4,5,6,7,9,10,11] U U (fun z=>[(85,(vI (z.1:Int)))]) (fun z=>[(cx Y 78 (aI.cells (kP r.ag z.1))),(bU (bo qf (cO l r.ag z.1) fb))]) (fun _=>rfl) (fun _=>rfl) (fun z=>r.ag.length-z.1) ⟨0,G⟩ (bk U) (aP [1,2,3,4,5,6,7,9,10,11,0,8]) ?_
 clear G
 rintro ⟨i,⟨LE,D⟩⟩ J46 V
 try dsimp only
 have PP:(cO l r.ag i).length=l.aa.length:=gN
 have Os:(dE fb l.aa.length).length=l.aa.length:=nu om
 refine WS fun _ C2=>rP 1 [] I ?_
 refine RK C2<|aq fun _ C3=>bV U (aU fun L3=>?_) (aV fun L3=>?_)
 ·refine bL<|ab<|ab<|aH<|KK C0<|aq fun _ GE=>aq fun _ GT=>?_
  have H:eg l r:=wZ om om D om
  refine aw<|rP 3 [] I ?_
  refine RK GT<|aF<|pt 1<|js fun R81 P1=>WS fun _ Gi=>rS (SX (eu (r:= .bool false) U U U m0) U U)<|RK Gi<|aq fun _ Pq=>cj U<|bL<|ab<|ab<|aH<|KK GE<|aq fun _ Go=>?_
  rw [show cO l r.ag i=cO l r.ag r.ag.length from by rw [show i=r.ag.length by omega]]
  have AN:(cO l r.ag r.ag.length).length=l.aa.length:=gN
  rw [show (List.map oC (dE fb l.aa.length))=(List.zipWith gD (cO l r.ag r.ag.length) fb) from RN om AN]
  rw [show (cx M 150 (ck.cells (ck.mk (jW l kA kC cA cC bA bC) (jr r sgA sgC) (bx.mk a ((cr l l.aa.length).length) c) (bx.mk (some ⟨E,0,none⟩) l.aa.length l.aa.length) (bx.mk none 0 0) (bx.mk none 0 0))))=(cx M 150 (ck.cells (ck.mk (jW l kA kC cA cC bA bC) (jr r sgA sgC) (bx.mk a ((cr l l.aa.length).length) c) (bx.mk (some ⟨E,0,none⟩) ((cO l r.ag r.ag.length).length) l.aa.length) (bx.mk none 0 0) (bx.mk none 0 0)))) from by rw [AN]]
  have K8:=lG K5 e H
  have P2:(cr l l.aa.length).length=l.aa.length:=cW
  refine aw<|rP 1 [] I ?_
  refine oD 8 U U U U (Cc (jW l kA kC cA cC bA bC) (jr r sgA sgC) (cr l l.aa.length) (cO l r.ag r.ag.length) a c fb (some ⟨E,0,none⟩) l.aa.length M (by exact K8) (by exact cW.symm) (by rw [AN]; omega)) U (eA 7 U U (jw sm) (eA 9 U U (jw (by rw [List.length_zipWith]; omega)) (eA 11 U U qT rf))) U (fun Pi Op=>?_)
  obtain ⟨J,AA,S,T,AB,R,O,P⟩:=Pi
  refine E2 (X:=[(cx M 150 (ck.cells (ck.mk (jW l kA kC cA cC bA bC) (jr r sgA sgC) (bx.mk a ((cr l l.aa.length).length) c) (bx.mk (some ⟨E,0,none⟩) ((cO l r.ag r.ag.length).length) l.aa.length) (bx.mk S J.length T) (bx.mk O AB.length P)))),(own S T 156 1 (List.zipWith gD J AA)),(bU (bo m6 J AA)),(own O P 156 1 (List.zipWith gD AB R)),(bU (bo m6 AB R))]) 8 U U ?_
  try dsimp only
  obtain ⟨AC,KV,K0,K4⟩:=Op
  dsimp only at AC KV K0 K4
  refine RK Go<|aq fun _ Hi=>WS fun _ H1=>rP 1 [] I ?_
  refine cX (uM (jW l kA kC cA cC bA bC) (jr r sgA sgC) (cr l l.aa.length) (cO l r.ag r.ag.length) a c fb (some ⟨E,0,none⟩) l.aa.length J AB AA S T R O P M (by exact K8) sd (by exact cW.symm) (by exact AC) sd) (ax (ak (n:=(cr l l.aa.length).length) 12 U sm)<|ax (ak (n:=(cO l r.ag r.ag.length).length) 13 U (by rw [List.length_zipWith]; omega))<|ax (dj 15 U lE)<|ax (ak (n:=J.length) 1 U (by rw [List.length_zipWith]; omega))<|ax (dj 2 U lE)<|ax (ak (n:=AB.length) 3 U (by rw [List.length_zipWith]; omega))<|ax (dj 4 U lE)<|gj 0 U U<|aN) U fun Pl Qr=>?_
  obtain ⟨Qv,R3⟩:=Pl
  try dsimp only
  refine rP 2 [] I ?_
  refine RK H1<|bV U (aU fun C=>?_) (aV fun C=>?_)
  ·refine WK Hi<|WS fun _ v=>rP 3 [] I ?_
   refine RK v<|av ?_
   refine LX hQ (true,0,M,a,c,(some ⟨E,0,none⟩),l.aa.length,fb,J,AA,S,T,AB,R,O,P) [1,13,14,16,2,3,4,5] [] I U (by first|rfl|(show List.all _ _=true; simp only [cond_true,fu,List.all_nil,pA,qE,Bool.and_true]; rfl)) U U ?_
   exact ⟨fun _=>⟨lj A H (by first|rfl|exact h156) (fun q=>C (congrArg (fun z:List Int=>(z.length:Int)) q)),AC,KV,K0,K4,dso⟩,QB⟩
  refine WS fun _ u=>rP 2 [] I ?_
  refine RK u<|av ?_
  refine LX hQ (false,8,0,none,0,none,0,[],[],[],none,0,[],[],none,0) [] [] I U (by first|rfl|(show List.all _ _=true; simp only [cond_true,fu,List.all_nil,pA,qE,Bool.and_true]; rfl)) U U ?_
  refine ⟨yv,fun _=>?_⟩; first|exact E3 (gE (r:=r) (me:=0) B) B|exact nK (dh (me:=0) A (fun q:eg l r=>by have p:=q.time; have s:=q.len; omega))|exact nK (dh (me:=0) A (kx hx (by unfold h_ iA; omega)))|exact nK (g5 (me:=0) A H (by first|rfl|exact h156) (show hP (cm l r)=[] from il (Int.natCast_eq_zero.1 C)))
 refine WK C3<|aq fun _ W=>aF<|WS fun _ Di=>rP 1 [] I ?_
 obtain ⟨x,hx⟩:=aM r.ag i om
 have PU:=bO aI.cells hx
 refine rS (IA i U (aG 6 U) yC dc om om)<|rS (lS i 0 (aI.cells x) U cq (aG 6 U) PU U dc U U)<|AL U Gz fun R0=>bE 1 U<|fR U vm U<|RK Di<|aq fun _ g=>WS fun _ L=>rP 6 [0,1] (mc 2 U (mc 0 U I)) ?_
 refine eB (xs:=[.tmp 95]) (cs:=[(vI x.fI)]) U dp ky U U U U (by simp [Value.cells]) U U fun Li=>?_
 refine rS (CL (dK.eq (ik 0 ((l.aa.length:Int)-1) ([x.fI]) (some ⟨Li,0,none⟩) 1 sd) cE) (ax (bu 0 U U (by simp [bR]) U)<|aN) U) ?_
 refine rP 2 [] I ?_
 refine bZ (t:=99) U (bg fun L5=>?_) (bf fun L5=>?_)
 ·refine bE 27 U<|RK L<|aT U<|WS fun _ Do=>rP 2 [] I ?_
  refine RK Do<|av ?_
  refine LX hQ (false,51,0,none,0,none,0,[],[],[],none,0,[],[],none,0) [] [] I U (by first|rfl|(show List.all _ _=true; simp only [cond_true,fu,List.all_nil,pA,qE,Bool.and_true]; rfl)) U U ?_
  refine ⟨yv,fun _=>?_⟩; first|exact E3 (gE (r:=r) (me:=0) B) B|exact nK (dh (me:=0) A (fun q:eg l r=>by have p:=q.time; have s:=q.len; omega))|exact nK (dh (me:=0) A (kx hx (by unfold h_ iA; omega)))|exact nK (g5 (me:=0) A H (by first|rfl|exact h156) (show hP (cm l r)=[] from il (Int.natCast_eq_zero.1 C)))
 refine rP 2 [] (mc 1 U I) ?_
 refine eB (xs:=[.tmp 101]) (cs:=[(vI x.Read)]) U dp ky U U U U (by simp [Value.cells]) U U fun Lk=>?_
 refine rS (CL (dK.eq (ik 0 86400000 ([x.Read]) (some ⟨Lk,0,none⟩) 1 sd) cE) (ax (bu 0 U U (by simp [bR]) U)<|aN) U) ?_
 refine rP 3 [] I ?_
 refine bZ (t:=106) U (bg fun A0=>?_) (bf fun A0=>?_)
 ·refine bE 20 U<|RK L<|aT U<|WS fun _ EQ=>rP 2 [] I ?_
  refine RK EQ<|av ?_
  refine LX hQ (false,51,0,none,0,none,0,[],[],[],none,0,[],[],none,0) [] [] I U (by first|rfl|(show List.all _ _=true; simp only [cond_true,fu,List.all_nil,pA,qE,Bool.and_true]; rfl)) U U ?_
  refine ⟨yv,fun _=>?_⟩; first|exact E3 (gE (r:=r) (me:=0) B) B|exact nK (dh (me:=0) A (fun q:eg l r=>by have p:=q.time; have s:=q.len; omega))|exact nK (dh (me:=0) A (kx hx (by unfold h_ iA; omega)))|exact nK (g5 (me:=0) A H (by first|rfl|exact h156) (show hP (cm l r)=[] from il (Int.natCast_eq_zero.1 C)))
 refine rP 7 [0,1] (mc 2 U (mc 13 U I)) ?_
 refine bZ (t:=113) U (aV fun A1=>?_) (aU fun A1=>?_)
 ·refine bE 13 U<|RK L<|aT U<|WS fun _ Eq=>rP 2 [] I ?_
  refine RK Eq<|av ?_
  refine LX hQ (false,51,0,none,0,none,0,[],[],[],none,0,[],[],none,0) [] [] I U (by first|rfl|(show List.all _ _=true; simp only [cond_true,fu,List.all_nil,pA,qE,Bool.and_true]; rfl)) U U ?_
  refine ⟨yv,fun _=>?_⟩; first|exact E3 (gE (r:=r) (me:=0) B) B|exact nK (dh (me:=0) A (fun q:eg l r=>by have p:=q.time; have s:=q.len; omega))|exact nK (dh (me:=0) A (kx hx (by unfold h_ iA; omega)))|exact nK (g5 (me:=0) A H (by first|rfl|exact h156) (show hP (cm l r)=[] from il (Int.natCast_eq_zero.1 C)))
 refine rP 6 [0,1] (mc 2 U (mc 13 U I)) ?_
 refine cL (t:=119) U (aU fun A2=>?_) (aV fun A2=>?_)
 ·refine bE 7 U<|RK L<|cj U<|WK g<|aq fun _ j=>WS fun _ Fd=>rP 2 [0,1] (mc 4 U (mc 2 U I)) ?_
  refine rS (CL (zX l kA kC az cA cC bA bC x hin sd sd) (bw [5,6,7,8]) U) ?_
  refine AL U ed fun R2=>fR U c_ U<|RK Fd<|WS fun _ Fn=>rP 5 [] (mc 0 U I) ?_
  refine RK Fn<|bV U (aU fun F=>?_) (aV fun F=>?_)
  ·refine WK j<|aw<|rP 1 [] (mc 3 U I) ?_
   refine hE (vs:=(aI.cells x)) (cs':=(aI.cells x)) (C':=[_,_,_,_,_,_,_,_,_,_,_,_,_,_,(cx Y 78 (aI.cells x)),_]) 14 U U U vm U U U U U U U<|aK<|aO<|KK W ?_
   have J6:(aI.cells x)=(aI.cells (kP r.ag (i+1))):=by rw [kg hx]
   rw [J6]
   refine aw<|rP 2 [] I ?_
   refine aK ?_
   rw [show (cO l r.ag i)=(cO l r.ag (i+1)) from (pX hx F).symm]
   have J7:(vI (((i+1):Nat):Int))=(vI ((i:Int)+1)):=by exact cI om
   refine a_ (V ⟨(i+1),⟨om,ju D hx (by unfold h_ iA; omega)⟩⟩ _ _ _ U os (cK 9<|bj U J7<|dv.nil _) (aP [4,5,6,7,8,9,10,11,12,13,14,15]))
  obtain ⟨mb,d⟩:=aM (cO l r.ag i) ((x.fI).toNat) om
  obtain ⟨ga,N⟩:=aM fb ((x.fI).toNat) om
  refine yE 15 d N U U U ?_
  try dsimp only
  refine dA cy 10 kr<|k6 1 U<|dS (SX (cT U U) U U)<|dP 4 [0,1] (mc 14 U (mc 5 U I)) ?_
  have J9:(List.map oC (dE fb l.aa.length))[(x.fI).toNat]? =some (oC (some ga)):=qp (mS N)
  refine dS (IA ((x.fI).toNat) U (ak (n:=l.aa.length) 15 U sq) xr dc om om) ?_
  refine dS (gQ ((x.fI).toNat) 0 (Value.map (some ga)) U cq (ak (n:=(dE fb l.aa.length).length) 15 U sm) J9 U dc U)<|lR 2 [] (mc 2 U I) U<|cM<|jc (kV:=iV) (x:=(i:Int)) (C':=[(kj iV ga (cU jZ (ep mb (i:Int) (cS l x)))),_,_,_,_,_,_,_,_,_,_,_,_,_,_,_,_]) 0 U U U U sk (iK sr) U (gP _ _ _ _).symm U<|RK j<|aw<|rP 1 [] (mc 5 U I) ?_
  refine hE (vs:=(aI.cells x)) (cs':=(aI.cells x)) (C':=[_,_,_,_,_,_,_,_,_,_,_,_,_,_,_,_,(cx Y 78 (aI.cells x))]) 16 U U U vm U U U U U U U<|aK<|aO<|KK W ?_
  have J4:(aI.cells x)=(aI.cells (kP r.ag (i+1))):=by rw [kg hx]
  rw [J4]
  refine aw<|rP 2 [] I ?_
  refine aK ?_
  refine AF (f:=qf) (ms:=(cO l r.ag i)) (m:=(ep mb (i:Int) (cS l x))) 1 0 (by rw [gN]; omega) N U U U ?_
  rw [rT hx om F d]
  have J5:(vI (((i+1):Nat):Int))=(vI ((i:Int)+1)):=by exact cI om
  refine a_ (V ⟨(i+1),⟨om,ju D hx (by unfold h_ iA; omega)⟩⟩ _ _ _ U os (cK 9<|bj U J5<|dv.nil _) (aP [5,6,7,8,9,10,11,12,13,14,15,0]))
 refine rP 7 [0,1] (mc 2 U (mc 13 U I)) ?_
 refine RK L<|cw U (aV fun A3=>?_) (aU fun A3=>?_)
 ·refine WS fun _ Eu=>rP 2 [] I ?_
  refine RK Eu<|av ?_
  refine LX hQ (false,51,0,none,0,none,0,[],[],[],none,0,[],[],none,0) [] [] I U (by first|rfl|(show List.all _ _=true; simp only [cond_true,fu,List.all_nil,pA,qE,Bool.and_true]; rfl)) U U ?_
  refine ⟨yv,fun _=>?_⟩; first|exact E3 (gE (r:=r) (me:=0) B) B|exact nK (dh (me:=0) A (fun q:eg l r=>by have p:=q.time; have s:=q.len; omega))|exact nK (dh (me:=0) A (kx hx (by unfold h_ iA; omega)))|exact nK (g5 (me:=0) A H (by first|rfl|exact h156) (show hP (cm l r)=[] from il (Int.natCast_eq_zero.1 C)))
 refine WK g<|aq fun _ h=>WS fun _ FG=>rP 2 [0,1] (mc 4 U (mc 2 U I)) ?_
 refine rS (CL (zX l kA kC az cA cC bA bC x hin sd sd) (bw [5,6,7,8]) U) ?_
 refine AL U ed fun R1=>fR U c_ U<|RK FG<|WS fun _ FS=>rP 5 [] (mc 0 U I) ?_
 refine RK FS<|bV U (aU fun F=>?_) (aV fun F=>?_)
 ·refine WK h<|aw<|rP 1 [] (mc 3 U I) ?_
  refine hE (vs:=(aI.cells x)) (cs':=(aI.cells x)) (C':=[_,_,_,_,_,_,_,_,_,_,_,_,_,_,(cx Y 78 (aI.cells x)),_]) 14 U U U vm U U U U U U U<|aK<|aO<|KK W ?_
  have J2:(aI.cells x)=(aI.cells (kP r.ag (i+1))):=by rw [kg hx]
  rw [J2]
  refine aw<|rP 2 [] I ?_
  refine aK ?_
  rw [show (cO l r.ag i)=(cO l r.ag (i+1)) from (pX hx F).symm]
  have J3:(vI (((i+1):Nat):Int))=(vI ((i:Int)+1)):=by exact cI om
  refine a_ (V ⟨(i+1),⟨om,ju D hx (by unfold h_ iA; omega)⟩⟩ _ _ _ U os (cK 9<|bj U J3<|dv.nil _) (aP [4,5,6,7,8,9,10,11,12,13,14,15]))
 obtain ⟨mb,d⟩:=aM (cO l r.ag i) ((x.fI).toNat) om
 obtain ⟨ga,N⟩:=aM fb ((x.fI).toNat) om
 refine yE 15 d N U U U ?_
 try dsimp only
 refine dA cy 10 kr<|k6 1 U<|dS (SX (cT U U) U U)<|dP 4 [0,1] (mc 14 U (mc 5 U I)) ?_
 have J8:(List.map oC (dE fb l.aa.length))[(x.fI).toNat]? =some (oC (some ga)):=qp (mS N)
 refine dS (IA ((x.fI).toNat) U (ak (n:=l.aa.length) 15 U sq) xr dc om om) ?_
 refine dS (gQ ((x.fI).toNat) 0 (Value.map (some ga)) U cq (ak (n:=(dE fb l.aa.length).length) 15 U sm) J8 U dc U)<|lR 2 [] (mc 2 U I) U<|cM<|jc (kV:=iV) (x:=(i:Int)) (C':=[(kj iV ga (cU jZ (ep mb (i:Int) (cS l x)))),_,_,_,_,_,_,_,_,_,_,_,_,_,_,_,_]) 0 U U U U sk (iK sr) U (gP _ _ _ _).symm U<|RK h<|aw<|rP 1 [] (mc 5 U I) ?_
 refine hE (vs:=(aI.cells x)) (cs':=(aI.cells x)) (C':=[_,_,_,_,_,_,_,_,_,_,_,_,_,_,_,_,(cx Y 78 (aI.cells x))]) 16 U U U vm U U U U U U U<|aK<|aO<|KK W ?_
 have Iv:(aI.cells x)=(aI.cells (kP r.ag (i+1))):=by rw [kg hx]
 rw [Iv]
 refine aw<|rP 2 [] I ?_
 refine aK ?_
 refine AF (f:=qf) (ms:=(cO l r.ag i)) (m:=(ep mb (i:Int) (cS l x))) 1 0 (by rw [gN]; omega) N U U U ?_
 rw [rT hx om F d]
 have Iw:(vI (((i+1):Nat):Int))=(vI ((i:Int)+1)):=by exact cI om
 refine a_ (V ⟨(i+1),⟨om,ju D hx (by unfold h_ iA; omega)⟩⟩ _ _ _ U os (cK 9<|bj U Iw<|dv.nil _) (aP [5,6,7,8,9,10,11,12,13,14,15,0]))
end
section
open Go.RowKit
theorem Md (l:br) (kA:OA) (kC:Nat) (az:List RA) (cA:OA) (cC:Nat) (bA:OA) (bC:Nat) (r:cD) (sgA:OA) (sgC:Nat) (hin:eo l az) (hsl:r.ag.length≤1000000):
 p9 Tryz.prog 23 [(vA (ct.cells (jW l kA kC cA cC bA bC))),(vA (cN.cells (jr r sgA sgC)))] [(rd kA l.aS.length 9 (l.aS.map au.cells)),(rd cA l.aj.length 2 (List.zipWith ay.cells l.aj az)),(dU (bo ay.gn l.aj az)),(rd bA l.aa.length 4 (l.aa.map bK.cells)),(rd sgA r.ag.length 2 (r.ag.map aI.cells))] (fun (x:(OA)×Nat)=>(vT [(vS x.1 ((hU l r).length) x.2),(vI (dW l r 0))])) (fun (x:(OA)×Nat)=>True) (fun (x:(OA)×Nat)=>[(own x.1 x.2 3 1 ((hU l r).map iC))]):=by
 have A3:=hin.se
 have AC:=hin.sb
 have w:=hin.nP
 have y:=hin.r9
 have A2:=hin.side
 refine fF kr Tryz.func23 U U fun w0 Q hQ hN=>?_
 try dsimp only
 refine WS fun _ g=>eL U fun b2=>eL U fun b3=>bE 2 U<|RK g<|WS fun _ P=>rP 2 [0,1] (mc 1 U (mc 0 U I)) ?_
 refine cX (LK l kA kC az cA cC bA bC r sgA sgC hin hsl) (bw [2,3,4,5,6]) U fun y5 AA=>?_
 obtain ⟨V,v,e,d,F,Y,Z,a,B,AB,G,H,A,E,W,X⟩:=y5
 cases V
 ·obtain ⟨S,he⟩:=AA.2 rfl
  try dsimp only at S he
  subst S
  try dsimp only [cond_true,cond_false,List.cons_append,List.nil_append]
  refine bE 5 U<|RK P<|aq fun _ q=>WS fun _ K=>rP 2 [] I ?_
  refine RK K<|bV U (bf fun J=>?_) (bg fun J=>?_)
  ·exact absurd J he
  refine WS fun _ L=>lk 3 1 ?_
  rw [show (own none 0 3 1 ([]:List (List Value)))=own none 0 3 1 ((hU l r).map iC) from by rw [nE he]; rfl]
  refine bE 1 U<|rP 2 [] I ?_
  refine RK L<|av ?_
  refine LX hQ (none,0) [0] [] I U U U ?_ ?_
  ·first|rfl|(rw [he]; rfl)|(rw [nE he]; rfl)
  ·trivial
 obtain ⟨he,C,R,i,h,k⟩:=AA.1 rfl
 try dsimp only [cond_true,cond_false,List.cons_append,List.nil_append]
 dsimp only at C R i h k
 obtain ⟨f,D,AO,Am⟩:=iM he
 obtain ⟨m,T⟩:=dZ f
 have j:=T.head
 unfold fp at j
 have o:=lG m T D
 have A1:=D.time
 have A0:=D.len
 have s:(cr l l.aa.length).length=l.aa.length:=cW
 have t:(cO l r.ag r.ag.length).length=l.aa.length:=gN
 have AN:B.length=l.aa.length+1:=by have:=C.len; rw [show (cm l r).n=l.aa.length from cW] at this; exact this
 have z:A.length=l.aa.length+1:=by have:=R.len; rw [show (cm l r).n=l.aa.length from cW] at this; exact this
 refine bE 5 U<|RK P<|aq fun _ M=>WS fun _ N=>bE 1 U<|rS (SX (eu (r:= .bool false) U U U xM) U U)<|RK N<|cj U<|WK M<|WS fun _ O=>rP 1 [] I ?_
 refine cX (uM (jW l kA kC cA cC bA bC) (jr r sgA sgC) (cr l l.aa.length) (cO l r.ag r.ag.length) d F a Y Z B A AB G H E W X e (by exact o) sd (by exact cW.symm) (by exact C) sd) (ax (ak (n:=(cr l l.aa.length).length) 1 U sm)<|ax (ak (n:=(cO l r.ag r.ag.length).length) 2 U (by rw [List.length_zipWith]; omega))<|ax (dj 3 U lE)<|ax (ak (n:=B.length) 4 U (by rw [List.length_zipWith]; omega))<|ax (dj 5 U lE)<|ax (ak (n:=A.length) 6 U (by rw [List.length_zipWith]; omega))<|ax (dj 7 U lE)<|gj 0 U U<|aN) U fun p u=>?_
 obtain ⟨b,c⟩:=p
 try dsimp only
 rw [show (hP (cV (jW l kA kC cA cC bA bC) (jr r sgA sgC) (cr l l.aa.length) (cO l r.ag r.ag.length)))=hU l r from (kp he).symm]
 refine rP 2 [] I ?_
 refine RK O<|av ?_
 refine LX hQ (b,c) [0] [] I U U U ?_ ?_
 ·first|rfl|(rw [he]; rfl)|(rw [nE he]; rfl)
 ·trivial
end
section
open Go.RowKit
theorem FQ (ln:ct) (ri:cN) (e:List Int) (tms:List TM) (e_A:OA) (e_C:Nat) (tb:List Nat) (t_A:OA) (t_C:Nat) (fs:List FM) (bs:List FM) (fb:List Nat) (f_A:OA) (f_C:Nat) (bb:List Nat) (b_A:OA) (b_C gw:Nat) (b g1 g2:Nat) (mf:FM) (mb:FM) (hb:b<e.length) (hw:Hy (cV ln ri e tms)) (htb:tb.length=tms.length) (hfw:vW (cV ln ri e tms) fs) (hfb:fb.length=fs.length) (hbw:sL (cV ln ri e tms) bs) (hbb:bb.length=bs.length) (hsg:ri.ag.n≤1000) (hm1:fs[b]? =some mf) (hm2:bs[b+1]? =some mb):
 MF Tryz.prog 70 [] [(vP g1),(vP g2)] [(rd e_A e.length 1 (e.map iC)),(rd t_A tms.length 1 (List.zipWith gD tms tb)),(dU (bo qf tms tb)),(rd f_A fs.length 1 (List.zipWith gD fs fb)),(dU (bo m6 fs fb)),(rd b_A bs.length 1 (List.zipWith gD bs bb)),(dU (bo m6 bs bb)),(cx gw 150 (ck.cells (ck.mk ln ri (bx.mk e_A e.length e_C) (bx.mk t_A tms.length t_C) (bx.mk f_A fs.length f_C) (bx.mk b_A bs.length b_C)))),(cx g1 108 [(vP gw)]),(cx g2 3 [(vI (b:Int))])] ([]:List (Int×ai)) (fun ys x ys'=> ∃ q,q∈qt (cV ln ri e tms) b mf mb∧x=NK q∧ys'=ys++[q]) (fun ys=> ∀ q∈qt (cV ln ri e tms) b mf mb,q∈ys):=by
 have KV:e.length≤6:=hw.n
 have K0:tms.length=e.length:=hw.times
 have J4:fs.length=e.length+1:=hfw.len
 have J3:bs.length=e.length+1:=hbw.len
 refine EV kr Tryz.func70 U U fun l J Z A0 w0 Q hY FS FG hQ hN=>?_
 try dsimp only
 refine WS fun _ Fd=>wq U U fun b2=>RK Fd<|WS fun _ Fn=>rP 2 [0,1] (mr 10 U (mr 11 U I)) ?_
 refine cX (vd gw b) (aN) U fun y4 K4=>?_
 obtain ⟨C3,Di⟩:=y4
 try dsimp only
 refine RK Fn<|aF<|jq 4 U (by exact fun _ h=>h)<|jq 6 U (by exact fun _ h=>h)<|jq 8 U (by exact fun _ h=>h)<|jq 14 U (by exact fun _ h=>h) ?_
 refine uu (L0:=[(0,(Value.func (.yield l) #[] #[])),(1,(vP g1)),(2,(vP g2)),(3,(vP b2))]) (F:=[(rd e_A e.length 1 (e.map iC)).ro,(rd t_A tms.length 1 (List.zipWith gD tms tb)).ro,(dU (bo qf tms tb)).ro,(cx gw 150 (ck.cells (ck.mk ln ri (bx.mk e_A e.length e_C) (bx.mk t_A tms.length t_C) (bx.mk f_A fs.length f_C) (bx.mk b_A bs.length b_C)))).ro,(cx C3 108 [(vP gw)]),(cx Di 3 [(vI (b:Int))])]) (fun k (y:(List (Int×ai))×aB)=>(lV (cV ln ri e tms) b mf mb k y.1)∧(J y.1 y.2)∧(Fo A0 w0 y.2)) (fun k y=>[(cx b2 155 [(Value.func (.yield l) #[] #[])]),y.2,(rd e_A e.length 1 (e.map iC)).ro,(rd t_A tms.length 1 (List.zipWith gD tms tb)).ro,(dU (bo qf tms tb)).ro,(rd f_A fs.length 1 (List.zipWith gD fs fb)).ro,(dU (bo m6 fs fb)).ro,(rd b_A bs.length 1 (List.zipWith gD bs bb)).ro,(dU (bo m6 bs bb)).ro,(cx gw 150 (ck.cells (ck.mk ln ri (bx.mk e_A e.length e_C) (bx.mk t_A tms.length t_C) (bx.mk f_A fs.length f_C) (bx.mk b_A bs.length b_C)))).ro,(cx g1 108 [(vP gw)]).ro,(cx g2 3 [(vI (b:Int))]).ro]) (fun c (z:aB)=>(c= .ret∧(Z z)∧(Fo A0 w0 z))) (fun _ z=>[(cx b2 155 [(Value.func (.yield l) #[] #[])]),z,(rd e_A e.length 1 (e.map iC)).ro,(rd t_A tms.length 1 (List.zipWith gD tms tb)).ro,(dU (bo qf tms tb)).ro,(rd f_A fs.length 1 (List.zipWith gD fs fb)).ro,(dU (bo m6 fs fb)).ro,(rd b_A bs.length 1 (List.zipWith gD bs bb)).ro,(dU (bo m6 bs bb)).ro,(cx gw 150 (ck.cells (ck.mk ln ri (bx.mk e_A e.length e_C) (bx.mk t_A tms.length t_C) (bx.mk f_A fs.length f_C) (bx.mk b_A bs.length b_C)))).ro,(cx g1 108 [(vP gw)]).ro,(cx g2 3 [(vI (b:Int))]).ro]) [6,7,8,9,10,11,12,13,14,15,16,17] [3,2,1,0,4,5] (([]:List (Int×ai)),A0) rfl rfl (sU ln ri e tms e_A e_C tb t_A t_C f_A fs.length f_C b_A bs.length b_C gw b C3 Di om om) rfl rfl rfl (by exact ⟨lV.nil,FS,FG⟩) (by simp only [List.forall_mem_cons,List.not_mem_nil,false_imp_iff,implies_true,and_true]; exact ⟨⟨_,aQ (i:=0) rfl,(dL (bY _))⟩,⟨_,aQ (i:=1) rfl,(dL (bY _))⟩,⟨_,aQ (i:=2) rfl,(dL (bY _))⟩,⟨_,aQ (i:=3) rfl,(dL (bY _))⟩,⟨_,aQ (i:=4) rfl,(bY _)⟩,⟨_,aQ (i:=5) rfl,(bY _)⟩⟩) (by rintro k x k2 ⟨o,_,rfl,_⟩; rfl) rfl (bk rfl) ?_ ?_ ?_ ?_
 rotate_left 1
 ·rintro LA k ⟨ys,A⟩ Cp AO
  obtain ⟨X,Y,a⟩:=AO
  try dsimp only at X Y a
  try dsimp only
  refine aO ?_
  refine hN _ _ _ (qG 0 U U<|jX (vs:=[]) trivial fun w hs=>Pt 8 U (by exact lV.fin X Cp) Y a hs)
 ·rintro LE id A C1
  simp at C1
 ·rintro LT A C2
  obtain ⟨hc,Go,H1⟩:=C2
  try dsimp only
  refine hQ _ _ _ (qG 0 U U<|jX (vs:=[]) trivial fun w hs=>E0 8 U Go H1 hs)
 rintro k x k2 ⟨ys,A⟩ lr ra rb S w1 K8 Qr9 IO hx AN GE B9 In Do
 obtain ⟨o,ho,rfl,rfl⟩:=hx
 obtain ⟨X,Y,a⟩:=AN
 try dsimp only at X Y a
 try dsimp only
 refine WS fun _ A4=>rP 1 [] I ?_
 refine RK A4<|aw<|AL U ed fun Io=>fR U c_ U<|aK<|iF (fun _ _ h=>h) (aP [1,0,2,3,4,5,6,7,8,9,10,11,12,13])<|a_ (GE _ _ ?_)
 refine aF<|aq fun _ A5=>dA cy 7 kr<|lR 1 [] (mr 12 U I) U<|dS (SX (cT U U) U U)<|dP 3 [0,1] (mr 11 U (mr 13 U I)) ?_
 obtain ⟨ga,s⟩:=aM fb b om
 have Cx:(List.zipWith gD fs fb)[b]? =some (gD mf ga):=dx hm1 s
 refine dS (IA b U (aG 7 U) ou dc om om)<|dS (gQ b 0 (Value.map (some ga)) U cq (aG 7 U) Cx U dc U)<|cM<|pL (kV:=eD) (m:=cU iV mf) 8 U U o4 U ⟨⟨(kj eD ga (cU iV mf)),(bP hm1 s (by simp [m6])),U⟩,fun h=>h⟩ (show iH _ (kj eD ga (cU iV mf)).holds from cY 8 U (bP hm1 s (by simp [m6]))) U fun Ic=>?_
 try dsimp only
 refine RK A5<|aF ?_
 have C:(∀ p∈mf,p∈mf)∧(ob (cV ln ri e tms) b mf mb o mf ys)∧(lV (cV ln ri e tms) b mf mb k ys)∧(J ys A)∧(Fo A0 w0 A):=by exact ⟨fun p hp=>hp,ob.start,X,Y,a⟩
 refine bQ (ι:={z:FM×(List (Int×ai))×aB // (∀ p∈z.1,p∈mf)∧(ob (cV ln ri e tms) b mf mb o z.1 z.2.1)∧(lV (cV ln ri e tms) b mf mb k z.2.1)∧(J z.2.1 z.2.2)∧(Fo A0 w0 z.2.2)}) [0,1,2,3,4,5,23] [1,2,3,5,6,7,8,9,10,11,12,13,14] U U (fun z=>[]) (fun z=>[(C4 eD Ic ga (cU iV mf) (cU iV z.1.1) none),z.1.2.2]) (fun _=>rfl) (fun _=>rfl) (fun z=>z.1.1.length) ⟨(mf,ys,A),C⟩ (dv.nil _) (aP [1,2,3,5,6,7,8,9,10,11,12,13,14,0,4]) ?_
 clear C
 rintro ⟨⟨left,ys,A⟩,⟨K,M,N,O,P⟩⟩ J15 A3
 try dsimp only at K M N O P
 try dsimp only
 refine WS fun _ j=>ov o6.inj (f:=iV) 13 U U U U (fun Eq=>?_) (fun t v hm hn=>?_)
 ·refine rP 1 [] I ?_
  refine RK j<|aq fun _ If=>cj U<|bL<|ab<|ab<|aH<|aO ?_
  exact B9 (ys,A) _ _ (by exact ⟨lV.next N M Eq,O,P⟩) (aP [0,2,14,3,4,5,6,7,8,9,10,11,12])
 try dsimp only
 refine bE 1 U<|RK j<|aq fun _ A6=>aT U<|WK A6<|aF<|WS fun _ A7=>rS (SX (oJ 13 U U U) U U)<|bE 2 U<|AL U tN fun Iv=>fR U sB U<|bE 1 U<|RK A7<|aq fun _ A8=>dA cy 8 kr<|lR 1 [] (mr 12 U I) U<|dS (SX (cT U U) U U)<|dP 4 [0,1] (mr 11 U (mr 13 U I)) ?_
 obtain ⟨gb,AC⟩:=aM bb (b+1) om
 have C0:(List.zipWith gD bs bb)[(b+1)]? =some (gD mb gb):=dx hm2 AC
 refine dS (IA (b+1) U (aG 9 U) ou dc om om)<|dS (gQ (b+1) 0 (Value.map (some gb)) U cq (aG 9 U) C0 U dc U)<|cM<|pL (kV:=eD) (m:=cU iV mb) 10 U U o4 U ⟨⟨(kj eD gb (cU iV mb)),(bP hm2 AC (by simp [m6])),U⟩,fun h=>h⟩ (show iH _ (kj eD gb (cU iV mb)).holds from cY 10 U (bP hm2 AC (by simp [m6]))) U fun Id=>?_
 try dsimp only
 refine RK A8<|aF ?_
 have C:(∀ p∈mb,p∈mb)∧(nG (cV ln ri e tms) b mb o (t,v) mb ys)∧(ob (cV ln ri e tms) b mf mb o left ys)∧(lV (cV ln ri e tms) b mf mb k ys)∧(J ys A)∧(Fo A0 w0 A):=by exact ⟨fun p hp=>hp,nG.start,M,N,O,P⟩
 refine bQ (ι:={z:FM×(List (Int×ai))×aB // (∀ p∈z.1,p∈mb)∧(nG (cV ln ri e tms) b mb o (t,v) z.1 z.2.1)∧(ob (cV ln ri e tms) b mf mb o left z.2.1)∧(lV (cV ln ri e tms) b mf mb k z.2.1)∧(J z.2.1 z.2.2)∧(Fo A0 w0 z.2.2)}) [0,1,2,3,4,5,6,7,23,37] [1,2,3,4,5,6,7,8,9,10,11,12,13,14,15] U U (fun z=>[]) (fun z=>[(C4 eD Id gb (cU iV mb) (cU iV z.1.1) none),z.1.2.2]) (fun _=>rfl) (fun _=>rfl) (fun z=>z.1.1.length) ⟨(mb,ys,A),C⟩ (dv.nil _) (aP [1,2,3,4,5,6,7,8,9,10,11,12,13,14,15,0,16]) ?_
 clear C
 rintro ⟨⟨l2,T,A2⟩,⟨B,D,E,G,H,AB⟩⟩ J23 V
 try dsimp only at B D E G H AB
 try dsimp only
 refine WS fun _ r=>ov o6.inj (f:=iV) 15 U U U U (fun Eu=>?_) (fun u z L Am=>?_)
 ·refine rP 1 [] I ?_
  refine RK r<|aq fun _ Ig=>cj U<|bL<|ab<|ab<|aH<|aO<|q9 14 U py U ?_
  refine a_ (A3 ⟨((fz left t),T,A2),⟨mH K,ob.next hn hm E D Eu,G,H,AB⟩⟩ _ _ _ U (mO hm) (bk U) (aP [1,2,3,4,5,6,7,8,9,10,11,12,13,14,16]))
 try dsimp only
 refine bE 1 U<|RK r<|aq fun _ A9=>aT U<|WK A9<|aF<|WS fun _ Bx=>rS (SX (oJ 15 U U U) U U)<|bE 2 U<|AL U tN fun Iw=>fR U sB U<|rP 1 [] I ?_
 refine RK Bx<|aq fun _ B3=>dM cy [17,18] [] [] [0,1,2,3,4,5,6,7,8,9,10,11,12,13,14,15,16,17] [] U U U U U<|eS U (MV U)<|eS U (VL 13 U cq U)<|eS U (SX (cT U U) U U)<|eS U (FA 10 U fK U)<|eS U (Kv (vS e_A e.length e_C) 12 U cq U U)<|eS U (VL 14 U cq U) ?_
 obtain ⟨y,hy⟩:=aM e b om
 have IP:=bO iC hy
 refine eS U (IA b U (aG 5 U) dp dc om om)<|eS U (gQ b 0 (vI y) U cq (aG 5 U) IP U dc U) ?_
 have J5:=hw.least y (aQ hy)
 have Gi:=Ih hw _ _ (hfw.mem hm1 (K _ hm))
 have GT:=I5 hw (hbw.mem hm2 (B _ L))
 have J6:=vr o.1
 have J7:=hw.opt ho
 dsimp only at Gi GT
 refine eS U (BI U (mL ⟨om,om⟩))<|eS U (FA 0 U fK U)<|eS U (L1 (vI o.2.Lo) 3 U cq U U)<|eS U (MX U)<|eS U (MV U)<|eS U (FA 1 U fK U)<|eS U (L1 (vI o.2.Hi) 3 U cq U U)<|eS U (MN U)<|eS U (SX (bq (xs:=[(0,.tmp 54),(1,.tmp 58)]) (cs:=(ai.cells (ai.mk (max (v+y) o.2.Lo) (min z o.2.Hi)))) U U (bp g4 U)) U U)<|eC U<|cv U fun T30 Ci=>AL U ed fun J2=>aK (Ci _ _ (aP [1,2,3,4,5,6,7,8,9,10,11,12,13,14,15,16,17,18]) ?_)
 refine cv U fun T32 Ck=>fR U c_ U<|aK (Ck _ _ (aP [1,2,3,4,5,6,7,8,9,10,11,12,13,14,15,16,17,18]) ?_)
 refine fP U<|KK B3<|aq fun _ R=>dA cy 19 kr<|dP 6 [] (mc 0 U I) ?_
 refine jD (t:=65) U (aU fun d=>?_) (aV fun d=>?_)
 ·refine k6 3 U<|k6 10 U<|cM<|rP 3 [] I ?_
  refine RK R<|cj U<|cg<|aO<|q9 17 U py U ?_
  refine a_ (V ⟨((fz l2 u),T,A2),⟨mH B,nG.skip Am L D (by exact Hk hy d),E,G,H,AB⟩⟩ _ _ _ U (mO L) (bk U) (aP [2,3,4,5,6,7,8,9,10,11,12,13,14,15,16,17,18]))
 refine dP 3 [0,1,2] (mr 14 U (mc 2 U (mc 1 U I))) ?_
 have J9:(0≤(dG t u).right∧(dG t u).right≤1000)∧0≤(dG t u).eW∧(dG t u).eW≤1000:=by simp only [dG]; omega
 have J8:(0≤(dG (dG t u) (fJ o.1)).right∧(dG (dG t u) (fJ o.1)).right≤1000)∧0≤(dG (dG t u) (fJ o.1)).eW∧(dG (dG t u) (fJ o.1)).eW≤1000:=by simp only [dG]; omega
 refine dS (CL (wB t u om om) (aN) U)<|k6 1 U<|dS (CL (H0 o.1) (aN) U)<|dS (CL (wB (dG t u) (fJ o.1) asm om) (aN) U)<|dS (CL (Om ln ri e tms e_A e_C tb t_A t_C fs bs fb f_A f_C bb b_A b_C gw (dG (dG t u) (fJ o.1)) asm hsg) (bw [6,7,8,9,10,11,12,13]) U)<|dP 2 [] I ?_
 refine jD (t:=75) U (fun g=>?_) (fun g=>?_)
 ·refine k6 3 U<|cM<|rP 3 [] I ?_
  refine RK R<|cj U<|cg<|aO<|q9 17 U py U ?_
  refine a_ (V ⟨((fz l2 u),T,A2),⟨mH B,nG.skip Am L D (by exact F2 g),E,G,H,AB⟩⟩ _ _ _ U (mO L) (bk U) (aP [2,3,4,5,6,7,8,9,10,11,12,13,14,15,16,17,18]))
 refine dP 3 [0,1] (mc 5 U (mc 0 U I)) ?_
 refine cM<|wH (k:=T) (k':=(T++[(o.1,(ai.mk (max (v+y) o.2.Lo) (min z o.2.Hi)))])) 18 (by first|exact IO|exact Nat.le_refl _) hY H AB U U U (by exact ⟨(o.1,_),iJ.2 ⟨o,ho,(t,v),K _ hm,(u,z),B _ L,(Cy hy d g)⟩,U,U⟩) U U (fun B34 W AA=>?_) (fun B34 W AA=>?_)
 rotate_left 1
 ·refine rP 2 [] I ?_
  refine RK R<|aT U<|av ?_
  exact Do B34 _ _ (by exact ⟨U,W,AA⟩) (aP [3,5,18,6,7,8,9,10,11,12,13,14,15])
 refine rP 2 [] I ?_
 refine RK R<|cj U<|cg<|aO<|q9 17 U py U ?_
 refine a_ (V ⟨((fz l2 u),(T++[(o.1,(ai.mk (max (v+y) o.2.Lo) (min z o.2.Hi)))]),B34),⟨mH B,nG.TQ Am L D (Cy hy d g),E.app,G.app,W,AA⟩⟩ _ _ _ U (mO L) (bk U) (aP [2,3,4,5,6,7,8,9,10,11,12,13,14,15,16,17,18]))
end
section
open Go.RowKit
theorem L4 (l:br) (kA:OA) (kC:Nat) (az:List RA) (cA:OA) (cC:Nat) (bA:OA) (bC:Nat) (r:cD) (sgA:OA) (sgC:Nat) (f:Value) (X:aB) (me:Int) (gm:Nat) (hf:DD Tryz.prog f [] [X] (.int .i64 me)) (hin:eo l az) (hsl:r.ag.length≤1000000):
 p9 Tryz.prog 42 [(vA (ct.cells (jW l kA kC cA cC bA bC))),(vA (cN.cells (jr r sgA sgC))),(vS (some ⟨gm,0,none⟩) 1 1)] [(rd kA l.aS.length 9 (l.aS.map au.cells)),(rd cA l.aj.length 2 (List.zipWith ay.cells l.aj az)),(dU (bo ay.gn l.aj az)),(rd bA l.aa.length 4 (l.aa.map bK.cells)),(rd sgA r.ag.length 2 (r.ag.map aI.cells)),X,(cx gm 111 [f])] (fun (x:Bool×Int×Nat×(OA)×Nat×(OA)×Nat×(List Nat)×(List FM)×(List Nat)×(OA)×Nat×(List FM)×(List Nat)×(OA)×Nat)=>bif x.1 then (vT [(Value.pointer (some ⟨x.2.2.1,0,none⟩)),(vI 0)]) else (vT [(Value.pointer none),(vI x.2.1)])) (fun (x:Bool×Int×Nat×(OA)×Nat×(OA)×Nat×(List Nat)×(List FM)×(List Nat)×(OA)×Nat×(List FM)×(List Nat)×(OA)×Nat)=>(x.1=true→(dW l r me=0∧vW (cm l r) x.2.2.2.2.2.2.2.2.1∧sL (cm l r) x.2.2.2.2.2.2.2.2.2.2.2.2.1∧x.2.2.2.2.2.2.2.2.2.1.length=x.2.2.2.2.2.2.2.2.1.length∧x.2.2.2.2.2.2.2.2.2.2.2.2.2.1.length=x.2.2.2.2.2.2.2.2.2.2.2.2.1.length∧x.2.2.2.2.2.2.2.1.length=(cO l r.ag r.ag.length).length))∧(x.1=false→(x.2.1=dW l r me∧ ¬ dW l r me=0))) (fun (x:Bool×Int×Nat×(OA)×Nat×(OA)×Nat×(List Nat)×(List FM)×(List Nat)×(OA)×Nat×(List FM)×(List Nat)×(OA)×Nat)=>bif x.1 then [(cx x.2.2.1 150 (ck.cells (ck.mk (jW l kA kC cA cC bA bC) (jr r sgA sgC) (bx.mk x.2.2.2.1 ((cr l l.aa.length).length) x.2.2.2.2.1) (bx.mk x.2.2.2.2.2.1 ((cO l r.ag r.ag.length).length) x.2.2.2.2.2.2.1) (bx.mk x.2.2.2.2.2.2.2.2.2.2.1 x.2.2.2.2.2.2.2.2.1.length x.2.2.2.2.2.2.2.2.2.2.2.1) (bx.mk x.2.2.2.2.2.2.2.2.2.2.2.2.2.2.1 x.2.2.2.2.2.2.2.2.2.2.2.2.1.length x.2.2.2.2.2.2.2.2.2.2.2.2.2.2.2)))),(own x.2.2.2.1 x.2.2.2.2.1 3 1 ((cr l l.aa.length).map iC)),(own x.2.2.2.2.2.1 x.2.2.2.2.2.2.1 153 1 (List.zipWith gD (cO l r.ag r.ag.length) x.2.2.2.2.2.2.2.1)),(bU (bo qf (cO l r.ag r.ag.length) x.2.2.2.2.2.2.2.1)),(own x.2.2.2.2.2.2.2.2.2.2.1 x.2.2.2.2.2.2.2.2.2.2.2.1 156 1 (List.zipWith gD x.2.2.2.2.2.2.2.2.1 x.2.2.2.2.2.2.2.2.2.1)),(bU (bo m6 x.2.2.2.2.2.2.2.2.1 x.2.2.2.2.2.2.2.2.2.1)),(own x.2.2.2.2.2.2.2.2.2.2.2.2.2.2.1 x.2.2.2.2.2.2.2.2.2.2.2.2.2.2.2 156 1 (List.zipWith gD x.2.2.2.2.2.2.2.2.2.2.2.2.1 x.2.2.2.2.2.2.2.2.2.2.2.2.2.1)),(bU (bo m6 x.2.2.2.2.2.2.2.2.2.2.2.2.1 x.2.2.2.2.2.2.2.2.2.2.2.2.2.1))] else []):=by
 have T0:=hin.se
 have TQ:=hin.sb
 have S1:=hin.nP
 have S2:=hin.r9
 have To:=hin.side
 refine fF kr Tryz.func42 U U fun w0 Q hQ hN=>?_
 try dsimp only
 refine WS fun _ PP=>eL U fun b2=>eL U fun b3=>bE 2 U<|RK PP<|aq fun _ PU=>WS fun _ PY=>e9 1 [] (mc 1 U I) U<|rS (CL (xp l kA kC az cA cC bA bC hin) (bw [2,3,4,5]) U)<|bE 1 U<|RK PY<|WS fun _ Pi=>rP 2 [] I ?_
 refine RK Pi<|cw U (bg fun h=>?_) (bf fun h=>?_)
 ·refine WS fun _ Pl=>rP 3 [] I ?_
  refine RK Pl<|av<|LX hQ (false,(dJ l),0,none,0,none,0,[],[],[],none,0,[],[],none,0) [] [] I U (by rfl) U U ?_
  exact v_<|E3 (gE (r:=r) (me:=me) h) h
 refine WK PU<|aq fun _ Pq=>WS fun _ AN=>?_
 have C:dJ l=0:=h
 obtain ⟨Lk,d⟩:=dZ C
 have P2:=d.head
 unfold fp at P2
 refine rP 2 [] (mc 0 U I) ?_
 refine eB (xs:=[.tmp 24]) (cs:=[(vI r.Start)]) U dp ky U U U U (by simp [Value.cells]) U U fun L5=>?_
 refine rS (CL (dK.eq (ik 0 86400000 ([r.Start]) (some ⟨L5,0,none⟩) 1 (by (simp; done))) cE) (ax (bu 0 U U (by simp [bR]) U)<|aN) U) ?_
 refine rP 2 [] I ?_
 refine bZ (t:=28) U (bg fun OK=>?_) (bf fun OK=>?_)
 ·refine bE 14 U<|RK AN<|aT U<|WS fun _ A6=>rP 2 [] I ?_
  refine RK A6<|av<|LX hQ (false,51,0,none,0,none,0,[],[],[],none,0,[],[],none,0) [] [] I U (by rfl) U U ?_
  exact v_<|nK (dh (me:=me) C (fun q:eg l r=>by have q1:=q.time; have q2:=q.len; omega))
 refine rP 4 [] (mc 1 U I) ?_
 refine eB (xs:=[.tmp 32]) (cs:=[(vI r.gf)]) U dp ky U U U U (by simp [Value.cells]) U U fun M2=>?_
 refine rS (CL (dK.eq (ik r.Start 86400000 ([r.gf]) (some ⟨M2,0,none⟩) 1 (by (simp; done))) cE) (ax (bu 0 U U (by simp [bR]) U)<|aN) U) ?_
 refine rP 3 [] I ?_
 refine bZ (t:=37) U (bg fun Oi=>?_) (bf fun Oi=>?_)
 ·refine bE 5 U<|RK AN<|aT U<|WS fun _ A7=>rP 2 [] I ?_
  refine RK A7<|av<|LX hQ (false,51,0,none,0,none,0,[],[],[],none,0,[],[],none,0) [] [] I U (by rfl) U U ?_
  exact v_<|nK (dh (me:=me) C (fun q:eg l r=>by have q1:=q.time; have q2:=q.len; omega))
 refine rP 5 [] (mc 2 U I) ?_
 refine RK AN<|cw U (aV fun Op=>?_) (aU fun Op=>?_)
 ·refine WS fun _ A8=>rP 2 [] I ?_
  refine RK A8<|av<|LX hQ (false,51,0,none,0,none,0,[],[],[],none,0,[],[],none,0) [] [] I U (by rfl) U U ?_
  exact v_<|nK (dh (me:=me) C (fun q:eg l r=>by have q1:=q.time; have q2:=q.len; omega))
 refine WK Pq<|WS fun _ A9=>rS (SX (bq (xs:=[(0,.const (vI (-1)))]) (cs:=(aI.cells (aI.mk (-1) 0))) U U (bp Kb U)) U U)<|AL U Gz fun V=>fR U vm U<|RK A9<|aq fun _ Bx=>dM cy [5,6,7,8] [] [] [0,1,2,3,4,5,6,7,8,9,10,11] [] U U U U U<|eS U (LW 4 U cq U U)<|eS U (LW 3 U cq U U)<|eS U (FA 3 U fK U)<|eS U (L1 (vS bA l.aa.length bC) 4 U cq U U)<|eS U (LN U OO)<|eC U<|cv U fun T18 In=>?_
 refine vZ (n:=l.aa.length) (es:=(List.map oC (List.replicate l.aa.length (none:Option Nat)))) U U U NL om om (by simp only [maxLen]; omega) (by rw [List.map_replicate]; rfl) U fun B=>?_
 try dsimp only
 refine aK (In _ _ (aP [1,2,3,4,5,6,7,8,9,10,11,12]) ?_)
 refine cv U fun T20 Io=>rS (SX (bq (xs:=[(0,.tmp 44),(1,.tmp 45),(3,.tmp 49)]) (cs:=(ck.cells (ck.mk (jW l kA kC cA cC bA bC) (jr r sgA sgC) (bx.mk none 0 0) (bx.mk (some ⟨B,0,none⟩) l.aa.length l.aa.length) (bx.mk none 0 0) (bx.mk none 0 0)))) U U (bp NP U)) U U)<|aK (Io _ _ (aP [1,2,3,4,5,6,7,8,9,10,11,12]) ?_)
 refine cv U fun T21 Iv=>eL U fun AB=>aK (Iv _ _ (aP [2,3,4,5,6,7,8,9,10,11,12,13]) ?_)
 refine cv U fun T23 Iw=>rS (AG U)<|aK (Iw _ _ (aP [2,3,4,5,6,7,8,9,10,11,12,13]) ?_)
 refine fP U<|KK Bx<|aq fun _ B3=>WS fun _ B9=>rP 4 [] (mc 6 U I) ?_
 refine RK B9<|aF ?_
 rw [u6]
 refine eP 3 1<|od ?_
 have E:(0≤l.aa.length)∧(([]:List Nat).length=0):=by exact ⟨Nat.zero_le _,rfl⟩
 refine bQ (ι:={z:Nat×(OA)×Nat×(List Nat) // (z.1≤l.aa.length)∧(z.2.2.2.length=z.1)}) [2,3,4,6,7,9,10,54] [4,7,8,9,10,11,12,13,14,15] U U (fun z=>[(55,(vI (z.1.1:Int)))]) (fun z=>[(bU (bo qf (List.replicate z.1.1 ([]:TM)) z.1.2.2.2)),(own z.1.2.1 z.1.2.2.1 3 1 ((cr l z.1.1).map iC)),(cx AB 150 (ck.cells (ck.mk (jW l kA kC cA cC bA bC) (jr r sgA sgC) (bx.mk z.1.2.1 ((cr l z.1.1).length) z.1.2.2.1) (bx.mk (some ⟨B,0,none⟩) l.aa.length l.aa.length) (bx.mk none 0 0) (bx.mk none 0 0)))),(own (some ⟨B,0,none⟩) l.aa.length 153 1 (List.map oC (dE z.1.2.2.2 l.aa.length)))]) (fun _=>rfl) (fun _=>rfl) (fun z=>l.aa.length-z.1.1) ⟨(0,none,0,([]:List Nat)),E⟩ (bk U) (aP [4,7,8,9,10,11,12,13,14,15,0,1,2,3]) ?_
 clear E
 rintro ⟨⟨b,a,c,fb⟩,⟨AO,Y⟩⟩ J26 A5
 try dsimp only at AO Y
 try dsimp only
 have Qr:(dE fb l.aa.length).length=l.aa.length:=nu om
 refine WS fun _ Ci=>rP 1 [] I ?_
 refine RK Ci<|aq fun _ Ck=>cw U (aV fun OM=>?_) (aU fun OM=>?_)
 ·refine WK Ck<|aq fun _ Cp=>aF<|WS fun _ Cx=>rP 2 [] I ?_
  refine RK Cx<|aq fun _ C0=>dM cy [12,13,16] [4] [0] [0,1,2,3,4,5,6,7,8,9,10,13] [0,1,2,3,4,5,6,7,8,9,10,11,12,13] U U U U U<|eS U (MV U)<|eS U (MV U)<|eS U (SX (cT U U) U U)<|eS U (FA 10 U fK U)<|fS U (L1 (vS a ((cr l b).length) c) 12 U cq U U)<|eS U (LW 2 U cq U U)<|eS U (MV U)<|eS U (CL (Jr l kA kC az cA cC bA bC (b:Int) hin asm (by exact d.tW) om) (bw [3,4,5,6]) U) ?_
  have T4:=AX Lk d.tW b
  have T5:=d.PA b om
  simp only [Int.toNat_natCast]
  refine eS U (BI U (tQ ⟨om,om⟩))<|eS U (FA 1 U fK U)<|eS U (L1 (vI l.hG) 2 U cq U U) ?_
  refine eS U (CL (HK (1000*(lz l (b:Int).toNat)) l.hG om (by (simp; omega))) (aN) U) ?_
  refine eS U (SX (cT U U) U U)<|eS U (FA 10 U fK U)<|eC U<|jF U fun T33 J2=>eB (xs:=[.tmp 69]) (cs:=[(vI (o0 (1000*(lz l (b:Int).toNat)) l.hG))]) U dp ky U U U U (by simp [Value.cells]) U U fun R9=>aK (J2 _ _ (aP [1,2,3,4,5,6,7,8,9,10,11,14]) (aP [1,2,3,4,5,6,7,8,9,10,11,12,13,14]) ?_)
  refine cv U fun T35 J3=>?_
  refine dH (es2:=(List.map iC (cr l (b+1)))) (m':=(cr l (b+1)).length) 12 U U U r8 U U (by simp [cW]) (bu (es:=List.map iC [(o0 (1000*(lz l (b:Int).toNat)) l.hG)]) 0 U U (by simp [bR]) U) (kZ _) (by have:=cW (l:=l) (n:=b); first|omega|(simp; omega)) (by simp only [maxLen,cW]; omega) (by rw [q_]; simp [ej]) (by simp [cW]) U fun e g=>?_
  try dsimp only
  refine aK (J3 _ _ (aP [1,2,3,4,5,6,7,8,9,10,11,14]) ?_)
  refine cv U fun T38 J4=>hE (vs:=[(vS e ((cr l (b+1)).length) g)]) (cs':=(ck.cells (ck.mk (jW l kA kC cA cC bA bC) (jr r sgA sgC) (bx.mk e ((cr l (b+1)).length) g) (bx.mk (some ⟨B,0,none⟩) l.aa.length l.aa.length) (bx.mk none 0 0) (bx.mk none 0 0)))) (C':=[_,_,_,_,_,_,_,_,_,_,_,_,_,(cx AB 150 (ck.cells (ck.mk (jW l kA kC cA cC bA bC) (jr r sgA sgC) (bx.mk e ((cr l (b+1)).length) g) (bx.mk (some ⟨B,0,none⟩) l.aa.length l.aa.length) (bx.mk none 0 0) (bx.mk none 0 0)))),_]) 13 U U U F9 U U U U U U U<|aK (J4 _ _ (aP [1,2,3,4,5,6,7,8,9,10,11,14]) ?_)
  refine fP U<|KK C0<|aw<|bE 1 U<|rS (SX (cT U U) U U)<|rP 3 [] (mc 13 U I) ?_
  refine mG (kV:=iV) U U fun J=>?_
  try dsimp only
  obtain ⟨R1,Lq⟩:=aM (dE fb l.aa.length) b om
  have hx41m:(List.map oC (dE fb l.aa.length))[b]? =some (oC R1):=by rw [fX,Lq]; rfl
  refine rS (IA b U (ak (n:=l.aa.length) 15 U sq) xr dc om om) ?_
  have J5:((dE fb l.aa.length).set b (some J))=(dE (fb++[J]) l.aa.length):=by exact rG om om
  refine gR (k:=b) (o:=0) (vs:=[(Value.map (some J))]) (es':=(List.map oC (dE (fb++[J]) l.aa.length))) (C':=[_,_,_,_,_,_,_,_,_,_,_,_,_,_,_,(own (some ⟨B,0,none⟩) l.aa.length 153 1 (List.map oC (dE (fb++[J]) l.aa.length)))]) 15 U U U EA U U U U hx41m U dc (by exact (List.map_set (f:=oC) (l:=(dE fb l.aa.length)) (i:=b) (a:=(some J))).symm.trans (congrArg _ J5)) U<|aK<|aO<|KK Cp<|aw<|rP 2 [] I ?_
  refine aK<|xy (X':=bo qf (List.replicate (b+1) ([]:TM)) (fb++[J])) 12 0 U U (EK Y) ?_
  try dsimp only
  have J6:(vI (((b+1):Nat):Int))=(vI ((b:Int)+1)):=by exact cI om
  refine a_ (A5 ⟨((b+1),e,g,(fb++[J])),⟨om,by simp; omega⟩⟩ _ _ _ U os (cK 8<|bj U J6<|dv.nil _) (aP [2,3,4,5,6,7,8,9,10,11,0,12,13,14]))
 refine bL<|ab<|ab<|aH<|KK B3<|aq fun _ C1=>WS fun _ C2=>rP 4 [] (mc 1 U I) ?_
 refine RK C2<|aF ?_
 rw [show (List.replicate b ([]:TM))=cO l r.ag 0 from by rw [wU,show b=l.aa.length by omega]]
 rw [show cr l b=cr l l.aa.length from by rw [show b=l.aa.length by omega]]
 have E:(0≤r.ag.length)∧(oS l r.ag 0):=by exact ⟨Nat.zero_le _,vi⟩
 refine bQ (ι:={z:Nat // (z≤r.ag.length)∧(oS l r.ag z)}) [2,3,4,6,7,9,10,83,84] [1,2,3,4,5,6,7,8,9,11,12,13] U U (fun z=>[(85,(vI (z.1:Int)))]) (fun z=>[(cx V 78 (aI.cells (kP r.ag z.1))),(bU (bo qf (cO l r.ag z.1) fb))]) (fun _=>rfl) (fun _=>rfl) (fun z=>r.ag.length-z.1) ⟨0,E⟩ (bk U) (aP [1,2,3,4,5,6,7,8,9,11,12,13,0,10]) ?_
 clear E
 rintro ⟨i,⟨L3,A⟩⟩ J46 T
 try dsimp only
 have Qv:(cO l r.ag i).length=l.aa.length:=gN
 have Qr:(dE fb l.aa.length).length=l.aa.length:=nu om
 refine WS fun _ C3=>rP 1 [] I ?_
 refine RK C3<|aq fun _ Di=>bV U (aU fun Or=>?_) (aV fun Or=>?_)
 ·refine bL<|ab<|ab<|aH<|KK C1<|aq fun _ GT=>aq fun _ Gi=>?_
  have j:eg l r:=wZ om om A om
  refine aw<|bE 3 U<|RK Gi<|aF<|pt 2<|js fun R81 Ig=>WS fun _ Go=>rS (SX (eu (r:= .bool true) U U U m0) U U)<|RK Go<|aq fun _ Hi=>aT U<|WK Hi<|aq fun _ H1=>aF<|WS fun _ IO=>rS (TB 0 0 U NU U dc U)<|e9 2 [] (mr 8 U I) U<|RK IO<|WS fun _ IP=>bE 1 U<|rS (SX (qc U U U (hf) (bw [7])) U U)<|bE 1 U<|RK IP<|WS fun _ IR=>rP 2 [] I ?_
  refine RK IR<|cw U (bg fun K=>?_) (bf fun K=>?_)
  ·refine WS fun _ Ic=>rP 3 [] I ?_
   refine RK Ic<|av<|LX hQ (false,me,0,none,0,none,0,[],[],[],none,0,[],[],none,0) [] [] I U (by rfl) U U ?_
   exact v_<|E3 (rm C j K) K
  refine cg<|aO<|KK H1<|aw<|rS (SX (eu (r:= .int .i64 1) U U U (mL ⟨dc,dc⟩)) U U)<|rP 1 [] I ?_
  refine RK Ig<|js fun R89 R5=>WS fun _ Id=>rS (SX (eu (r:= .bool false) U U U m0) U U)<|RK Id<|aq fun _ R4=>cj U<|bL<|ab<|ab<|aH<|KK GT<|aq fun _ If=>?_
  rw [show cO l r.ag i=cO l r.ag r.ag.length from by rw [show i=r.ag.length by omega]]
  have A0:(cO l r.ag r.ag.length).length=l.aa.length:=gN
  rw [show (List.map oC (dE fb l.aa.length))=(List.zipWith gD (cO l r.ag r.ag.length) fb) from RN om A0]
  rw [show (cx AB 150 (ck.cells (ck.mk (jW l kA kC cA cC bA bC) (jr r sgA sgC) (bx.mk a ((cr l l.aa.length).length) c) (bx.mk (some ⟨B,0,none⟩) l.aa.length l.aa.length) (bx.mk none 0 0) (bx.mk none 0 0))))=(cx AB 150 (ck.cells (ck.mk (jW l kA kC cA cC bA bC) (jr r sgA sgC) (bx.mk a ((cr l l.aa.length).length) c) (bx.mk (some ⟨B,0,none⟩) ((cO l r.ag r.ag.length).length) l.aa.length) (bx.mk none 0 0) (bx.mk none 0 0)))) from by rw [A0]]
  have Lo:=lG Lk d j
  have R6:(cr l l.aa.length).length=l.aa.length:=cW
  refine aw<|rP 1 [] I ?_
  refine oD 10 U U U U (Cc (jW l kA kC cA cC bA bC) (jr r sgA sgC) (cr l l.aa.length) (cO l r.ag r.ag.length) a c fb (some ⟨B,0,none⟩) l.aa.length AB (by exact Lo) (by exact cW.symm) (by rw [A0]; omega)) U (eA 9 U U (jw sm) (eA 11 U U (jw (by rw [List.length_zipWith]; omega)) (eA 13 U U qT rf))) U (fun L0 P1=>?_)
  obtain ⟨G,S,P,R,F,O,N,H⟩:=L0
  refine E2 (X:=[(cx AB 150 (ck.cells (ck.mk (jW l kA kC cA cC bA bC) (jr r sgA sgC) (bx.mk a ((cr l l.aa.length).length) c) (bx.mk (some ⟨B,0,none⟩) ((cO l r.ag r.ag.length).length) l.aa.length) (bx.mk P G.length R) (bx.mk N F.length H)))),(own P R 156 1 (List.zipWith gD G S)),(bU (bo m6 G S)),(own N H 156 1 (List.zipWith gD F O)),(bU (bo m6 F O))]) 10 U U ?_
  try dsimp only
  obtain ⟨Am,LT,La,Li⟩:=P1
  dsimp only at Am LT La Li
  refine RK If<|aq fun _ v=>WS fun _ w=>rP 1 [] I ?_
  refine cX (uM (jW l kA kC cA cC bA bC) (jr r sgA sgC) (cr l l.aa.length) (cO l r.ag r.ag.length) a c fb (some ⟨B,0,none⟩) l.aa.length G F S P R O N H AB (by exact Lo) (by (simp; omega)) (by exact cW.symm) (by exact Am) asm) (ax (ak (n:=(cr l l.aa.length).length) 14 U sm)<|ax (ak (n:=(cO l r.ag r.ag.length).length) 15 U (by rw [List.length_zipWith]; omega))<|ax (dj 17 U lE)<|ax (ak (n:=G.length) 1 U (by rw [List.length_zipWith]; omega))<|ax (dj 2 U lE)<|ax (ak (n:=F.length) 3 U (by rw [List.length_zipWith]; omega))<|ax (dj 4 U lE)<|gj 0 U U<|aN) U fun L2 R0=>?_
  obtain ⟨R2,R3⟩:=L2
  try dsimp only
  refine rP 2 [] I ?_
  refine RK w<|bV U (aU fun W=>?_) (aV fun W=>?_)
  ·refine WK v<|WS fun _ AC=>rP 3 [] I ?_
   refine RK AC<|av ?_
   refine LX hQ (true,0,AB,a,c,(some ⟨B,0,none⟩),l.aa.length,fb,G,S,P,R,F,O,N,H) [1,15,16,18,2,3,4,5] [] I U (by (show List.all _ _=true; simp only [cond_true,fu,List.all_nil,pA,qE,Bool.and_true]; rfl)) U U ?_
   exact ⟨fun _=>⟨lj C j (by first|rfl|exact K) (fun q=>W (congrArg (fun z:List Int=>(z.length:Int)) q)),Am,LT,La,Li,dso⟩,QB⟩
  refine WS fun _ y=>rP 2 [] I ?_
  refine RK y<|av<|LX hQ (false,8,0,none,0,none,0,[],[],[],none,0,[],[],none,0) [] [] I U (by rfl) U U ?_
  exact v_<|nK (g5 (me:=me) C j (by first|rfl|exact K) (show hP (cm l r)=[] from il (Int.natCast_eq_zero.1 W)))
 refine WK Di<|aq fun _ AA=>aF<|WS fun _ Do=>rP 1 [] I ?_
 obtain ⟨x,hx⟩:=aM r.ag i om
 have RS:=bO aI.cells hx
 refine rS (IA i U (aG 6 U) yC dc om om)<|rS (lS i 0 (aI.cells x) U cq (aG 6 U) RS U dc U U)<|AL U Gz fun ST=>bE 1 U<|fR U vm U<|RK Do<|aq fun _ p=>WS fun _ L=>rP 6 [0,1] (mc 2 U (mc 0 U I)) ?_
 refine eB (xs:=[.tmp 95]) (cs:=[(vI x.fI)]) U dp ky U U U U (by simp [Value.cells]) U U fun NE=>?_
 refine rS (CL (dK.eq (ik 0 ((l.aa.length:Int)-1) ([x.fI]) (some ⟨NE,0,none⟩) 1 (by (simp; done))) cE) (ax (bu 0 U U (by simp [bR]) U)<|aN) U) ?_
 refine rP 2 [] I ?_
 refine bZ (t:=99) U (bg fun Os=>?_) (bf fun Os=>?_)
 ·refine bE 27 U<|RK L<|aT U<|WS fun _ EQ=>rP 2 [] I ?_
  refine RK EQ<|av<|LX hQ (false,51,0,none,0,none,0,[],[],[],none,0,[],[],none,0) [] [] I U (by rfl) U U ?_
  exact v_<|nK (dh (me:=me) C (kx hx (by unfold h_ iA; omega)))
 refine rP 2 [] (mc 1 U I) ?_
 refine eB (xs:=[.tmp 101]) (cs:=[(vI x.Read)]) U dp ky U U U U (by simp [Value.cells]) U U fun Ne=>?_
 refine rS (CL (dK.eq (ik 0 86400000 ([x.Read]) (some ⟨Ne,0,none⟩) 1 (by (simp; done))) cE) (ax (bu 0 U U (by simp [bR]) U)<|aN) U) ?_
 refine rP 3 [] I ?_
 refine bZ (t:=106) U (bg fun A1=>?_) (bf fun A1=>?_)
 ·refine bE 20 U<|RK L<|aT U<|WS fun _ Eq=>rP 2 [] I ?_
  refine RK Eq<|av<|LX hQ (false,51,0,none,0,none,0,[],[],[],none,0,[],[],none,0) [] [] I U (by rfl) U U ?_
  exact v_<|nK (dh (me:=me) C (kx hx (by unfold h_ iA; omega)))
 refine rP 7 [0,1] (mc 2 U (mc 15 U I)) ?_
 refine bZ (t:=113) U (aV fun A2=>?_) (aU fun A2=>?_)
 ·refine bE 13 U<|RK L<|aT U<|WS fun _ Eu=>rP 2 [] I ?_
  refine RK Eu<|av<|LX hQ (false,51,0,none,0,none,0,[],[],[],none,0,[],[],none,0) [] [] I U (by rfl) U U ?_
  exact v_<|nK (dh (me:=me) C (kx hx (by unfold h_ iA; omega)))
 refine rP 6 [0,1] (mc 2 U (mc 15 U I)) ?_
 refine cL (t:=119) U (aU fun A3=>?_) (aV fun A3=>?_)
 ·refine bE 7 U<|RK L<|cj U<|WK p<|aq fun _ u=>WS fun _ Fn=>e9 2 [0,1] (mc 4 U (mc 2 U I)) U<|rS (CL (zX l kA kC az cA cC bA bC x hin asm om) (bw [5,6,7,8]) U)<|AL U ed fun Sz=>fR U c_ U<|RK Fn<|WS fun _ GE=>rP 5 [] (mc 0 U I) ?_
  refine RK GE<|bV U (aU fun D=>?_) (aV fun D=>?_)
  ·refine WK u<|aw<|rP 1 [] (mc 3 U I) ?_
   refine hE (vs:=(aI.cells x)) (cs':=(aI.cells x)) (C':=[_,_,_,_,_,_,_,_,_,_,_,_,_,_,_,_,(cx V 78 (aI.cells x)),_]) 16 U U U vm U U U U U U U<|aK<|aO<|KK AA ?_
   have K5:(aI.cells x)=(aI.cells (kP r.ag (i+1))):=by rw [kg hx]
   rw [K5]
   refine aw<|rP 2 [] I ?_
   refine aK ?_
   rw [show (cO l r.ag i)=(cO l r.ag (i+1)) from (pX hx D).symm]
   have K8:(vI (((i+1):Nat):Int))=(vI ((i:Int)+1)):=by exact cI om
   refine a_ (T ⟨(i+1),⟨om,ju A hx (by unfold h_ iA; omega)⟩⟩ _ _ _ U os (cK 9<|bj U K8<|dv.nil _) (aP [4,5,6,7,8,9,10,11,12,13,14,15,16,17]))
  obtain ⟨mb,Z⟩:=aM (cO l r.ag i) ((x.fI).toNat) om
  obtain ⟨ga,M⟩:=aM fb ((x.fI).toNat) om
  refine yE 17 Z M U U U ?_
  try dsimp only
  refine dA cy 10 kr<|k6 1 U<|dS (SX (cT U U) U U)<|dP 4 [0,1] (mc 16 U (mc 5 U I)) ?_
  have LE:(List.map oC (dE fb l.aa.length))[(x.fI).toNat]? =some (oC (some ga)):=qp (mS M)
  refine dS (IA ((x.fI).toNat) U (ak (n:=l.aa.length) 17 U sq) xr dc om om) ?_
  refine dS (gQ ((x.fI).toNat) 0 (Value.map (some ga)) U cq (ak (n:=(dE fb l.aa.length).length) 17 U sm) LE U dc U)<|lR 2 [] (mc 2 U I) U<|cM<|jc (kV:=iV) (x:=(i:Int)) (C':=[(kj iV ga (cU jZ (ep mb (i:Int) (cS l x)))),_,_,_,_,_,_,_,_,_,_,_,_,_,_,_,_,_,_]) 0 U U U U sk (iK sr) U (gP _ _ _ _).symm U<|RK u<|aw<|rP 1 [] (mc 5 U I) ?_
  refine hE (vs:=(aI.cells x)) (cs':=(aI.cells x)) (C':=[_,_,_,_,_,_,_,_,_,_,_,_,_,_,_,_,_,_,(cx V 78 (aI.cells x))]) 18 U U U vm U U U U U U U<|aK<|aO<|KK AA ?_
  have K0:(aI.cells x)=(aI.cells (kP r.ag (i+1))):=by rw [kg hx]
  rw [K0]
  refine aw<|rP 2 [] I ?_
  refine aK ?_
  refine AF (f:=qf) (ms:=(cO l r.ag i)) (m:=(ep mb (i:Int) (cS l x))) 1 0 (by rw [gN]; omega) M U U U ?_
  rw [rT hx om D Z]
  have K4:(vI (((i+1):Nat):Int))=(vI ((i:Int)+1)):=by exact cI om
  refine a_ (T ⟨(i+1),⟨om,ju A hx (by unfold h_ iA; omega)⟩⟩ _ _ _ U os (cK 9<|bj U K4<|dv.nil _) (aP [5,6,7,8,9,10,11,12,13,14,15,16,17,0]))
 refine rP 7 [0,1] (mc 2 U (mc 15 U I)) ?_
 refine RK L<|cw U (aV fun A4=>?_) (aU fun A4=>?_)
 ·refine WS fun _ FG=>rP 2 [] I ?_
  refine RK FG<|av<|LX hQ (false,51,0,none,0,none,0,[],[],[],none,0,[],[],none,0) [] [] I U (by rfl) U U ?_
  exact v_<|nK (dh (me:=me) C (kx hx (by unfold h_ iA; omega)))
 refine WK p<|aq fun _ s=>WS fun _ FS=>e9 2 [0,1] (mc 4 U (mc 2 U I)) U<|rS (CL (zX l kA kC az cA cC bA bC x hin asm om) (bw [5,6,7,8]) U)<|AL U ed fun SW=>fR U c_ U<|RK FS<|WS fun _ Fd=>rP 5 [] (mc 0 U I) ?_
 refine RK Fd<|bV U (aU fun D=>?_) (aV fun D=>?_)
 ·refine WK s<|aw<|rP 1 [] (mc 3 U I) ?_
  refine hE (vs:=(aI.cells x)) (cs':=(aI.cells x)) (C':=[_,_,_,_,_,_,_,_,_,_,_,_,_,_,_,_,(cx V 78 (aI.cells x)),_]) 16 U U U vm U U U U U U U<|aK<|aO<|KK AA ?_
  have J9:(aI.cells x)=(aI.cells (kP r.ag (i+1))):=by rw [kg hx]
  rw [J9]
  refine aw<|rP 2 [] I ?_
  refine aK ?_
  rw [show (cO l r.ag i)=(cO l r.ag (i+1)) from (pX hx D).symm]
  have KV:(vI (((i+1):Nat):Int))=(vI ((i:Int)+1)):=by exact cI om
  refine a_ (T ⟨(i+1),⟨om,ju A hx (by unfold h_ iA; omega)⟩⟩ _ _ _ U os (cK 9<|bj U KV<|dv.nil _) (aP [4,5,6,7,8,9,10,11,12,13,14,15,16,17]))
 obtain ⟨mb,Z⟩:=aM (cO l r.ag i) ((x.fI).toNat) om
 obtain ⟨ga,M⟩:=aM fb ((x.fI).toNat) om
 refine yE 17 Z M U U U ?_
 try dsimp only
 refine dA cy 10 kr<|k6 1 U<|dS (SX (cT U U) U U)<|dP 4 [0,1] (mc 16 U (mc 5 U I)) ?_
 have LA:(List.map oC (dE fb l.aa.length))[(x.fI).toNat]? =some (oC (some ga)):=qp (mS M)
 refine dS (IA ((x.fI).toNat) U (ak (n:=l.aa.length) 17 U sq) xr dc om om) ?_
 refine dS (gQ ((x.fI).toNat) 0 (Value.map (some ga)) U cq (ak (n:=(dE fb l.aa.length).length) 17 U sm) LA U dc U)<|lR 2 [] (mc 2 U I) U<|cM<|jc (kV:=iV) (x:=(i:Int)) (C':=[(kj iV ga (cU jZ (ep mb (i:Int) (cS l x)))),_,_,_,_,_,_,_,_,_,_,_,_,_,_,_,_,_,_]) 0 U U U U sk (iK sr) U (gP _ _ _ _).symm U<|RK s<|aw<|rP 1 [] (mc 5 U I) ?_
 refine hE (vs:=(aI.cells x)) (cs':=(aI.cells x)) (C':=[_,_,_,_,_,_,_,_,_,_,_,_,_,_,_,_,_,_,(cx V 78 (aI.cells x))]) 18 U U U vm U U U U U U U<|aK<|aO<|KK AA ?_
 have J7:(aI.cells x)=(aI.cells (kP r.ag (i+1))):=by rw [kg hx]
 rw [J7]
 refine aw<|rP 2 [] I ?_
 refine aK ?_
 refine AF (f:=qf) (ms:=(cO l r.ag i)) (m:=(ep mb (i:Int) (cS l x))) 1 0 (by rw [gN]; omega) M U U U ?_
 rw [rT hx om D Z]
 have J8:(vI (((i+1):Nat):Int))=(vI ((i:Int)+1)):=by exact cI om
 refine a_ (T ⟨(i+1),⟨om,ju A hx (by unfold h_ iA; omega)⟩⟩ _ _ _ U os (cK 9<|bj U J8<|dv.nil _) (aP [5,6,7,8,9,10,11,12,13,14,15,16,17,0]))
end
section
open Go.RowKit
theorem Ba (l:br) (kA:OA) (kC:Nat) (az:List RA) (cA:OA) (cC:Nat) (bA:OA) (bC:Nat) (r:cD) (sgA:OA) (sgC:Nat) (bq_:Int) (hin:eo l az) (hsl:r.ag.length≤1000000):
 dK Tryz.prog 22 [(vA (ct.cells (jW l kA kC cA cC bA bC))),(vA (cN.cells (jr r sgA sgC))),(vI bq_)] [(rd kA l.aS.length 9 (l.aS.map au.cells)),(rd cA l.aj.length 2 (List.zipWith ay.cells l.aj az)),(dU (bo ay.gn l.aj az)),(rd bA l.aa.length 4 (l.aa.map bK.cells)),(rd sgA r.ag.length 2 (r.ag.map aI.cells))] (vT [(vA (ai.cells (dQ l r bq_))),(vI (dY l r bq_))]):=by
 have J5:=hin.se
 have In:=hin.sb
 have IR:=hin.nP
 have If:=hin.r9
 have J3:=hin.side
 refine bG kr Tryz.func22 U U fun w0 Q hQ hN=>?_
 try dsimp only
 refine WS fun _ A1=>eL U fun b2=>eL U fun b3=>wq U U fun b4=>AL U ed fun b5=>bE 1 U<|RK A1<|WS fun _ p=>rP 2 [0,1] (mc 3 U (mc 2 U I)) ?_
 refine rS (FU U)<|eB (xs:=[.tmp 17]) (cs:=[(Value.func (.func 43) [].toArray [(vP b2),(vP b4)].toArray)]) U NU SN U U U U (by simp [Value.cells]) U U fun b7=>cX (L4 l kA kC az cA cC bA bC r sgA sgC (Value.func (.func 43) [].toArray [(vP b2),(vP b4)].toArray) (dU [(rd kA l.aS.length 9 (l.aS.map au.cells)),(rd cA l.aj.length 2 (List.zipWith ay.cells l.aj az)),(dU (bo ay.gn l.aj az)),(rd bA l.aa.length 4 (l.aa.map bK.cells)),(cx b2 28 (ct.cells (jW l kA kC cA cC bA bC))),(cx b4 3 [(vI bq_)])]) (jB l bq_) b7 (by exact k9 (fi:=[]) (ca:=[(vP b2),(vP b4)]) (jY (DM l kA kC az cA cC bA bC b2 bq_ b4 (by first|assumption|omega)) (bw [0,1,2,3,4,5]))) hin hsl) (oP [5,6,7,8,9]<|ax (jV (bw [5,6,7,8,4,2]))<|gj 0 U U<|aN) U fun y8 C0=>?_
 obtain ⟨C1,Gi,E,H,AB,g,j,m,B,L,J,K,A,G,d,f⟩:=y8
 cases C1
 ·obtain ⟨Ci,he⟩:=C0.2 rfl
  try dsimp only at Ci he
  subst Ci
  try dsimp only [cond_true,cond_false,List.cons_append,List.nil_append]
  refine bE 5 U<|RK p<|aq fun _ Go=>WS fun _ A9=>rP 2 [] I ?_
  refine RK A9<|bV U (bf fun A8=>?_) (bg fun A8=>?_)
  ·exact absurd A8 he
  refine WS fun _ Bx=>rS (SX (bq (xs:=[]) (cs:=(ai.cells (ai.mk 0 0))) U U (bp g4 U)) U U)<|bE 1 U<|qy U c_ U<|rP 1 [] I ?_
  refine RK Bx<|av<|mY hQ [0] (mc 1 U I) U ?_
  (have e:=l4 (b:=bq_) he; rw [e.1,e.2]<;>rfl)
 obtain ⟨he,D,C,Do,Di,Eu⟩:=C0.1 rfl
 try dsimp only [cond_true,cond_false,List.cons_append,List.nil_append]
 dsimp only at D C Do Di Eu
 obtain ⟨C3,A5,Eq,Iv⟩:=iM he
 obtain ⟨FG,Cp⟩:=dZ C3
 have EQ:=Cp.head
 unfold fp at EQ
 have FS:=lG FG Cp A5
 have J2:=A5.time
 have Iw:=A5.len
 have Ck:(cr l l.aa.length).length=l.aa.length:=cW
 have Cx:(cO l r.ag r.ag.length).length=l.aa.length:=gN
 have Io:B.length=l.aa.length+1:=by have:=D.len; rw [show (cm l r).n=l.aa.length from cW] at this; exact this
 have Ig:A.length=l.aa.length+1:=by have:=C.len; rw [show (cm l r).n=l.aa.length from cW] at this; exact this
 obtain ⟨Ic,Id⟩:=D0 Eq
 obtain ⟨b,A2⟩: ∃ b:Nat,bq_=(b:Int):=⟨bq_.toNat,om⟩
 rw [A2]
 refine bE 5 U<|RK p<|aq fun _ N=>WS fun _ O=>bE 1 U<|rS (SX (eu (r:= .bool false) U U U xM) U U)<|RK O<|cj U<|WK N<|WS fun _ P=>rS (SX (bq (xs:=[(0,.const (vI 1))]) (cs:=(ai.cells (ai.mk 1 0))) U U (bp g4 U)) U U)<|AL U ed fun A6=>fR U c_ U<|RK P<|WS fun _ R=>e9 1 [] (mc 0 U I) U<|AL U ed fun A7=>fR U c_ U<|RK R<|aq fun _ T=>WS fun _ AA=>rP 2 [] (mc 12 U I) ?_
 obtain ⟨mf,Y⟩:=aM B b om
 obtain ⟨mb,Z⟩:=aM A (b+1) om
 refine cX (Jn E b) (aN) U fun Fn H1=>?_
 obtain ⟨AC,AN⟩:=Fn
 try dsimp only
 refine RK AA<|aF ?_
 refine uu (L0:=[(3,(vP b2)),(4,(vP b3)),(5,(vP b4)),(6,(vP b5)),(7,(vI 0)),(10,(vP A6)),(11,(vP A7))]) (F:=[(own H AB 3 1 ((cr l l.aa.length).map iC)),(own g j 153 1 (List.zipWith gD (cO l r.ag r.ag.length) m)),(bU (bo qf (cO l r.ag r.ag.length) m)),(own J K 156 1 (List.zipWith gD B L)),(bU (bo m6 B L)),(own d f 156 1 (List.zipWith gD A G)),(bU (bo m6 A G)),(cx E 150 (ck.cells (ck.mk (jW l kA kC cA cC bA bC) (jr r sgA sgC) (bx.mk H ((cr l l.aa.length).length) AB) (bx.mk g ((cO l r.ag r.ag.length).length) j) (bx.mk J B.length K) (bx.mk d A.length f)))),(cx AC 108 [(vP E)]),(cx AN 3 [(vI (b:Int))])]) (fun k (y:ai)=>(kF k y)∧(∀ q∈k,q∈qt (cm l r) b mf mb)) (fun k y=>[(cx A7 53 (ai.cells y)),(cx A6 53 (ai.cells (ai.mk 1 0))),(cx b5 53 (ai.cells (ai.mk 0 0))),(cx b4 3 [(vI (b:Int))]),(cx b3 56 (cN.cells (jr r sgA sgC))),(cx b2 28 (ct.cells (jW l kA kC cA cC bA bC))),(rd kA l.aS.length 9 (l.aS.map au.cells)).ro,(rd cA l.aj.length 2 (List.zipWith ay.cells l.aj az)).ro,(dU (bo ay.gn l.aj az)).ro,(rd bA l.aa.length 4 (l.aa.map bK.cells)).ro,(rd sgA r.ag.length 2 (r.ag.map aI.cells)).ro]) (fun _ (_:Unit)=>False) (fun _ _=>[]) [2,3,13,14,15,16,17,18,19,20,21] [5,6,7,8,9,10,11,4,0,1] mB rfl rfl (FQ (jW l kA kC cA cC bA bC) (jr r sgA sgC) (cr l l.aa.length) (cO l r.ag r.ag.length) H AB m g j B A L J K G d f E b AC AN mf mb (by rw [Ck]; omega) (by exact FS) (by rw [Cx]; omega) (by exact D) om (by exact C) om (by show r.ag.length≤1000; omega) (by exact Y) (by exact Z)) rfl rfl rfl (by exact ⟨CB,fun q hq=>by cases hq⟩) (by simp only [List.forall_mem_cons,List.not_mem_nil,false_imp_iff,implies_true,and_true]; exact ⟨⟨_,aQ (i:=0) rfl,(jw sm)⟩,⟨_,aQ (i:=1) rfl,(jw (by rw [List.length_zipWith]; omega))⟩,⟨_,aQ (i:=2) rfl,qT⟩,⟨_,aQ (i:=3) rfl,(jw (by rw [List.length_zipWith]; omega))⟩,⟨_,aQ (i:=4) rfl,qT⟩,⟨_,aQ (i:=5) rfl,(jw (by rw [List.length_zipWith]; omega))⟩,⟨_,aQ (i:=6) rfl,qT⟩,⟨_,aQ (i:=7) rfl,(bY _)⟩,⟨_,aQ (i:=8) rfl,(bY _)⟩,⟨_,aQ (i:=9) rfl,(bY _)⟩⟩) (by rintro k x k2 ⟨o,_,rfl,_⟩; rfl) rfl (bk rfl) ?_ ?_ (fun _ _ _ h=>h.elim) (fun _ _ h=>h.elim)
 ·rintro k x k2 h lr ra rb S w1 K41 Qr42 J4 hx A3 B3 X Fd GE
  obtain ⟨q,hq,rfl,rfl⟩:=hx
  obtain ⟨a,c⟩:=A3
  try dsimp only
  refine aw<|AL U ed fun IO=>fR U c_ U<|aK<|iF (fun _ _ h=>h) (aP [1,0,2,3,4,5,6,7,8,9,10,11,12])<|a_ (B3 _ _ ?_)
  refine aF<|aq fun _ s=>WS fun _ B9=>rP 2 [0,1] (mc 2 U (mc 3 U I)) ?_
  refine rS (BI U (QF _ _ h (ai.mk 1 0)))<|RK B9<|bV U (bf fun M=>?_) (bg fun M=>?_)
  ·refine WK s<|aw<|rP 1 [] (mc 1 U I) ?_
   refine FH U c_ U<|aK<|aO ?_
   exact X q.2 _ _ (by refine ⟨yX a (nq hq) ?_,fun z hz=>?_⟩; (first|exact if_neg M|exact if_pos M); (rcases gI.1 hz with hz|hz; exact c z hz; (rw [cu.1 hz]; exact hq))) (aP [0,2,3,4,5,6,7,8,9,10,11,12])
  refine aw<|e9 4 [0,1] (mc 1 U (mc 2 U I)) U<|rS (MN U)<|e9 4 [0,1] (mc 1 U (mc 2 U I)) U<|rS (MX U)<|rS (SX (bq (xs:=[(0,.tmp 40),(1,.tmp 45)]) (cs:=(ai.cells (ai.mk (min q.2.Lo h.Lo) (max q.2.Hi h.Hi)))) U U (bp g4 U)) U U)<|qy U c_ U<|RK s<|aw<|rP 1 [] (mc 1 U I) ?_
  refine FH U c_ U<|aK<|aO ?_
  exact X (ai.mk (min q.2.Lo h.Lo) (max q.2.Hi h.Hi)) _ _ (by refine ⟨yX a (nq hq) ?_,fun z hz=>?_⟩; (first|exact if_neg M|exact if_pos M); (rcases gI.1 hz with hz|hz; exact c z hz; (rw [cu.1 hz]; exact hq))) (aP [0,2,3,4,5,6,7,8,9,10,11,12])
 rintro J7 k h v A4
 obtain ⟨a,c⟩:=A4
 try dsimp only
 refine aO<|KK T<|aq fun _ V=>WS fun _ W=>rP 2 [0,1] (mc 11 U (mc 12 U I)) ?_
 refine rS (BI U (wR _ _ h (ai.mk 1 0)))<|RK W<|bV U (aU fun A0=>?_) (aV fun A0=>?_)
 ·refine WK V<|WS fun _ u=>e9 1 [] (mc 11 U I) U<|hE (vs:=(ai.cells h)) (cs':=(ai.cells h)) (C':=[_,_,_,_,_,_,_,_,_,_,_,_,_,(cx b5 53 (ai.cells h)),_,_,_,_,_,_,_,_]) 13 U U U c_ U U U U U U U<|rP 1 [] I ?_
  refine RK u<|av<|hQ _ _ _ (qG 0 U U<|jX (vs:=[(vA (ai.cells h)),(vI 0)]) ⟨⟨_,U,.inl ⟨_,_,cq,pI (vs:=(ai.cells h)) 13 U U,U,U⟩⟩,U,trivial⟩ fun w hs=>Cq ?_ hs)
  show (vT [(vA (ai.cells h)),(vI 0)])=(vT [(vA (ai.cells (dQ l r bq_))),(vI (dY l r bq_))])
  clear hs w hQ hN u W V AA T R P O N p A1
  (rw [A2] at he ⊢; have hh:h=mF l r b:=zl (D.min _ _ Y) (C.max _ _ Z) (D.keys _ _ Y) (C.keys _ _ Z) c v a; (have e:=oH he (fun q=>A0 (hh.trans q)); rw [e.1,e.2,hh]<;>rfl))
 refine WS fun _ t=>rS (SX (bq (xs:=[]) (cs:=(ai.cells (ai.mk 0 0))) U U (bp g4 U)) U U)<|hE (vs:=(ai.cells (ai.mk 0 0))) (cs':=(ai.cells (ai.mk 0 0))) (C':=[_,_,_,_,_,_,_,_,_,_,_,_,_,(cx b5 53 (ai.cells (ai.mk 0 0))),_,_,_,_,_,_,_,_]) 13 U U U c_ U U U U U U U<|rP 1 [] I ?_
 refine RK t<|av<|hQ _ _ _ (qG 0 U U<|jX (vs:=[(vA (ai.cells (ai.mk 0 0))),(vI 6)]) ⟨⟨_,U,.inl ⟨_,_,cq,pI (vs:=(ai.cells (ai.mk 0 0))) 13 U U,U,U⟩⟩,U,trivial⟩ fun w hs=>Cq ?_ hs)
 show (vT [(vA (ai.cells (ai.mk 0 0))),(vI 6)])=(vT [(vA (ai.cells (dQ l r bq_))),(vI (dY l r bq_))])
 clear hs w hQ hN t W V AA T R P O N p A1
 (rw [A2] at he ⊢; have hh:h=mF l r b:=zl (D.min _ _ Y) (C.max _ _ Z) (D.keys _ _ Y) (C.keys _ _ Z) c v a; (have e:=qW he (hh.symm.trans A0); rw [e.1,e.2]<;>rfl))
theorem SF (l:br) (kA:OA) (kC:Nat) (az:List RA) (cA:OA) (cC:Nat) (bA:OA) (bC:Nat) (r:cD) (sgA:OA) (sgC:Nat) (hin:eo l az) (hsl:r.ag.length≤1000000):
 dK Tryz.prog 213 [(vA (ct.cells (jW l kA kC cA cC bA bC))),(vA (cN.cells (jr r sgA sgC)))] [(rd kA l.aS.length 9 (l.aS.map au.cells)),(rd cA l.aj.length 2 (List.zipWith ay.cells l.aj az)),(dU (bo ay.gn l.aj az)),(rd bA l.aa.length 4 (l.aa.map bK.cells)),(rd sgA r.ag.length 2 (r.ag.map aI.cells))] (vT [(vA (ai.cells (zS l r))),(vI (dY l r l.cf))]):=by
 have N:=hin.se
 have J:=hin.sb
 have H:=hin.nP
 have AA:=hin.r9
 have M:=hin.side
 refine bG kr Tryz.func213 U U fun T Q hQ hN=>?_
 try dsimp only
 refine WS fun _ C=>eL U fun O=>eL U fun P=>AL U ed fun R=>bE 1 U<|RK C<|WS fun _ D=>e9 4 [0,1] (mc 2 U (mc 1 U I)) U<|rS (CL (Ba l kA kC az cA cC bA bC r sgA sgC l.cf hin hsl) (bw [3,4,5,6,7]) U)<|bE 3 U<|AL U ed fun S=>fR U c_ U<|bE 1 U<|RK D<|aq fun _ E=>WS fun _ F=>rP 2 [] I ?_
 refine RK F<|cw U (bg fun A=>?_) (bf fun A=>?_)
 ·refine WS fun _ G=>rS (SX (bq (xs:=[]) (cs:=(ai.cells (ai.mk 0 0))) U U (bp g4 U)) U U)<|bE 1 U<|qy U c_ U<|rP 1 [] I ?_
  refine RK G<|av<|mY hQ [0] (mc 1 U I) U ?_
  (rw [Dr A]<;>rfl)
 refine WK E<|WS fun _ B=>rP 4 [0,1] (mc 0 U (mc 2 U I)) ?_
 have K:=t_ A
 have L:=(vG A).time
 refine e9 6 [0,1] (mc 0 U (mc 2 U I)) U<|rS (SX (bq (xs:=[(0,.tmp 24),(1,.tmp 29)]) (cs:=(ai.cells (ai.mk (((dQ l r l.cf).Lo)-r.Start) (((dQ l r l.cf).Hi)-r.Start)))) U U (bp g4 U)) U U)<|qy U c_ U<|rP 1 [] I ?_
 refine RK B<|av<|mY hQ [0] (mc 1 U I) U ?_
 (rw [Aw A,A]<;>rfl)
end
section
open Go.RowKit
theorem mg (j:bS) (kA:OA) (kC:Nat) (az:List RA) (cA:OA) (cC:Nat) (bA:OA) (bC:Nat) (slA:OA) (slC:Nat) (drA:OA) (drC:Nat) (ha:List cZ) (heA:OA) (heC:Nat) (faA:OA) (faC:Nat) (prA:OA) (prC:Nat) (r:cD) (sgA:OA) (sgC:Nat) (b:Int) (hin:gp j az ha) (hsl:r.ag.length≤1000000):
 dK Tryz.prog 57 [(vA (df.cells (df.mk (mZ j kA kC cA cC bA bC slA slC drA drC heA heC faA faC prA prC)))),(vA (cN.cells (jr r sgA sgC))),(vI b)] [(rd kA j.Race.ar.aS.length 9 (j.Race.ar.aS.map au.cells)),(rd cA j.Race.ar.aj.length 2 (List.zipWith ay.cells j.Race.ar.aj az)),(dU (bo ay.gn j.Race.ar.aj az)),(rd bA j.Race.ar.aa.length 4 (j.Race.ar.aa.map bK.cells)),(rd slA j.Race.aY.length 1 (j.Race.aY.map iC)),(rd drA j.Race.cd.length 1 (j.Race.cd.map iC)),(rd heA j.Race.aD.length 1 (List.zipWith cP j.Race.aD ha)),(dU (bo fg j.Race.aD ha)),(rd faA j.aA.length 4 (j.aA.map aW.cells)),(rd prA j.ao.length 5 (j.ao.map aJ.cells)),(rd sgA r.ag.length 2 (r.ag.map aI.cells))] (vA (kB.cells (kB.mk (ai.mk ((cR j.Race.ar r b).Lo) ((cR j.Race.ar r b).Hi)) ((cR j.Race.ar r b).each) ((cR j.Race.ar r b).never)))):=by
 have Y:=hin.race
 have AA:=hin.race.line
 have c:=hin.race.iE
 have d:=hin.race.has
 have Z:=hin.race.iB
 have W:=hin.nf
 have X:=hin.np
 refine bG kr Tryz.func57 U U fun i Q hQ hN=>?_
 try dsimp only
 refine WS fun _ O=>eL U fun e=>eL U fun f=>AL U oq fun g=>RK O<|aq fun _ P=>WS fun _ R=>rP 2 [] I ?_
 refine RK R<|cw U (aV fun B=>?_) (aU fun B=>?_)
 ·refine WS fun _ S=>rP 4 [] (mc 1 U I) ?_
  refine rS (SX (bq (xs:=[(0,.tmp 15),(1,.tmp 17)]) (cs:=(ai.cells (ai.mk r.Start r.Start))) U U (bp g4 U)) U U)<|rS (SX (bq (xs:=[(0,.tmp 18),(1,.const (vB true)),(2,.const (vB false))]) (cs:=(kB.cells (kB.mk (ai.mk r.Start r.Start) true false))) U U (bp Fh U)) U U)<|fR U mM U<|RK S<|av<|C5 hQ [0] (mc 0 U I) U ?_
  (rw [G8 B])
 refine WK P<|WS fun _ T=>bE 3 U<|rS (LP (ct.cells (jW j.Race.ar kA kC cA cC bA bC)) 2 U cq U U U)<|e9 2 [] (mc 1 U I) U<|rS (CL (Ba j.Race.ar kA kC az cA cC bA bC r sgA sgC b asm hsl) (bw [3,4,5,6,13]) U)<|bE 3 U<|AL U ed fun h=>fR U c_ U<|bE 1 U<|RK T<|aq fun _ E=>WS fun _ F=>rP 2 [] I ?_
 refine RK F<|cw U (bg fun A=>?_) (bf fun A=>?_)
 ·refine WS fun _ G=>rS (SX (bq (xs:=[(0,.const (vI 86400000)),(1,.const (vI 86400000))]) (cs:=(ai.cells (ai.mk 86400000 86400000))) U U (bp g4 U)) U U)<|rS (SX (bq (xs:=[(0,.tmp 32),(1,.const (vB false)),(2,.const (vB true))]) (cs:=(kB.cells (kB.mk (ai.mk 86400000 86400000) false true))) U U (bp Fh U)) U U)<|qy U mM U<|RK G<|av<|C5 hQ [0] (mc 1 U I) U ?_
  (rw [Cb B A])
 refine WK E<|WS fun _ H=>bE 3 U<|rS (LP (ct.cells (jW j.Race.ar kA kC cA cC bA bC)) 3 U cq U U U)<|rP 1 [] (mc 2 U I) ?_
 refine cX (Md j.Race.ar kA kC az cA cC bA bC r sgA sgC asm hsl) (bw [4,5,6,7,14]) U fun V a=>?_
 obtain ⟨M,N⟩:=V
 try dsimp only
 refine bE 5 U<|RK H<|WS fun _ AB=>rP 1 [] I ?_
 refine rS (CL (QS (hU j.Race.ar r) M N (by exact Dx (vn A om)) (by have:=Dy (l:=j.Race.ar) (r:=r); omega)) (ax (ak (n:=(hU j.Race.ar r).length) 0 U sm)<|aN) U) ?_
 refine bE 3 U<|RK AB<|aq fun _ D=>WS fun _ J=>rP 2 [] I ?_
 refine RK J<|bV U (bf fun C=>?_) (bg fun C=>?_)
 ·refine WK D<|WS fun _ L=>rP 2 [] (mc 1 U I) ?_
  refine rS (SX (bq (xs:=[(0,.tmp 50),(1,.tmp 51),(2,.const (vB false))]) (cs:=(kB.cells (kB.mk (dQ j.Race.ar r b) (decide (b<(nI (hU j.Race.ar r)))) false))) U U (bp Fh U)) U U)<|FH U mM U<|RK L<|av<|C5 hQ [0] (mc 2 U I) U ?_
  (rw [yU B A (by rw [Bm (vn A om)]; exact dI C),dI C])
 refine aw<|bE 1 U<|VQ (ai.cells (ai.mk ((dQ j.Race.ar r b).Lo) 86400000)) U AR U U<|RK D<|WS fun _ K=>rP 2 [] (mc 1 U I) ?_
 refine rS (SX (bq (xs:=[(0,.tmp 50),(1,.tmp 51),(2,.const (vB false))]) (cs:=(kB.cells (kB.mk (ai.mk ((dQ j.Race.ar r b).Lo) 86400000) (decide (b<(nI (hU j.Race.ar r)))) false))) U U (bp Fh U)) U U)<|FH U mM U<|RK K<|av<|C5 hQ [0] (mc 2 U I) U ?_
 (rw [xw B A (by rw [Bm (vn A om)]; exact bH C),bH C])
end
section
open Go.RowKit
theorem H3 (j:bS) (kA:OA) (kC:Nat) (az:List RA) (cA:OA) (cC:Nat) (bA:OA) (bC:Nat) (slA:OA) (slC:Nat) (drA:OA) (drC:Nat) (ha:List cZ) (heA:OA) (heC:Nat) (faA:OA) (faC:Nat) (prA:OA) (prC:Nat) (fw ff ft:Int) (d:aC) (sgA:OA) (sgC:Nat) (hin:gp j az ha) (hw:0≤fw∧fw≤1000000) (hsl:d.bD.ag.length≤1000000):
 dK Tryz.prog 34 [(vA (df.cells (df.mk (mZ j kA kC cA cC bA bC slA slC drA drC heA heC faA faC prA prC)))),(vA (aW.cells (aW.mk 1 fw ff ft))),(vA (aR.cells (aR.mk d.Out d.dB d.Time (jr d.bD sgA sgC))))] [(rd kA j.Race.ar.aS.length 9 (j.Race.ar.aS.map au.cells)),(rd cA j.Race.ar.aj.length 2 (List.zipWith ay.cells j.Race.ar.aj az)),(dU (bo ay.gn j.Race.ar.aj az)),(rd bA j.Race.ar.aa.length 4 (j.Race.ar.aa.map bK.cells)),(rd slA j.Race.aY.length 1 (j.Race.aY.map iC)),(rd drA j.Race.cd.length 1 (j.Race.cd.map iC)),(rd heA j.Race.aD.length 1 (List.zipWith cP j.Race.aD ha)),(dU (bo fg j.Race.aD ha)),(rd faA j.aA.length 4 (j.aA.map aW.cells)),(rd prA j.ao.length 5 (j.ao.map aJ.cells)),(rd sgA d.bD.ag.length 2 (d.bD.ag.map aI.cells))] (Value.int .u8 (g6 j.Race.ar (aW.mk 1 fw ff ft) d)):=by
 have l:=hin.race
 have h:=hin.race.line
 have r:=hin.race.iE
 have s:=hin.race.has
 have m:=hin.race.iB
 have i:=hin.nf
 have k:=hin.np
 refine bG kr Tryz.func34 U U fun u Q hQ hN=>?_
 try dsimp only
 refine WS fun _ a=>eL U fun n=>eL U fun o=>eL U fun p=>bE 1 U<|RK a<|aq fun _ b=>WS fun _ c=>e9 1 [] (mc 0 U I) U<|rS (CL (tD d.Out d.dB d.Time (jr d.bD sgA sgC)) (aN) U)<|rP 1 [] I ?_
 refine RK c<|cw U (bg fun A=>?_) (bf fun A=>?_)
 ·refine WS fun _ e=>rP 1 [] I ?_
  refine RK e<|av<|Q1 hQ U U U ?_
  (rw [rW (fun q=>A q)]; done)
 refine WK b<|aq fun _ f=>dM cy [4,5] [] [] [0,1,2,3,4,5,6,7,8,9,10,11,12,13] [] U U U U U<|eS U (CL wL (aN) U)<|eS U (FA 0 U fK U)<|eS U (L1 (Value.int .u8 1) 1 U cq U U)<|eS U (SX (vj (vs:=(fh.cells (fh.mk (Value.func (.func 84) [].toArray [].toArray) (Value.func (.func 83) [].toArray [].toArray)))) 1 U U U IE cq U dc U) U U)<|eC U<|cv U fun T9 g=>AL U HQ fun X=>aK (g _ _ (aP [1,2,3,4,5,6,7,8,9,10,11,12,13,14]) ?_)
 refine cv U fun T11 W=>fR U JH U<|aK (W _ _ (aP [1,2,3,4,5,6,7,8,9,10,11,12,13,14]) ?_)
 refine fP U<|KK f<|WS fun _ V=>e9 4 [0,1,2] (mc 0 U (mc 3 U (mc 2 U I))) U<|rS (CL (Ry j kA kC cA cC bA bC slA slC drA drC heA heC faA faC prA prC 1 fw ff ft) (aN) U)<|rP 5 [] I ?_
 refine RK V<|aq fun _ AA=>lI cy [0,1,2,3,4,5,6,7,8,9] [10,11,12,13] [false,false,false,false,false,false,false,false,false,false] [] [(cx X 132 (fh.cells (fh.mk (Value.func (.func 84) [].toArray [].toArray) (Value.func (.func 83) [].toArray [].toArray)))),(cx p 58 (aR.cells (aR.mk d.Out d.dB d.Time (jr d.bD sgA sgC)))),(cx o 80 (aW.cells (aW.mk 1 fw ff ft))),(cx n 93 (df.cells (df.mk (mZ j kA kC cA cC bA bC slA slC drA drC heA heC faA faC prA prC)))),(rd kA j.Race.ar.aS.length 9 (j.Race.ar.aS.map au.cells)).ro,(rd cA j.Race.ar.aj.length 2 (List.zipWith ay.cells j.Race.ar.aj az)).ro,(dU (bo ay.gn j.Race.ar.aj az)).ro,(rd bA j.Race.ar.aa.length 4 (j.Race.ar.aa.map bK.cells)).ro,(rd slA j.Race.aY.length 1 (j.Race.aY.map iC)).ro,(rd drA j.Race.cd.length 1 (j.Race.cd.map iC)).ro,(rd heA j.Race.aD.length 1 (List.zipWith cP j.Race.aD ha)).ro,(dU (bo fg j.Race.aD ha)).ro,(rd faA j.aA.length 4 (j.aA.map aW.cells)).ro,(rd prA j.ao.length 5 (j.ao.map aJ.cells)).ro,(rd sgA d.bD.ag.length 2 (d.bD.ag.map aI.cells)).ro] [] kr (aP [0,1,2,3,4,5,6,7,8,9,10,11,12,13,14]) (aP [])<|eS U (LW 3 U cq U U)<|eS U (FA 4 U fK U)<|eS U (LP (cN.cells (jr d.bD sgA sgC)) 1 U cq U U U)<|eS U (MV U)<|eS U (CL (mg j kA kC az cA cC bA bC slA slC drA drC ha heA heC faA faC prA prC d.bD sgA sgC (-1) hin hsl) (bw [4,5,6,7,8,9,10,11,12,13,14]) U)<|eS U (LW 3 U cq U U)<|eS U (FA 4 U fK U)<|eS U (LP (cN.cells (jr d.bD sgA sgC)) 1 U cq U U U)<|eS U (MV U)<|eS U (CL (mg j kA kC az cA cC bA bC slA slC drA drC ha heA heC faA faC prA prC d.bD sgA sgC j.Race.ar.cf hin hsl) (bw [4,5,6,7,8,9,10,11,12,13,14]) U)<|eC U<|mW [10,11] kr (iR ?_<|iR ?_<|ql)
 rotate_left 1
 ·refine NO U U [10,12,13] fun T14 P=>AL U oq fun Y=>RD P 1 U<|N1 10<|NO U U [12,13] fun T16 R=>AL U oq fun Z=>RD R 2 U<|N1 12<|NO U U [13] fun T18 S=>fR U mM U<|RD S 2 U<|N1 13<|NO U U [] fun T19 T=>qy U mM U<|RD T 2 U<|lU<|KK AA<|aq fun _ F=>aF<|WS fun _ E=>rP 3 [] (mc 0 U I) ?_
  refine bZ (t:=40) U (fun C=>?_) (fun C=>?_)
  ·refine bE 16 U<|RK E<|aT U<|WS fun _ J=>rP 1 [] I ?_
   refine RK J<|av<|Q1 hQ U U U ?_
   (rw [jM rfl A]; (rw [gZ (.inl C)]; done))
  refine rP 8 [0,1] (mc 0 U (mc 4 U I)) ?_
  refine bZ (t:=48) U (aV fun D=>?_) (aU fun D=>?_)
  ·refine bE 8 U<|RK E<|aT U<|WS fun _ K=>rP 1 [] I ?_
   refine RK K<|av<|Q1 hQ U U U ?_
   (rw [jM rfl A]; (rw [gZ (.inr (.inl D))]; done))
  refine rP 8 [0,1] (mc 1 U (mc 4 U I)) ?_
  refine RK E<|cw U (aV fun B=>?_) (aU fun B=>?_)
  ·refine WS fun _ L=>rP 1 [] I ?_
   refine RK L<|av<|Q1 hQ U U U ?_
   (rw [jM rfl A]; (rw [gZ (.inr (.inr B))]; done))
  refine WS fun _ G=>rP 3 [] (mc 0 U I) ?_
  refine cL (t:=59) U (fun AB=>?_) (fun AB=>?_)
  ·refine bE 8 U<|RK G<|cj U<|cg<|aO<|KK F<|WS fun _ O=>rP 1 [] I ?_
   refine RK O<|av<|Q1 hQ U U U ?_
   (rw [jM rfl A]; (rw [jJ (AS (by simpa using C) (by first|exact D|(simp only []; omega)) (by first|exact B|(simp only []; omega))) (fun q=>by rw [AB] at q; exact Bool.noConfusion q.1)]; done))
  refine e9 5 [0,1,2,3] (mc 2 U (mc 4 U (mc 0 U (mc 1 U I)))) U<|rS (CL (uo 1 fw ff ft ((cR j.Race.ar d.bD (-1)).Lo) ((cR j.Race.ar d.bD (-1)).Hi) ((cR j.Race.ar d.bD (-1)).each) ((cR j.Race.ar d.bD (-1)).never) ((cR j.Race.ar d.bD j.Race.ar.cf).Lo) ((cR j.Race.ar d.bD j.Race.ar.cf).Hi) ((cR j.Race.ar d.bD j.Race.ar.cf).each) ((cR j.Race.ar d.bD j.Race.ar.cf).never)) (aN) U)<|rP 2 [] I ?_
  refine RK G<|cw U (aV fun H=>?_) (aU fun H=>?_)
  ·refine WS fun _ M=>rP 1 [] I ?_
   refine RK M<|av<|Q1 hQ U U U ?_
   (rw [jM rfl A]; (rw [pb (AS (by simpa using C) (by first|exact D|(simp only []; omega)) (by first|exact B|(simp only []; omega))) AB ((oG (show ¬ (1:Int)=3 by decide)).2 H)]; done))
  refine cg<|aO<|KK F<|WS fun _ N=>rP 1 [] I ?_
  refine RK N<|av<|Q1 hQ U U U ?_
  (rw [jM rfl A]; (rw [jJ (AS (by simpa using C) (by first|exact D|(simp only []; omega)) (by first|exact B|(simp only []; omega))) (fun q=>H ((oG (show ¬ (1:Int)=3 by decide)).1 q.2))]; done))
 refine NO U U [11,12,13] fun T14 P=>AL U oq fun Y=>RD P 1 U<|N1 11<|NO U U [12,13] fun T16 R=>AL U oq fun Z=>RD R 2 U<|N1 12<|NO U U [13] fun T18 S=>qy U mM U<|RD S 2 U<|N1 13<|NO U U [] fun T19 T=>fR U mM U<|RD T 2 U<|lU<|KK AA<|aq fun _ F=>aF<|WS fun _ E=>rP 3 [] (mc 1 U I) ?_
 refine bZ (t:=40) U (fun C=>?_) (fun C=>?_)
 ·refine bE 16 U<|RK E<|aT U<|WS fun _ J=>rP 1 [] I ?_
  refine RK J<|av<|Q1 hQ U U U ?_
  (rw [jM rfl A]; (rw [gZ (.inl C)]; done))
 refine rP 8 [0,1] (mc 1 U (mc 4 U I)) ?_
 refine bZ (t:=48) U (aV fun D=>?_) (aU fun D=>?_)
 ·refine bE 8 U<|RK E<|aT U<|WS fun _ K=>rP 1 [] I ?_
  refine RK K<|av<|Q1 hQ U U U ?_
  (rw [jM rfl A]; (rw [gZ (.inr (.inl D))]; done))
 refine rP 8 [0,1] (mc 0 U (mc 4 U I)) ?_
 refine RK E<|cw U (aV fun B=>?_) (aU fun B=>?_)
 ·refine WS fun _ L=>rP 1 [] I ?_
  refine RK L<|av<|Q1 hQ U U U ?_
  (rw [jM rfl A]; (rw [gZ (.inr (.inr B))]; done))
 refine WS fun _ G=>rP 3 [] (mc 1 U I) ?_
 refine cL (t:=59) U (fun AB=>?_) (fun AB=>?_)
 ·refine bE 8 U<|RK G<|cj U<|cg<|aO<|KK F<|WS fun _ O=>rP 1 [] I ?_
  refine RK O<|av<|Q1 hQ U U U ?_
  (rw [jM rfl A]; (rw [jJ (AS (by simpa using C) (by first|exact D|(simp only []; omega)) (by first|exact B|(simp only []; omega))) (fun q=>by rw [AB] at q; exact Bool.noConfusion q.1)]; done))
 refine e9 5 [0,1,2,3] (mc 2 U (mc 4 U (mc 1 U (mc 0 U I)))) U<|rS (CL (uo 1 fw ff ft ((cR j.Race.ar d.bD (-1)).Lo) ((cR j.Race.ar d.bD (-1)).Hi) ((cR j.Race.ar d.bD (-1)).each) ((cR j.Race.ar d.bD (-1)).never) ((cR j.Race.ar d.bD j.Race.ar.cf).Lo) ((cR j.Race.ar d.bD j.Race.ar.cf).Hi) ((cR j.Race.ar d.bD j.Race.ar.cf).each) ((cR j.Race.ar d.bD j.Race.ar.cf).never)) (aN) U)<|rP 2 [] I ?_
 refine RK G<|cw U (aV fun H=>?_) (aU fun H=>?_)
 ·refine WS fun _ M=>rP 1 [] I ?_
  refine RK M<|av<|Q1 hQ U U U ?_
  (rw [jM rfl A]; (rw [pb (AS (by simpa using C) (by first|exact D|(simp only []; omega)) (by first|exact B|(simp only []; omega))) AB ((oG (show ¬ (1:Int)=3 by decide)).2 H)]; done))
 refine cg<|aO<|KK F<|WS fun _ N=>rP 1 [] I ?_
 refine RK N<|av<|Q1 hQ U U U ?_
 (rw [jM rfl A]; (rw [jJ (AS (by simpa using C) (by first|exact D|(simp only []; omega)) (by first|exact B|(simp only []; omega))) (fun q=>H ((oG (show ¬ (1:Int)=3 by decide)).1 q.2))]; done))
theorem H8 (j:bS) (kA:OA) (kC:Nat) (az:List RA) (cA:OA) (cC:Nat) (bA:OA) (bC:Nat) (slA:OA) (slC:Nat) (drA:OA) (drC:Nat) (ha:List cZ) (heA:OA) (heC:Nat) (faA:OA) (faC:Nat) (prA:OA) (prC:Nat) (fw ff ft:Int) (d:aC) (sgA:OA) (sgC:Nat) (hin:gp j az ha) (hw:0≤fw∧fw≤1000000) (hsl:d.bD.ag.length≤1000000):
 dK Tryz.prog 34 [(vA (df.cells (df.mk (mZ j kA kC cA cC bA bC slA slC drA drC heA heC faA faC prA prC)))),(vA (aW.cells (aW.mk 2 fw ff ft))),(vA (aR.cells (aR.mk d.Out d.dB d.Time (jr d.bD sgA sgC))))] [(rd kA j.Race.ar.aS.length 9 (j.Race.ar.aS.map au.cells)),(rd cA j.Race.ar.aj.length 2 (List.zipWith ay.cells j.Race.ar.aj az)),(dU (bo ay.gn j.Race.ar.aj az)),(rd bA j.Race.ar.aa.length 4 (j.Race.ar.aa.map bK.cells)),(rd slA j.Race.aY.length 1 (j.Race.aY.map iC)),(rd drA j.Race.cd.length 1 (j.Race.cd.map iC)),(rd heA j.Race.aD.length 1 (List.zipWith cP j.Race.aD ha)),(dU (bo fg j.Race.aD ha)),(rd faA j.aA.length 4 (j.aA.map aW.cells)),(rd prA j.ao.length 5 (j.ao.map aJ.cells)),(rd sgA d.bD.ag.length 2 (d.bD.ag.map aI.cells))] (Value.int .u8 (g6 j.Race.ar (aW.mk 2 fw ff ft) d)):=by
 have l:=hin.race
 have h:=hin.race.line
 have r:=hin.race.iE
 have s:=hin.race.has
 have m:=hin.race.iB
 have i:=hin.nf
 have k:=hin.np
 refine bG kr Tryz.func34 U U fun u Q hQ hN=>?_
 try dsimp only
 refine WS fun _ a=>eL U fun n=>eL U fun o=>eL U fun p=>bE 1 U<|RK a<|aq fun _ b=>WS fun _ c=>e9 1 [] (mc 0 U I) U<|rS (CL (tD d.Out d.dB d.Time (jr d.bD sgA sgC)) (aN) U)<|rP 1 [] I ?_
 refine RK c<|cw U (bg fun A=>?_) (bf fun A=>?_)
 ·refine WS fun _ e=>rP 1 [] I ?_
  refine RK e<|av<|Q1 hQ U U U ?_
  (rw [rW (fun q=>A q)]; done)
 refine WK b<|aq fun _ f=>dM cy [4,5] [] [] [0,1,2,3,4,5,6,7,8,9,10,11,12,13] [] U U U U U<|eS U (CL wL (aN) U)<|eS U (FA 0 U fK U)<|eS U (L1 (Value.int .u8 2) 1 U cq U U)<|eS U (SX (vj (vs:=(fh.cells (fh.mk (Value.func (.func 85) [].toArray [].toArray) (Value.func (.func 83) [].toArray [].toArray)))) 2 U U U IE cq U dc U) U U)<|eC U<|cv U fun T9 g=>AL U HQ fun X=>aK (g _ _ (aP [1,2,3,4,5,6,7,8,9,10,11,12,13,14]) ?_)
 refine cv U fun T11 W=>fR U JH U<|aK (W _ _ (aP [1,2,3,4,5,6,7,8,9,10,11,12,13,14]) ?_)
 refine fP U<|KK f<|WS fun _ V=>e9 4 [0,1,2] (mc 0 U (mc 3 U (mc 2 U I))) U<|rS (CL (Sk j kA kC cA cC bA bC slA slC drA drC heA heC faA faC prA prC 2 fw ff ft hw) (aN) U)<|rP 5 [] I ?_
 refine RK V<|aq fun _ AA=>lI cy [0,1,2,3,4,5,6,7,8,9] [10,11,12,13] [false,false,false,false,false,false,false,false,false,false] [] [(cx X 132 (fh.cells (fh.mk (Value.func (.func 85) [].toArray [].toArray) (Value.func (.func 83) [].toArray [].toArray)))),(cx p 58 (aR.cells (aR.mk d.Out d.dB d.Time (jr d.bD sgA sgC)))),(cx o 80 (aW.cells (aW.mk 2 fw ff ft))),(cx n 93 (df.cells (df.mk (mZ j kA kC cA cC bA bC slA slC drA drC heA heC faA faC prA prC)))),(rd kA j.Race.ar.aS.length 9 (j.Race.ar.aS.map au.cells)).ro,(rd cA j.Race.ar.aj.length 2 (List.zipWith ay.cells j.Race.ar.aj az)).ro,(dU (bo ay.gn j.Race.ar.aj az)).ro,(rd bA j.Race.ar.aa.length 4 (j.Race.ar.aa.map bK.cells)).ro,(rd slA j.Race.aY.length 1 (j.Race.aY.map iC)).ro,(rd drA j.Race.cd.length 1 (j.Race.cd.map iC)).ro,(rd heA j.Race.aD.length 1 (List.zipWith cP j.Race.aD ha)).ro,(dU (bo fg j.Race.aD ha)).ro,(rd faA j.aA.length 4 (j.aA.map aW.cells)).ro,(rd prA j.ao.length 5 (j.ao.map aJ.cells)).ro,(rd sgA d.bD.ag.length 2 (d.bD.ag.map aI.cells)).ro] [] kr (aP [0,1,2,3,4,5,6,7,8,9,10,11,12,13,14]) (aP [])<|eS U (LW 3 U cq U U)<|eS U (FA 4 U fK U)<|eS U (LP (cN.cells (jr d.bD sgA sgC)) 1 U cq U U U)<|eS U (MV U)<|eS U (CL (mg j kA kC az cA cC bA bC slA slC drA drC ha heA heC faA faC prA prC d.bD sgA sgC (fw-1) hin hsl) (bw [4,5,6,7,8,9,10,11,12,13,14]) U)<|eS U (LW 3 U cq U U)<|eS U (FA 4 U fK U)<|eS U (LP (cN.cells (jr d.bD sgA sgC)) 1 U cq U U U)<|eS U (MV U)<|eS U (CL (mg j kA kC az cA cC bA bC slA slC drA drC ha heA heC faA faC prA prC d.bD sgA sgC fw hin hsl) (bw [4,5,6,7,8,9,10,11,12,13,14]) U)<|eC U<|mW [10,11] kr (iR ?_<|iR ?_<|ql)
 rotate_left 1
 ·refine NO U U [10,12,13] fun T14 P=>AL U oq fun Y=>RD P 1 U<|N1 10<|NO U U [12,13] fun T16 R=>AL U oq fun Z=>RD R 2 U<|N1 12<|NO U U [13] fun T18 S=>fR U mM U<|RD S 2 U<|N1 13<|NO U U [] fun T19 T=>qy U mM U<|RD T 2 U<|lU<|KK AA<|aq fun _ F=>aF<|WS fun _ E=>rP 3 [] (mc 0 U I) ?_
  refine bZ (t:=40) U (fun C=>?_) (fun C=>?_)
  ·refine bE 16 U<|RK E<|aT U<|WS fun _ J=>rP 1 [] I ?_
   refine RK J<|av<|Q1 hQ U U U ?_
   (rw [jL rfl A]; (rw [gZ (.inl C)]; done))
  refine rP 8 [0,1] (mc 0 U (mc 4 U I)) ?_
  refine bZ (t:=48) U (aV fun D=>?_) (aU fun D=>?_)
  ·refine bE 8 U<|RK E<|aT U<|WS fun _ K=>rP 1 [] I ?_
   refine RK K<|av<|Q1 hQ U U U ?_
   (rw [jL rfl A]; (rw [gZ (.inr (.inl D))]; done))
  refine rP 8 [0,1] (mc 1 U (mc 4 U I)) ?_
  refine RK E<|cw U (aV fun B=>?_) (aU fun B=>?_)
  ·refine WS fun _ L=>rP 1 [] I ?_
   refine RK L<|av<|Q1 hQ U U U ?_
   (rw [jL rfl A]; (rw [gZ (.inr (.inr B))]; done))
  refine WS fun _ G=>rP 3 [] (mc 0 U I) ?_
  refine cL (t:=59) U (fun AB=>?_) (fun AB=>?_)
  ·refine bE 8 U<|RK G<|cj U<|cg<|aO<|KK F<|WS fun _ O=>rP 1 [] I ?_
   refine RK O<|av<|Q1 hQ U U U ?_
   (rw [jL rfl A]; (rw [jJ (AS (by simpa using C) (by first|exact D|(simp only []; omega)) (by first|exact B|(simp only []; omega))) (fun q=>by rw [AB] at q; exact Bool.noConfusion q.1)]; done))
  refine e9 5 [0,1,2,3] (mc 2 U (mc 4 U (mc 0 U (mc 1 U I)))) U<|rS (CL (uo 2 fw ff ft ((cR j.Race.ar d.bD (fw-1)).Lo) ((cR j.Race.ar d.bD (fw-1)).Hi) ((cR j.Race.ar d.bD (fw-1)).each) ((cR j.Race.ar d.bD (fw-1)).never) ((cR j.Race.ar d.bD fw).Lo) ((cR j.Race.ar d.bD fw).Hi) ((cR j.Race.ar d.bD fw).each) ((cR j.Race.ar d.bD fw).never)) (aN) U)<|rP 2 [] I ?_
  refine RK G<|cw U (aV fun H=>?_) (aU fun H=>?_)
  ·refine WS fun _ M=>rP 1 [] I ?_
   refine RK M<|av<|Q1 hQ U U U ?_
   (rw [jL rfl A]; (rw [pb (AS (by simpa using C) (by first|exact D|(simp only []; omega)) (by first|exact B|(simp only []; omega))) AB ((oG (show ¬ (2:Int)=3 by decide)).2 H)]; done))
  refine cg<|aO<|KK F<|WS fun _ N=>rP 1 [] I ?_
  refine RK N<|av<|Q1 hQ U U U ?_
  (rw [jL rfl A]; (rw [jJ (AS (by simpa using C) (by first|exact D|(simp only []; omega)) (by first|exact B|(simp only []; omega))) (fun q=>H ((oG (show ¬ (2:Int)=3 by decide)).1 q.2))]; done))
 refine NO U U [11,12,13] fun T14 P=>AL U oq fun Y=>RD P 1 U<|N1 11<|NO U U [12,13] fun T16 R=>AL U oq fun Z=>RD R 2 U<|N1 12<|NO U U [13] fun T18 S=>qy U mM U<|RD S 2 U<|N1 13<|NO U U [] fun T19 T=>fR U mM U<|RD T 2 U<|lU<|KK AA<|aq fun _ F=>aF<|WS fun _ E=>rP 3 [] (mc 1 U I) ?_
 refine bZ (t:=40) U (fun C=>?_) (fun C=>?_)
 ·refine bE 16 U<|RK E<|aT U<|WS fun _ J=>rP 1 [] I ?_
  refine RK J<|av<|Q1 hQ U U U ?_
  (rw [jL rfl A]; (rw [gZ (.inl C)]; done))
 refine rP 8 [0,1] (mc 1 U (mc 4 U I)) ?_
 refine bZ (t:=48) U (aV fun D=>?_) (aU fun D=>?_)
 ·refine bE 8 U<|RK E<|aT U<|WS fun _ K=>rP 1 [] I ?_
  refine RK K<|av<|Q1 hQ U U U ?_
  (rw [jL rfl A]; (rw [gZ (.inr (.inl D))]; done))
 refine rP 8 [0,1] (mc 0 U (mc 4 U I)) ?_
 refine RK E<|cw U (aV fun B=>?_) (aU fun B=>?_)
 ·refine WS fun _ L=>rP 1 [] I ?_
  refine RK L<|av<|Q1 hQ U U U ?_
  (rw [jL rfl A]; (rw [gZ (.inr (.inr B))]; done))
 refine WS fun _ G=>rP 3 [] (mc 1 U I) ?_
 refine cL (t:=59) U (fun AB=>?_) (fun AB=>?_)
 ·refine bE 8 U<|RK G<|cj U<|cg<|aO<|KK F<|WS fun _ O=>rP 1 [] I ?_
  refine RK O<|av<|Q1 hQ U U U ?_
  (rw [jL rfl A]; (rw [jJ (AS (by simpa using C) (by first|exact D|(simp only []; omega)) (by first|exact B|(simp only []; omega))) (fun q=>by rw [AB] at q; exact Bool.noConfusion q.1)]; done))
 refine e9 5 [0,1,2,3] (mc 2 U (mc 4 U (mc 1 U (mc 0 U I)))) U<|rS (CL (uo 2 fw ff ft ((cR j.Race.ar d.bD (fw-1)).Lo) ((cR j.Race.ar d.bD (fw-1)).Hi) ((cR j.Race.ar d.bD (fw-1)).each) ((cR j.Race.ar d.bD (fw-1)).never) ((cR j.Race.ar d.bD fw).Lo) ((cR j.Race.ar d.bD fw).Hi) ((cR j.Race.ar d.bD fw).each) ((cR j.Race.ar d.bD fw).never)) (aN) U)<|rP 2 [] I ?_
 refine RK G<|cw U (aV fun H=>?_) (aU fun H=>?_)
 ·refine WS fun _ M=>rP 1 [] I ?_
  refine RK M<|av<|Q1 hQ U U U ?_
  (rw [jL rfl A]; (rw [pb (AS (by simpa using C) (by first|exact D|(simp only []; omega)) (by first|exact B|(simp only []; omega))) AB ((oG (show ¬ (2:Int)=3 by decide)).2 H)]; done))
 refine cg<|aO<|KK F<|WS fun _ N=>rP 1 [] I ?_
 refine RK N<|av<|Q1 hQ U U U ?_
 (rw [jL rfl A]; (rw [jJ (AS (by simpa using C) (by first|exact D|(simp only []; omega)) (by first|exact B|(simp only []; omega))) (fun q=>H ((oG (show ¬ (2:Int)=3 by decide)).1 q.2))]; done))
theorem HL (j:bS) (kA:OA) (kC:Nat) (az:List RA) (cA:OA) (cC:Nat) (bA:OA) (bC:Nat) (slA:OA) (slC:Nat) (drA:OA) (drC:Nat) (ha:List cZ) (heA:OA) (heC:Nat) (faA:OA) (faC:Nat) (prA:OA) (prC:Nat) (fw ff ft:Int) (d:aC) (sgA:OA) (sgC:Nat) (hin:gp j az ha) (hw:0≤fw∧fw≤1000000) (hsl:d.bD.ag.length≤1000000):
 dK Tryz.prog 34 [(vA (df.cells (df.mk (mZ j kA kC cA cC bA bC slA slC drA drC heA heC faA faC prA prC)))),(vA (aW.cells (aW.mk 3 fw ff ft))),(vA (aR.cells (aR.mk d.Out d.dB d.Time (jr d.bD sgA sgC))))] [(rd kA j.Race.ar.aS.length 9 (j.Race.ar.aS.map au.cells)),(rd cA j.Race.ar.aj.length 2 (List.zipWith ay.cells j.Race.ar.aj az)),(dU (bo ay.gn j.Race.ar.aj az)),(rd bA j.Race.ar.aa.length 4 (j.Race.ar.aa.map bK.cells)),(rd slA j.Race.aY.length 1 (j.Race.aY.map iC)),(rd drA j.Race.cd.length 1 (j.Race.cd.map iC)),(rd heA j.Race.aD.length 1 (List.zipWith cP j.Race.aD ha)),(dU (bo fg j.Race.aD ha)),(rd faA j.aA.length 4 (j.aA.map aW.cells)),(rd prA j.ao.length 5 (j.ao.map aJ.cells)),(rd sgA d.bD.ag.length 2 (d.bD.ag.map aI.cells))] (Value.int .u8 (g6 j.Race.ar (aW.mk 3 fw ff ft) d)):=by
 have l:=hin.race
 have h:=hin.race.line
 have r:=hin.race.iE
 have s:=hin.race.has
 have m:=hin.race.iB
 have i:=hin.nf
 have k:=hin.np
 refine bG kr Tryz.func34 U U fun u Q hQ hN=>?_
 try dsimp only
 refine WS fun _ a=>eL U fun n=>eL U fun o=>eL U fun p=>bE 1 U<|RK a<|aq fun _ b=>WS fun _ c=>e9 1 [] (mc 0 U I) U<|rS (CL (tD d.Out d.dB d.Time (jr d.bD sgA sgC)) (aN) U)<|rP 1 [] I ?_
 refine RK c<|cw U (bg fun A=>?_) (bf fun A=>?_)
 ·refine WS fun _ e=>rP 1 [] I ?_
  refine RK e<|av<|Q1 hQ U U U ?_
  (rw [rW (fun q=>A q)]; done)
 refine WK b<|aq fun _ f=>dM cy [4,5] [] [] [0,1,2,3,4,5,6,7,8,9,10,11,12,13] [] U U U U U<|eS U (CL wL (aN) U)<|eS U (FA 0 U fK U)<|eS U (L1 (Value.int .u8 3) 1 U cq U U)<|eS U (SX (vj (vs:=(fh.cells (fh.mk (Value.func (.func 86) [].toArray [].toArray) (Value.func (.func 87) [].toArray [].toArray)))) 3 U U U IE cq U dc U) U U)<|eC U<|cv U fun T9 g=>AL U HQ fun X=>aK (g _ _ (aP [1,2,3,4,5,6,7,8,9,10,11,12,13,14]) ?_)
 refine cv U fun T11 W=>fR U JH U<|aK (W _ _ (aP [1,2,3,4,5,6,7,8,9,10,11,12,13,14]) ?_)
 refine fP U<|KK f<|WS fun _ V=>e9 4 [0,1,2] (mc 0 U (mc 3 U (mc 2 U I))) U<|rS (CL (Rd j kA kC cA cC bA bC slA slC drA drC heA heC faA faC prA prC 3 fw ff ft) (aN) U)<|rP 5 [] I ?_
 refine RK V<|aq fun _ AA=>lI cy [0,1,2,3,4,5,6,7,8,9] [10,11,12,13] [false,false,false,false,false,false,false,false,false,false] [] [(cx X 132 (fh.cells (fh.mk (Value.func (.func 86) [].toArray [].toArray) (Value.func (.func 87) [].toArray [].toArray)))),(cx p 58 (aR.cells (aR.mk d.Out d.dB d.Time (jr d.bD sgA sgC)))),(cx o 80 (aW.cells (aW.mk 3 fw ff ft))),(cx n 93 (df.cells (df.mk (mZ j kA kC cA cC bA bC slA slC drA drC heA heC faA faC prA prC)))),(rd kA j.Race.ar.aS.length 9 (j.Race.ar.aS.map au.cells)).ro,(rd cA j.Race.ar.aj.length 2 (List.zipWith ay.cells j.Race.ar.aj az)).ro,(dU (bo ay.gn j.Race.ar.aj az)).ro,(rd bA j.Race.ar.aa.length 4 (j.Race.ar.aa.map bK.cells)).ro,(rd slA j.Race.aY.length 1 (j.Race.aY.map iC)).ro,(rd drA j.Race.cd.length 1 (j.Race.cd.map iC)).ro,(rd heA j.Race.aD.length 1 (List.zipWith cP j.Race.aD ha)).ro,(dU (bo fg j.Race.aD ha)).ro,(rd faA j.aA.length 4 (j.aA.map aW.cells)).ro,(rd prA j.ao.length 5 (j.ao.map aJ.cells)).ro,(rd sgA d.bD.ag.length 2 (d.bD.ag.map aI.cells)).ro] [] kr (aP [0,1,2,3,4,5,6,7,8,9,10,11,12,13,14]) (aP [])<|eS U (LW 3 U cq U U)<|eS U (FA 4 U fK U)<|eS U (LP (cN.cells (jr d.bD sgA sgC)) 1 U cq U U U)<|eS U (MV U)<|eS U (CL (mg j kA kC az cA cC bA bC slA slC drA drC ha heA heC faA faC prA prC d.bD sgA sgC fw hin hsl) (bw [4,5,6,7,8,9,10,11,12,13,14]) U)<|eS U (LW 3 U cq U U)<|eS U (FA 4 U fK U)<|eS U (LP (cN.cells (jr d.bD sgA sgC)) 1 U cq U U U)<|eS U (MV U)<|eS U (CL (mg j kA kC az cA cC bA bC slA slC drA drC ha heA heC faA faC prA prC d.bD sgA sgC fw hin hsl) (bw [4,5,6,7,8,9,10,11,12,13,14]) U)<|eC U<|mW [10,11] kr (iR ?_<|iR ?_<|ql)
 rotate_left 1
 ·refine NO U U [10,12,13] fun T14 P=>AL U oq fun Y=>RD P 1 U<|N1 10<|NO U U [12,13] fun T16 R=>AL U oq fun Z=>RD R 2 U<|N1 12<|NO U U [13] fun T18 S=>fR U mM U<|RD S 2 U<|N1 13<|NO U U [] fun T19 T=>qy U mM U<|RD T 2 U<|lU<|KK AA<|aq fun _ F=>aF<|WS fun _ E=>rP 3 [] (mc 0 U I) ?_
  refine bZ (t:=40) U (fun C=>?_) (fun C=>?_)
  ·refine bE 16 U<|RK E<|aT U<|WS fun _ J=>rP 1 [] I ?_
   refine RK J<|av<|Q1 hQ U U U ?_
   (rw [jK rfl A]; (rw [gZ (.inl C)]; done))
  refine rP 8 [0,1] (mc 0 U (mc 4 U I)) ?_
  refine bZ (t:=48) U (aV fun D=>?_) (aU fun D=>?_)
  ·refine bE 8 U<|RK E<|aT U<|WS fun _ K=>rP 1 [] I ?_
   refine RK K<|av<|Q1 hQ U U U ?_
   (rw [jK rfl A]; (rw [gZ (.inr (.inl D))]; done))
  refine rP 8 [0,1] (mc 1 U (mc 4 U I)) ?_
  refine RK E<|cw U (aV fun B=>?_) (aU fun B=>?_)
  ·refine WS fun _ L=>rP 1 [] I ?_
   refine RK L<|av<|Q1 hQ U U U ?_
   (rw [jK rfl A]; (rw [gZ (.inr (.inr B))]; done))
  refine WS fun _ G=>rP 3 [] (mc 0 U I) ?_
  refine cL (t:=59) U (fun AB=>?_) (fun AB=>?_)
  ·refine bE 8 U<|RK G<|cj U<|cg<|aO<|KK F<|WS fun _ O=>rP 1 [] I ?_
   refine RK O<|av<|Q1 hQ U U U ?_
   (rw [jK rfl A]; (rw [jJ (AS (by simpa using C) (by first|exact D|(simp only []; omega)) (by first|exact B|(simp only []; omega))) (fun q=>by rw [AB] at q; exact Bool.noConfusion q.1)]; done))
  refine e9 5 [0,1,2,3] (mc 2 U (mc 4 U (mc 0 U (mc 1 U I)))) U<|rS (CL (EC 3 fw ff ft ((cR j.Race.ar d.bD fw).Lo) ((cR j.Race.ar d.bD fw).Hi) ((cR j.Race.ar d.bD fw).each) ((cR j.Race.ar d.bD fw).never) ((cR j.Race.ar d.bD fw).Lo) ((cR j.Race.ar d.bD fw).Hi) ((cR j.Race.ar d.bD fw).each) ((cR j.Race.ar d.bD fw).never)) (aN) U)<|rP 2 [] I ?_
  refine RK G<|cw U (aV fun H=>?_) (aU fun H=>?_)
  ·refine WS fun _ M=>rP 1 [] I ?_
   refine RK M<|av<|Q1 hQ U U U ?_
   (rw [jK rfl A]; (rw [pb (AS (by simpa using C) (by first|exact D|(simp only []; omega)) (by first|exact B|(simp only []; omega))) AB ((zG rfl).2 H)]; done))
  refine cg<|aO<|KK F<|WS fun _ N=>rP 1 [] I ?_
  refine RK N<|av<|Q1 hQ U U U ?_
  (rw [jK rfl A]; (rw [jJ (AS (by simpa using C) (by first|exact D|(simp only []; omega)) (by first|exact B|(simp only []; omega))) (fun q=>H ((zG rfl).1 q.2))]; done))
 refine NO U U [11,12,13] fun T14 P=>AL U oq fun Y=>RD P 1 U<|N1 11<|NO U U [12,13] fun T16 R=>AL U oq fun Z=>RD R 2 U<|N1 12<|NO U U [13] fun T18 S=>qy U mM U<|RD S 2 U<|N1 13<|NO U U [] fun T19 T=>fR U mM U<|RD T 2 U<|lU<|KK AA<|aq fun _ F=>aF<|WS fun _ E=>rP 3 [] (mc 1 U I) ?_
 refine bZ (t:=40) U (fun C=>?_) (fun C=>?_)
 ·refine bE 16 U<|RK E<|aT U<|WS fun _ J=>rP 1 [] I ?_
  refine RK J<|av<|Q1 hQ U U U ?_
  (rw [jK rfl A]; (rw [gZ (.inl C)]; done))
 refine rP 8 [0,1] (mc 1 U (mc 4 U I)) ?_
 refine bZ (t:=48) U (aV fun D=>?_) (aU fun D=>?_)
 ·refine bE 8 U<|RK E<|aT U<|WS fun _ K=>rP 1 [] I ?_
  refine RK K<|av<|Q1 hQ U U U ?_
  (rw [jK rfl A]; (rw [gZ (.inr (.inl D))]; done))
 refine rP 8 [0,1] (mc 0 U (mc 4 U I)) ?_
 refine RK E<|cw U (aV fun B=>?_) (aU fun B=>?_)
 ·refine WS fun _ L=>rP 1 [] I ?_
  refine RK L<|av<|Q1 hQ U U U ?_
  (rw [jK rfl A]; (rw [gZ (.inr (.inr B))]; done))
 refine WS fun _ G=>rP 3 [] (mc 1 U I) ?_
 refine cL (t:=59) U (fun AB=>?_) (fun AB=>?_)
 ·refine bE 8 U<|RK G<|cj U<|cg<|aO<|KK F<|WS fun _ O=>rP 1 [] I ?_
  refine RK O<|av<|Q1 hQ U U U ?_
  (rw [jK rfl A]; (rw [jJ (AS (by simpa using C) (by first|exact D|(simp only []; omega)) (by first|exact B|(simp only []; omega))) (fun q=>by rw [AB] at q; exact Bool.noConfusion q.1)]; done))
 refine e9 5 [0,1,2,3] (mc 2 U (mc 4 U (mc 1 U (mc 0 U I)))) U<|rS (CL (EC 3 fw ff ft ((cR j.Race.ar d.bD fw).Lo) ((cR j.Race.ar d.bD fw).Hi) ((cR j.Race.ar d.bD fw).each) ((cR j.Race.ar d.bD fw).never) ((cR j.Race.ar d.bD fw).Lo) ((cR j.Race.ar d.bD fw).Hi) ((cR j.Race.ar d.bD fw).each) ((cR j.Race.ar d.bD fw).never)) (aN) U)<|rP 2 [] I ?_
 refine RK G<|cw U (aV fun H=>?_) (aU fun H=>?_)
 ·refine WS fun _ M=>rP 1 [] I ?_
  refine RK M<|av<|Q1 hQ U U U ?_
  (rw [jK rfl A]; (rw [pb (AS (by simpa using C) (by first|exact D|(simp only []; omega)) (by first|exact B|(simp only []; omega))) AB ((zG rfl).2 H)]; done))
 refine cg<|aO<|KK F<|WS fun _ N=>rP 1 [] I ?_
 refine RK N<|av<|Q1 hQ U U U ?_
 (rw [jK rfl A]; (rw [jJ (AS (by simpa using C) (by first|exact D|(simp only []; omega)) (by first|exact B|(simp only []; omega))) (fun q=>H ((zG rfl).1 q.2))]; done))
theorem z4 (j:bS) (kA:OA) (kC:Nat) (az:List RA) (cA:OA) (cC:Nat) (bA:OA) (bC:Nat) (slA:OA) (slC:Nat) (drA:OA) (drC:Nat) (ha:List cZ) (heA:OA) (heC:Nat) (faA:OA) (faC:Nat) (prA:OA) (prC:Nat) (f:aW) (d:aC) (sgA:OA) (sgC:Nat) (hin:gp j az ha) (hk:1≤f.Kind∧f.Kind≤3) (hw:0≤f.ig∧f.ig≤1000000) (hsl:d.bD.ag.length≤1000000):
 dK Tryz.prog 34 [(vA (df.cells (df.mk (mZ j kA kC cA cC bA bC slA slC drA drC heA heC faA faC prA prC)))),(vA (aW.cells f)),(vA (aR.cells (aR.mk d.Out d.dB d.Time (jr d.bD sgA sgC))))] [(rd kA j.Race.ar.aS.length 9 (j.Race.ar.aS.map au.cells)),(rd cA j.Race.ar.aj.length 2 (List.zipWith ay.cells j.Race.ar.aj az)),(dU (bo ay.gn j.Race.ar.aj az)),(rd bA j.Race.ar.aa.length 4 (j.Race.ar.aa.map bK.cells)),(rd slA j.Race.aY.length 1 (j.Race.aY.map iC)),(rd drA j.Race.cd.length 1 (j.Race.cd.map iC)),(rd heA j.Race.aD.length 1 (List.zipWith cP j.Race.aD ha)),(dU (bo fg j.Race.aD ha)),(rd faA j.aA.length 4 (j.aA.map aW.cells)),(rd prA j.ao.length 5 (j.ao.map aJ.cells)),(rd sgA d.bD.ag.length 2 (d.bD.ag.map aI.cells))] (Value.int .u8 (g6 j.Race.ar f d)):=by
 obtain ⟨fk,fw,ff,ft⟩:=f
 have A:fk=1∨fk=2∨fk=3:=by have:=hk; simp only at this; omega
 rcases A with rfl|rfl|rfl
 ·exact H3 j kA kC az cA cC bA bC slA slC drA drC ha heA heC faA faC prA prC fw ff ft d sgA sgC hin hw hsl
 ·exact H8 j kA kC az cA cC bA bC slA slC drA drC ha heA heC faA faC prA prC fw ff ft d sgA sgC hin hw hsl
 ·exact HL j kA kC az cA cC bA bC slA slC drA drC ha heA heC faA faC prA prC fw ff ft d sgA sgC hin hw hsl
end
section
open Go.RowKit
theorem Jy (j:bS) (kA:OA) (kC:Nat) (az:List RA) (cA:OA) (cC:Nat) (bA:OA) (bC:Nat) (slA:OA) (slC:Nat) (drA:OA) (drC:Nat) (ha:List cZ) (heA:OA) (heC:Nat) (faA:OA) (faC:Nat) (prA:OA) (prC:Nat) (p:aJ) (hin:gp j az ha) (hok:db j=0) (hp: ∃ i:Nat,j.ao[i]? =some p):
 dK Tryz.prog 35 [(vA (df.cells (df.mk (mZ j kA kC cA cC bA bC slA slC drA drC heA heC faA faC prA prC)))),(vA (aJ.cells p))] [(rd kA j.Race.ar.aS.length 9 (j.Race.ar.aS.map au.cells)),(rd cA j.Race.ar.aj.length 2 (List.zipWith ay.cells j.Race.ar.aj az)),(dU (bo ay.gn j.Race.ar.aj az)),(rd bA j.Race.ar.aa.length 4 (j.Race.ar.aa.map bK.cells)),(rd slA j.Race.aY.length 1 (j.Race.aY.map iC)),(rd drA j.Race.cd.length 1 (j.Race.cd.map iC)),(rd heA j.Race.aD.length 1 (List.zipWith cP j.Race.aD ha)),(dU (bo fg j.Race.aD ha)),(rd faA j.aA.length 4 (j.aA.map aW.cells)),(rd prA j.ao.length 5 (j.ao.map aJ.cells))] (Value.int .u8 (lQ j p)):=by
 have S:=hin.race
 have e:=hin.race.line
 have s:=hin.race.iE
 have t:=hin.race.has
 have q:=hin.race.iB
 have k:=hin.nf
 have o:=hin.np
 have R:=(eE hok).1
 have P:=(eE hok).2
 have c:=(eX R).1
 have h:=(eX R).2
 have a:=(dZ c).2.head
 unfold fp at a
 obtain ⟨pi,f⟩:=hp
 have G:=P.gU pi p f
 have x:=G.gL
 have g:=G.ly
 simp only [qz] at g
 have w:=G.fault
 have u:=P.min_
 refine bG kr Tryz.func35 U U fun w0 Q hQ hN=>?_
 try dsimp only
 refine WS fun _ T=>eL U fun z=>eL U fun b3=>rP 1 [] I ?_
 refine RK T<|aq fun _ AA=>dM cy [20,21] [] [] [0,1,2,3,4,5,6,7,8,9,10,11] [] U U U U U<|eS U (LW 1 U cq U U)<|eS U (FA 0 U fK U)<|eS U (FA 0 U fK U)<|eS U (FA 10 U fK U)<|eS U (L1 (vS heA j.Race.aD.length heC) 1 U cq U U)<|eS U (FA 2 U fK U)<|eS U (L1 (vI p.fj) 0 U cq U U) ?_
 obtain ⟨ht,C⟩:=aM j.Race.aD ((p.fj).toNat) om
 obtain ⟨A,B⟩:=aM ha ((p.fj).toNat) om
 have O:(List.zipWith cP j.Race.aD ha)[(p.fj).toNat]? =some (cP ht A):=dx C B
 refine eS U (IA ((p.fj).toNat) U (aG 8 U) oQ dc om om)<|eS U (gQ ((p.fj).toNat) 0 (vS A.1.1 ht.length A.1.2) U cq (aG 8 U) O U dc U)<|eS U (FA 1 U fK U)<|eS U (L1 (vI p.eO) 0 U cq U U) ?_
 have N:=S.gL _ _ _ C B
 have m:=N.nP
 have n:=(h.gL ht (aQ C)).1
 obtain ⟨d,hd⟩:=aM ht ((p.eO).toNat) om
 obtain ⟨da,M⟩:=aM A.2 ((p.eO).toNat) om
 have Z:(List.zipWith aC.cells ht A.2)[(p.eO).toNat]? =some (aC.cells d da):=dx hd M
 refine eS U (IA ((p.eO).toNat) U (show iH _ (rd A.1.1 ht.length 7 (List.zipWith aC.cells ht A.2)).holds from (cY 9 U (bP C B cH))) sh dc om om)<|eS U (o1 ((((p.eO).toNat)*7)+4) U (show iH _ (rd A.1.1 ht.length 7 (List.zipWith aC.cells ht A.2)).holds from (cY 9 U (bP C B cH))) (Nat.mul_pos om dc) fK U) ?_
 have D:=pz (j:=j) (p:=p) C hd
 have y:=N.sig d (aQ hd)
 have v:=Nw (l:=j.Race.ar) (r:=d.bD) (b:=j.Race.ar.cf) om
 refine eS U (lS ((p.eO).toNat) 4 (cN.cells (cN.mk d.bD.Start d.bD.gf (bx.mk da.1 d.bD.ag.length da.2))) U cq (show iH _ (rd A.1.1 ht.length 7 (List.zipWith aC.cells ht A.2)).holds from (cY 9 U (bP C B cH))) Z U dc U U)<|eS U (FA 0 U fK U)<|eS U (FA 0 U fK U)<|eS U (FA 0 U fK U)<|eS U (FA 4 U fK U)<|eS U (L1 (vI j.Race.ar.cf) 1 U cq U U)<|eS U (CL (mg j kA kC az cA cC bA bC slA slC drA drC ha heA heC faA faC prA prC d.bD da.1 da.2 j.Race.ar.cf hin asm) (oP [2,3,4,5,6,7,8,9,10,11]<|ax (show iH _ (rd da.1 d.bD.ag.length 2 (d.bD.ag.map aI.cells)).holds from (cY 9 U (bP C B (dR _ (bP hd M (by simp [aC.gn]))))))<|aN) U)<|eC U<|cv U fun T5 X=>AL U oq fun b6=>aK (X _ _ (aP [1,2,3,4,5,6,7,8,9,10,11,12]) ?_)
 refine cv U fun T7 Y=>fR U mM U<|aK (Y _ _ (aP [1,2,3,4,5,6,7,8,9,10,11,12]) ?_)
 refine fP U<|KK AA<|WS fun _ V=>e9 3 [] (mc 2 U I) U<|rS (BI U (tQ ⟨om,om⟩))<|bE 1 U<|RK V<|aq fun _ W=>aF<|WS fun _ H=>rP 9 [0,1] (mc 1 U (mc 0 U I)) ?_
 refine RK H<|cw U (aV fun E=>?_) (aU fun E=>?_)
 ·refine WS fun _ AB=>rP 1 [] I ?_
  refine RK AB<|av<|Q1 hQ U U U ?_
  (rw [PT D E]; done)
 refine WS fun _ J=>rP 9 [0,1] (mc 1 U (mc 0 U I)) ?_
 refine RK J<|cw U (aV fun F=>?_) (aU fun F=>?_)
 ·refine WS fun _ K=>rP 1 [] I ?_
  refine RK K<|av<|Q1 hQ U U U ?_
  (rw [PL D E F]; done)
 refine cg<|aO<|KK W<|WS fun _ L=>rP 1 [] I ?_
 refine RK L<|av<|Q1 hQ U U U ?_
 (rw [PO D E F]; done)
theorem vt (j:bS) (kA:OA) (kC:Nat) (az:List RA) (cA:OA) (cC:Nat) (bA:OA) (bC:Nat) (slA:OA) (slC:Nat) (drA:OA) (drC:Nat) (ha:List cZ) (heA:OA) (heC:Nat) (faA:OA) (faC:Nat) (prA:OA) (prC:Nat) (i:Int) (p:aJ) (hin:gp j az ha) (hok:db j=0) (hp: ∃ i:Nat,j.ao[i]? =some p):
 dK Tryz.prog 31 [(vA (df.cells (df.mk (mZ j kA kC cA cC bA bC slA slC drA drC heA heC faA faC prA prC)))),(vI i),(vA (aJ.cells p))] [(rd kA j.Race.ar.aS.length 9 (j.Race.ar.aS.map au.cells)),(rd cA j.Race.ar.aj.length 2 (List.zipWith ay.cells j.Race.ar.aj az)),(dU (bo ay.gn j.Race.ar.aj az)),(rd bA j.Race.ar.aa.length 4 (j.Race.ar.aa.map bK.cells)),(rd slA j.Race.aY.length 1 (j.Race.aY.map iC)),(rd drA j.Race.cd.length 1 (j.Race.cd.map iC)),(rd heA j.Race.aD.length 1 (List.zipWith cP j.Race.aD ha)),(dU (bo fg j.Race.aD ha)),(rd faA j.aA.length 4 (j.aA.map aW.cells)),(rd prA j.ao.length 5 (j.ao.map aJ.cells))] (vB (f_ j p)):=by
 have O:=hin.race
 have V:=hin.race.line
 have h:=hin.race.iE
 have k:=hin.race.has
 have c:=hin.race.iB
 have Y:=hin.nf
 have b:=hin.np
 have M:=(eE hok).1
 have E:=(eE hok).2
 have AA:=(eX M).1
 have X:=(eX M).2
 have T:=(dZ AA).2.head
 unfold fp at T
 obtain ⟨pi,N⟩:=hp
 have F:=E.gU pi p N
 have n:=F.gL
 have W:=F.ly
 simp only [qz] at W
 have m:=F.fault
 have l:=E.min_
 refine bG kr Tryz.func31 U U fun u Q hQ hN=>?_
 try dsimp only
 refine WS fun _ P=>eL U fun r=>eL U fun s=>bE 1 U<|RK P<|aq fun _ G=>dA cy 29 kr<|lR 2 [0,1] (mc 1 U (mc 0 U I)) U<|dS (CL (Jy j kA kC az cA cC bA bC slA slC drA drC ha heA heC faA faC prA prC p hin hok (by exact ⟨pi,N⟩)) (bw [2,3,4,5,6,7,8,9,10,11]) U)<|dS (BI U xM)<|dP 1 [] I ?_
 refine jD (t:=11) U (bf fun D=>?_) (bg fun D=>?_)
 ·refine k6 17 U<|k6 2 U<|dP 5 [] I ?_
  refine cM<|RK G<|av<|Q1 hQ U U U ?_
  (rw [Kj D]; done)
 refine dP 6 [0,0,1] (mc 1 U (mc 0 U I)) ?_
 obtain ⟨f,hf⟩:=aM j.aA ((p.ew).toNat) om
 have S:=bO aW.cells hf
 refine dS (IA ((p.ew).toNat) U (aG 10 U) Ap dc om om)<|dS (lS ((p.ew).toNat) 0 (aW.cells f) U cq (aG 10 U) S U dc U U)<|dP 6 [0,1] (mc 1 U (mc 0 U I)) ?_
 obtain ⟨ht,C⟩:=aM j.Race.aD ((p.fj).toNat) om
 obtain ⟨A,B⟩:=aM ha ((p.fj).toNat) om
 have L:(List.zipWith cP j.Race.aD ha)[(p.fj).toNat]? =some (cP ht A):=dx C B
 refine dS (IA ((p.fj).toNat) U (aG 8 U) oQ dc om om)<|dS (gQ ((p.fj).toNat) 0 (vS A.1.1 ht.length A.1.2) U cq (aG 8 U) L U dc U)<|dP 1 [] I ?_
 have K:=O.gL _ _ _ C B
 have Z:=K.nP
 have a:=(X.gL ht (aQ C)).1
 refine dP 1 [] (mc 0 U I) ?_
 obtain ⟨d,hd⟩:=aM ht ((p.eO).toNat) om
 obtain ⟨da,AB⟩:=aM A.2 ((p.eO).toNat) om
 have R:(List.zipWith aC.cells ht A.2)[(p.eO).toNat]? =some (aC.cells d da):=dx hd AB
 refine dS (IA ((p.eO).toNat) U (show iH _ (rd A.1.1 ht.length 7 (List.zipWith aC.cells ht A.2)).holds from (cY 9 U (bP C B cH))) sh dc om om) ?_
 have H:=pz (j:=j) (p:=p) C hd
 have o:=K.sig d (aQ hd)
 have J:=E.fault f (aQ hf)
 have g:0≤f.ig∧f.ig≤1000000:=by have e:=J.2.2; split at e<;>omega
 refine dS (lS ((p.eO).toNat) 0 (aR.cells (aR.mk d.Out d.dB d.Time (cN.mk d.bD.Start d.bD.gf (bx.mk da.1 d.bD.ag.length da.2)))) U cq (show iH _ (rd A.1.1 ht.length 7 (List.zipWith aC.cells ht A.2)).holds from (cY 9 U (bP C B cH))) R U dc U U)<|dS (CL (z4 j kA kC az cA cC bA bC slA slC drA drC ha heA heC faA faC prA prC f d da.1 da.2 hin (by exact J.1) asm asm) (oP [2,3,4,5,6,7,8,9,10,11]<|ax (show iH _ (rd da.1 d.bD.ag.length 2 (d.bD.ag.map aI.cells)).holds from (cY 9 U (bP C B (dR _ (bP hd AB (by simp [aC.gn]))))))<|aN) U)<|dS (BI U xM)<|dP 2 [] I ?_
 refine cM<|RK G<|av<|Q1 hQ U U U ?_
 (rw [HZ H hf (fun q=>D q)]; done)
end
section
open Go.RowKit
theorem Ib (n lo hi:Int) (g1 g2:Nat):
 dK Tryz.prog 147 [(vI n),(vP g1),(vP g2)] [(cx g1 3 [(vI lo)]),(cx g2 3 [(vI hi)])] (vB (decide (n<lo∨hi<n))):=by
 refine bG kr Tryz.func147 U U fun D Q hQ hN=>?_
 try dsimp only
 refine WS fun _ B=>bE 1 U<|RK B<|WS fun _ A=>rP 4 [] (mr 0 U I) ?_
 refine bZ (t:=8) U (aV fun C=>?_) (aU fun C=>?_)
 ·refine rP 5 [] I ?_
  refine RK A<|av<|Q1 hQ U U U ?_
  exact cB (dI om).symm
 refine rP 5 [] (mr 1 U I) ?_
 refine RK A<|av<|Q1 hQ U U U ?_
 exact cB (gY.2 om)
theorem tj (lo hi:Int) (l:List Int) (lA:OA) (lC:Nat) (hlen:l.length≤1000000):
 dK Tryz.prog 126 [(vI lo),(vI hi),(vS lA l.length lC)] [(rd lA l.length 1 (l.map iC))] (vB (qs lo hi l)):=by
 refine bG kr Tryz.func126 U U fun F Q hQ hN=>?_
 try dsimp only
 refine WS fun _ D=>wq U U fun A=>wq U U fun B=>bE 1 U<|RK D<|WS fun _ E=>rP 1 [] I ?_
 refine rS (FU U) ?_
 refine rS (CL (pP l lA lC (Value.func (.func 147) [].toArray [(vP A),(vP B)].toArray) (fun C=>(decide (C<lo∨hi<C))) (dU [(cx A 3 [(vI lo)]),(cx B 3 [(vI hi)])]) (by intro C _; exact k9 (fi:=[]) (ca:=[(vP A),(vP B)]) (jY (Ib C lo hi A B) (bw [0,1]))) hlen) (gj 2 U U<|ax (jV (bw [1,0]))<|aN) U) ?_
 refine rP 2 [] I ?_
 refine RK E<|av ?_
 exact Q1 hQ U U U U
theorem Ml (s:ai):
 dK Tryz.prog 210 [(vA (ai.cells s))] [] (vB (decide (mh s))):=by
 refine bG kr Tryz.func210 U U fun F Q hQ hN=>?_
 try dsimp only
 refine WS fun _ B=>eL U fun E=>bE 1 U<|RK B<|WS fun _ A=>rP 4 [] (mc 0 U I) ?_
 refine eB (xs:=[.tmp 4,.tmp 6]) (cs:=[(vI s.Lo),(vI s.Hi)]) U dp ky U U U U (by simp [Value.cells]) U U fun C=>?_
 refine rS (CL (dK.eq (tj 1 600000 ([s.Lo,s.Hi]) (some ⟨C,0,none⟩) 2 (by (simp; done))) o3) (ax (bu 0 U U (by simp [bR]) U)<|aN) U) ?_
 refine rP 1 [] I ?_
 refine cL (t:=9) U (aU fun D=>?_) (aV fun D=>?_)
 ·refine rP 7 [] I ?_
  refine RK A<|av<|Q1 hQ U U U ?_
  simp only [mh]
  exact cB (bH om).symm
 refine rP 7 [] (mc 1 U I) ?_
 refine RK A<|av<|Q1 hQ U U U ?_
 simp only [mh]
 exact cB (gY.2 om)
theorem IY (d:aC) (sgA:OA) (sgC:Nat):
 dK Tryz.prog 207 [(vA (aR.cells (aR.mk d.Out d.dB d.Time (jr d.bD sgA sgC))))] [(rd sgA d.bD.ag.length 2 (d.bD.ag.map aI.cells))] (vB (decide (m8 d.bD))):=by
 refine bG kr Tryz.func207 U U fun F Q hQ hN=>?_
 try dsimp only
 refine WS fun _ B=>eL U fun E=>bE 1 U<|RK B<|WS fun _ A=>rP 5 [] (mc 0 U I) ?_
 refine cL (t:=7) U (aU fun C=>?_) (aV fun C=>?_)
 ·refine rP 13 [] I ?_
  refine RK A<|av<|Q1 hQ U U U ?_
  simp only [m8]
  exact cB (bH om).symm
 refine rP 6 [] (mc 0 U I) ?_
 refine cL (t:=13) U (aU fun D=>?_) (aV fun D=>?_)
 ·refine rP 7 [] I ?_
  refine RK A<|av<|Q1 hQ U U U ?_
  simp only [m8]
  exact cB (bH om).symm
 refine rP 7 [] (mc 0 U I) ?_
 refine RK A<|av<|Q1 hQ U U U ?_
 simp only [m8]
 exact cB (gY.2 om)
theorem SS (d:aC) (sgA:OA) (sgC:Nat):
 dK Tryz.prog 205 [(vA (aR.cells (aR.mk d.Out d.dB d.Time (jr d.bD sgA sgC))))] [(rd sgA d.bD.ag.length 2 (d.bD.ag.map aI.cells))] (vB d.Out):=by
 refine bG kr Tryz.func205 U U fun D Q hQ hN=>?_
 try dsimp only
 refine WS fun _ A=>eL U fun C=>bE 1 U<|RK A<|WS fun _ B=>rP 3 [] (mc 0 U I) ?_
 refine RK B<|av<|Q1 hQ U U U ?_
 rfl
theorem Sj (d:aC) (sgA:OA) (sgC:Nat):
 dK Tryz.prog 208 [(vA (aR.cells (aR.mk d.Out d.dB d.Time (jr d.bD sgA sgC))))] [(rd sgA d.bD.ag.length 2 (d.bD.ag.map aI.cells))] (vB d.dB):=by
 refine bG kr Tryz.func208 U U fun D Q hQ hN=>?_
 try dsimp only
 refine WS fun _ A=>eL U fun C=>bE 1 U<|RK A<|WS fun _ B=>rP 3 [] (mc 0 U I) ?_
 refine RK B<|av<|Q1 hQ U U U ?_
 rfl
theorem Si (d:aC) (sgA:OA) (sgC:Nat):
 dK Tryz.prog 211 [(vA (aR.cells (aR.mk d.Out d.dB d.Time (jr d.bD sgA sgC))))] [(rd sgA d.bD.ag.length 2 (d.bD.ag.map aI.cells))] (vB true):=by
 refine bG kr Tryz.func211 U U fun D Q hQ hN=>?_
 try dsimp only
 refine WS fun _ A=>eL U fun C=>bE 1 U<|RK A<|WS fun _ B=>rP 1 [] I ?_
 refine RK B<|av<|Q1 hQ U U U ?_
 rfl
end
section
open Go.RowKit
theorem NF (l:br) (kA:OA) (kC:Nat) (az:List RA) (cA:OA) (cC:Nat) (bA:OA) (bC:Nat) (d:aC) (sgA:OA) (sgC:Nat) (hin:eo l az):
 dK Tryz.prog 206 [(vA (ct.cells (jW l kA kC cA cC bA bC))),(vA (aR.cells (aR.mk d.Out d.dB d.Time (jr d.bD sgA sgC))))] [(rd kA l.aS.length 9 (l.aS.map au.cells)),(rd cA l.aj.length 2 (List.zipWith ay.cells l.aj az)),(dU (bo ay.gn l.aj az)),(rd bA l.aa.length 4 (l.aa.map bK.cells)),(rd sgA d.bD.ag.length 2 (d.bD.ag.map aI.cells))] (vT [(vA (ai.cells d.Time)),(vB (decide (d.dB=false∧d.Time=gS∧m8 d.bD)))]):=by
 refine bG kr Tryz.func206 U U fun K Q hQ hN=>?_
 try dsimp only
 refine WS fun _ B=>eL U fun H=>eL U fun AA=>AL U ed fun J=>rP 1 [] I ?_
 refine RK B<|aq fun _ A=>dM cy [15] [] [] [1,2,3,4,5,6,7] [] U U U U U<|eS U (FA 2 U fK U)<|eS U (LP (ai.cells d.Time) 0 U cq U U U)<|eS U (FA 1 U fK U)<|eS U (L1 (vB d.dB) 0 U cq U U)<|eS U (NT U)<|eS U (MV U)<|rq (t:=11) U (fun G=>?_) (fun G=>?_)
 rotate_left 1
 ·rw [Bool.not_eq_false'] at G
  refine eS U (OX U)<|eS U (OX U)<|eS U (OX U)<|eS U (OX U)<|eS U (PK U)<|eS U (MV U)<|eS U (OX U)<|eS U (OX U)<|eS U (PK U)<|eS U (AG U)<|eC U<|cv U fun T10 C=>fR U c_ U<|aK (C _ _ (aP [1,2,3,4,5,6,7]) ?_)
  refine fP U<|KK A<|av<|mY hQ [0] (mc 0 U I) U ?_
  clear hQ hN C T10 A B
  refine congrArg (fun z=>Value.tuple #[_,vB z]) ?_
  first|rfl|(simp_all [gS]; done)
 rw [Bool.not_eq_true'] at G
 refine eS U (FA 2 U fK U)<|eS U (LP (ai.cells d.Time) 0 U cq U U U)<|eS U (SX (bq (xs:=[]) (cs:=(ai.cells (ai.mk 0 0))) U U (bp g4 U)) U U)<|eS U (BI U (wR _ _ d.Time (ai.mk 0 0)))<|eS U (PK U)<|eS U (MV U)<|rq (t:=17) U (fun D=>?_) (fun D=>?_)
 rotate_left 1
 ·replace D:=DF D
  refine eS U (OX U)<|eS U (OX U)<|eS U (PK U)<|eS U (AG U)<|eC U<|cv U fun T9 F=>fR U c_ U<|aK (F _ _ (aP [1,2,3,4,5,6,7]) ?_)
  refine fP U<|KK A<|av<|mY hQ [0] (mc 0 U I) U ?_
  clear hQ hN F T9 A B
  refine congrArg (fun z=>Value.tuple #[_,vB z]) ?_
  first|rfl|(simp_all [gS]; done)
 replace D:=DT D
 refine eS U (LW 0 U cq U U)<|eS U (CL (IY d sgA sgC) (bw [6]) U)<|eS U (PK U)<|eS U (AG U)<|eC U<|cv U fun T8 E=>fR U c_ U<|aK (E _ _ (aP [1,2,3,4,5,6,7]) ?_)
 refine fP U<|KK A<|av<|mY hQ [0] (mc 0 U I) U ?_
 clear hQ hN E T8 A B
 refine congrArg (fun z=>Value.tuple #[_,vB z]) ?_
 first|rfl|(simp_all [gS]; done)
theorem MC (l:br) (kA:OA) (kC:Nat) (az:List RA) (cA:OA) (cC:Nat) (bA:OA) (bC:Nat) (d:aC) (sgA:OA) (sgC:Nat) (hin:eo l az):
 dK Tryz.prog 209 [(vA (ct.cells (jW l kA kC cA cC bA bC))),(vA (aR.cells (aR.mk d.Out d.dB d.Time (jr d.bD sgA sgC))))] [(rd kA l.aS.length 9 (l.aS.map au.cells)),(rd cA l.aj.length 2 (List.zipWith ay.cells l.aj az)),(dU (bo ay.gn l.aj az)),(rd bA l.aa.length 4 (l.aa.map bK.cells)),(rd sgA d.bD.ag.length 2 (d.bD.ag.map aI.cells))] (vT [(vA (ai.cells d.Time)),(vB (decide (mh d.Time∧m8 d.bD)))]):=by
 refine bG kr Tryz.func209 U U fun AA Q hQ hN=>?_
 try dsimp only
 refine WS fun _ B=>eL U fun F=>eL U fun G=>AL U ed fun H=>rP 1 [] I ?_
 refine RK B<|aq fun _ A=>dM cy [9] [] [] [1,2,3,4,5,6,7] [] U U U U U<|eS U (FA 2 U fK U)<|eS U (LP (ai.cells d.Time) 0 U cq U U U)<|eS U (FA 2 U fK U)<|eS U (LP (ai.cells d.Time) 0 U cq U U U)<|eS U (CL (Ml d.Time) (aN) U)<|eS U (MV U)<|rq (t:=11) U (fun C=>?_) (fun C=>?_)
 rotate_left 1
 ·replace C:=DF C
  refine eS U (OX U)<|eS U (OX U)<|eS U (PK U)<|eS U (AG U)<|eC U<|cv U fun T8 E=>fR U c_ U<|aK (E _ _ (aP [1,2,3,4,5,6,7]) ?_)
  refine fP U<|KK A<|av<|mY hQ [0] (mc 0 U I) U ?_
  clear hQ hN E T8 A B
  refine congrArg (fun z=>Value.tuple #[_,vB z]) ?_
  first|rfl|(simp_all; done)
 replace C:=DT C
 refine eS U (LW 0 U cq U U)<|eS U (CL (IY d sgA sgC) (bw [6]) U)<|eS U (PK U)<|eS U (AG U)<|eC U<|cv U fun T7 D=>fR U c_ U<|aK (D _ _ (aP [1,2,3,4,5,6,7]) ?_)
 refine fP U<|KK A<|av<|mY hQ [0] (mc 0 U I) U ?_
 clear hQ hN D T7 A B
 refine congrArg (fun z=>Value.tuple #[_,vB z]) ?_
 first|rfl|(simp_all; done)
theorem M4 (l:br) (kA:OA) (kC:Nat) (az:List RA) (cA:OA) (cC:Nat) (bA:OA) (bC:Nat) (d:aC) (sgA:OA) (sgC:Nat) (hin:eo l az) (hsl:d.bD.ag.length≤1000000):
 dK Tryz.prog 212 [(vA (ct.cells (jW l kA kC cA cC bA bC))),(vA (aR.cells (aR.mk d.Out d.dB d.Time (jr d.bD sgA sgC))))] [(rd kA l.aS.length 9 (l.aS.map au.cells)),(rd cA l.aj.length 2 (List.zipWith ay.cells l.aj az)),(dU (bo ay.gn l.aj az)),(rd bA l.aa.length 4 (l.aa.map bK.cells)),(rd sgA d.bD.ag.length 2 (d.bD.ag.map aI.cells))] (vT [(vA (ai.cells (zS l d.bD))),(vB (decide (dY l d.bD l.cf=0∧d.Time=gS)))]):=by
 have K:=hin.se
 have AA:=hin.sb
 have G:=hin.nP
 have H:=hin.r9
 have J:=hin.side
 refine bG kr Tryz.func212 U U fun P Q hQ hN=>?_
 try dsimp only
 refine WS fun _ C=>eL U fun L=>eL U fun M=>AL U ed fun N=>bE 1 U<|RK C<|WS fun _ D=>e9 2 [] (mc 2 U I) U<|rS (LP (cN.cells (jr d.bD sgA sgC)) 1 U cq U U U)<|rS (CL (SF l kA kC az cA cC bA bC d.bD sgA sgC hin hsl) (bw [3,4,5,6,7]) U)<|bE 3 U<|AL U ed fun O=>fR U c_ U<|rP 1 [] I ?_
 refine RK D<|aq fun _ A=>dM cy [9] [] [] [0,2,3,4,5,6,7,8] [] U U U U U<|eS U (LW 0 U cq U U)<|eS U (MV U)<|eS U (BI U lB)<|eS U (MV U)<|rq (t:=18) U (fun E=>?_) (fun E=>?_)
 rotate_left 1
 ·replace E:=DF E
  refine eS U (OX U)<|eS U (OX U)<|eS U (OX U)<|eS U (OX U)<|eS U (PK U)<|eS U (AG U)<|eC U<|cv U fun T10 B=>qy U c_ U<|aK (B _ _ (aP [0,2,3,4,5,6,7,8]) ?_)
  refine fP U<|KK A<|av<|mY hQ [0] (mc 1 U I) U ?_
  clear hQ hN B T10 A D C
  refine congrArg (fun z=>Value.tuple #[_,vB z]) ?_
  first|rfl|(simp_all [gS]; done)
 replace E:=DT E
 refine eS U (FA 2 U fK U)<|eS U (LP (ai.cells d.Time) 1 U cq U U U)<|eS U (SX (bq (xs:=[]) (cs:=(ai.cells (ai.mk 0 0))) U U (bp g4 U)) U U)<|eS U (BI U (wR _ _ d.Time (ai.mk 0 0)))<|eS U (PK U)<|eS U (AG U)<|eC U<|cv U fun T9 F=>qy U c_ U<|aK (F _ _ (aP [0,2,3,4,5,6,7,8]) ?_)
 refine fP U<|KK A<|av<|mY hQ [0] (mc 1 U I) U ?_
 clear hQ hN F T9 A D C
 refine congrArg (fun z=>Value.tuple #[_,vB z]) ?_
 first|rfl|(simp_all [gS]; done)
theorem Gn (d:aC) (sgA:OA) (sgC g1:Nat):
 dK Tryz.prog 149 [(vA (m7.cells (m7.mk (Value.func (.func 205) [].toArray [].toArray) (Value.func (.func 206) [].toArray [].toArray)))),(vP g1)] [(rd sgA d.bD.ag.length 2 (d.bD.ag.map aI.cells)),(cx g1 58 (aR.cells (aR.mk d.Out d.dB d.Time (jr d.bD sgA sgC))))] (vB d.Out):=by
 refine bG kr Tryz.func149 U U fun D Q hQ hN=>?_
 try dsimp only
 refine WS fun _ A=>eL U fun C=>bE 1 U<|RK A<|WS fun _ B=>e9 3 [0,1] (mc 0 U (mr 2 U I)) U<|rS (CL (SS d sgA sgC) (bw [1]) U)<|rP 1 [] I ?_
 refine RK B<|av<|Q1 hQ U U U ?_
 rfl
theorem F_ (d:aC) (sgA:OA) (sgC g1:Nat):
 dK Tryz.prog 149 [(vA (m7.cells (m7.mk (Value.func (.func 208) [].toArray [].toArray) (Value.func (.func 209) [].toArray [].toArray)))),(vP g1)] [(rd sgA d.bD.ag.length 2 (d.bD.ag.map aI.cells)),(cx g1 58 (aR.cells (aR.mk d.Out d.dB d.Time (jr d.bD sgA sgC))))] (vB d.dB):=by
 refine bG kr Tryz.func149 U U fun D Q hQ hN=>?_
 try dsimp only
 refine WS fun _ A=>eL U fun C=>bE 1 U<|RK A<|WS fun _ B=>e9 3 [0,1] (mc 0 U (mr 2 U I)) U<|rS (CL (Sj d sgA sgC) (bw [1]) U)<|rP 1 [] I ?_
 refine RK B<|av<|Q1 hQ U U U ?_
 rfl
theorem Hw (d:aC) (sgA:OA) (sgC g1:Nat):
 dK Tryz.prog 149 [(vA (m7.cells (m7.mk (Value.func (.func 211) [].toArray [].toArray) (Value.func (.func 212) [].toArray [].toArray)))),(vP g1)] [(rd sgA d.bD.ag.length 2 (d.bD.ag.map aI.cells)),(cx g1 58 (aR.cells (aR.mk d.Out d.dB d.Time (jr d.bD sgA sgC))))] (vB true):=by
 refine bG kr Tryz.func149 U U fun D Q hQ hN=>?_
 try dsimp only
 refine WS fun _ A=>eL U fun C=>bE 1 U<|RK A<|WS fun _ B=>e9 3 [0,1] (mc 0 U (mr 2 U I)) U<|rS (CL (Si d sgA sgC) (bw [1]) U)<|rP 1 [] I ?_
 refine RK B<|av<|Q1 hQ U U U ?_
 rfl
end
section
open Go.RowKit
theorem yd (d:aC) (sgA:OA) (sgC g1:Nat):
 dK Tryz.prog 148 [(vS gV 3 3),(Value.func (.func 149) [].toArray [(vP g1)].toArray)] [(rd gV 3 2 fW),(rd sgA d.bD.ag.length 2 (d.bD.ag.map aI.cells)),(cx g1 58 (aR.cells (aR.mk d.Out d.dB d.Time (jr d.bD sgA sgC))))] (vI (oY d)):=by
 refine bG kr Tryz.func148 U U fun b Q hQ hN=>?_
 try dsimp only
 refine WS fun _ F=>bE 1 U<|RK F<|aq fun _ AA=>WS fun _ G=>bE 3 U<|RK G<|aF<|pt 4<|js fun R4 Z=>WS fun _ H=>rS (SX (eu (r:= .bool true) U U U m0) U U)<|RK H<|aq fun _ AB=>aT U<|WK AB<|aq fun _ J=>aF<|WS fun _ K=>bE 2 U<|RK K<|WS fun _ L=>rP 3 [] I ?_
 refine rS (IA 0 U (aG 0 U) JG dc U om)<|rS (lS 0 0 (m7.cells (m7.mk (Value.func (.func 205) [].toArray [].toArray) (Value.func (.func 206) [].toArray [].toArray))) U cq (aG 0 U) (show fW[0]? =some [(Value.func (.func 205) [].toArray [].toArray),(Value.func (.func 206) [].toArray [].toArray)] from U) U dc U U)<|rS (CL (Gn d sgA sgC g1) (bw [1,2]) U)<|RK L<|cw U (fun X=>?_) (fun X=>?_)
 ·refine WS fun _ M=>rP 2 [] I ?_
  refine RK M<|av<|Q1 hQ U U U ?_
  clear hQ hN M L K J AB H G AA F
  refine cI ?_
  simp [oY, *]
 refine cg<|aO<|KK J<|aw<|rS (SX (eu (r:= .int .i64 1) U U U (mL ⟨dc,dc⟩)) U U)<|bE 1 U<|RK Z<|js fun R12 W=>WS fun _ A=>rS (SX (eu (r:= .bool true) U U U m0) U U)<|RK A<|aq fun _ B=>aT U<|WK B<|aq fun _ C=>aF<|WS fun _ D=>bE 2 U<|RK D<|WS fun _ E=>rP 3 [] I ?_
 refine rS (IA 1 U (aG 0 U) JG dc U om)<|rS (lS 1 0 (m7.cells (m7.mk (Value.func (.func 208) [].toArray [].toArray) (Value.func (.func 209) [].toArray [].toArray))) U cq (aG 0 U) (show fW[1]? =some [(Value.func (.func 208) [].toArray [].toArray),(Value.func (.func 209) [].toArray [].toArray)] from U) U dc U U)<|rS (CL (F_ d sgA sgC g1) (bw [1,2]) U)<|RK E<|cw U (fun Y=>?_) (fun Y=>?_)
 ·refine WS fun _ N=>rP 2 [] I ?_
  refine RK N<|av<|Q1 hQ U U U ?_
  clear hQ hN N E D C B A L K J AB H G AA F
  refine cI ?_
  simp [oY, *]
 refine cg<|aO<|KK C<|aw<|rS (SX (eu (r:= .int .i64 2) U U U (mL ⟨dc,dc⟩)) U U)<|bE 1 U<|RK W<|js fun R20 a=>WS fun _ O=>rS (SX (eu (r:= .bool true) U U U m0) U U)<|RK O<|aq fun _ P=>aT U<|WK P<|aq fun _ V=>aF<|WS fun _ R=>bE 2 U<|RK R<|WS fun _ S=>bE 3 U<|rS (IA 2 U (aG 0 U) JG dc U om)<|rS (lS 2 0 (m7.cells (m7.mk (Value.func (.func 211) [].toArray [].toArray) (Value.func (.func 212) [].toArray [].toArray))) U cq (aG 0 U) (show fW[2]? =some [(Value.func (.func 211) [].toArray [].toArray),(Value.func (.func 212) [].toArray [].toArray)] from U) U dc U U)<|rS (CL (Hw d sgA sgC g1) (bw [1,2]) U)<|RK S<|aT U<|WS fun _ T=>rP 2 [] I ?_
 refine RK T<|av<|Q1 hQ U U U ?_
 clear hQ hN T S R V P O E D C B A L K J AB H G AA F
 refine cI ?_
 simp [oY, *]
end
section
open Go.RowKit
theorem SQ (d:aC) (sgA:OA) (sgC g1:Nat) (hk:d.Out=true):
 dK Tryz.prog 148 [(vS gV 3 3),(Value.func (.func 149) [].toArray [(vP g1)].toArray)] [(rd gV 3 2 fW),(rd sgA d.bD.ag.length 2 (d.bD.ag.map aI.cells)),(cx g1 58 (aR.cells (aR.mk d.Out d.dB d.Time (jr d.bD sgA sgC))))] (vI 0):=by
 have h:=yd d sgA sgC g1
 have e:oY d=0:=by simp [oY,hk]
 rw [e] at h
 exact h
theorem Tj (d:aC) (sgA:OA) (sgC g1:Nat) (hk:d.Out=false∧d.dB=true):
 dK Tryz.prog 148 [(vS gV 3 3),(Value.func (.func 149) [].toArray [(vP g1)].toArray)] [(rd gV 3 2 fW),(rd sgA d.bD.ag.length 2 (d.bD.ag.map aI.cells)),(cx g1 58 (aR.cells (aR.mk d.Out d.dB d.Time (jr d.bD sgA sgC))))] (vI 1):=by
 have h:=yd d sgA sgC g1
 have e:oY d=1:=by simp [oY,hk]
 rw [e] at h
 exact h
theorem RP (d:aC) (sgA:OA) (sgC g1:Nat) (hk:d.Out=false∧d.dB=false):
 dK Tryz.prog 148 [(vS gV 3 3),(Value.func (.func 149) [].toArray [(vP g1)].toArray)] [(rd gV 3 2 fW),(rd sgA d.bD.ag.length 2 (d.bD.ag.map aI.cells)),(cx g1 58 (aR.cells (aR.mk d.Out d.dB d.Time (jr d.bD sgA sgC))))] (vI 2):=by
 have h:=yd d sgA sgC g1
 have e:oY d=2:=by simp [oY,hk]
 rw [e] at h
 exact h
theorem Be (l:br) (kA:OA) (kC:Nat) (az:List RA) (cA:OA) (cC:Nat) (bA:OA) (bC:Nat) (d:aC) (sgA:OA) (sgC:Nat) (hin:eo l az) (hsl:d.bD.ag.length≤1000000) (hk:d.Out=true):
 dK Tryz.prog 127 [(vA (ct.cells (jW l kA kC cA cC bA bC))),(vA (aR.cells (aR.mk d.Out d.dB d.Time (jr d.bD sgA sgC))))] [(rd gV 3 2 fW),(rd kA l.aS.length 9 (l.aS.map au.cells)),(rd cA l.aj.length 2 (List.zipWith ay.cells l.aj az)),(dU (bo ay.gn l.aj az)),(rd bA l.aa.length 4 (l.aa.map bK.cells)),(rd sgA d.bD.ag.length 2 (d.bD.ag.map aI.cells))] (vT [(vA (ai.cells (gl l d))),(vB (decide (iX l d)))]):=by
 refine bG kr Tryz.func127 U U fun AA Q hQ hN=>?_
 try dsimp only
 refine WS fun _ A=>eL U fun G=>eL U fun D=>AL U ed fun H=>bE 1 U<|RK A<|WS fun _ B=>rS (SX (DZ U U zc) U U)<|rS (FU U)<|rS (CL (SQ d sgA sgC D hk) (PV 3 8 1 U U U U U U) U)<|bE 1 U<|RK B<|aq fun _ C=>dA cy 9 kr<|k6 1 U<|dS (SX (Dn (k:=0) U U U zc U om) U U)<|dS (o1 ((0*2)+1) U (aG 3 U) (Nat.mul_pos om dc) fK U)<|dS (gQ 0 1 (Value.func (.func 206) [].toArray [].toArray) U cq (aG 3 U) (show fW[0]? =some [(Value.func (.func 205) [].toArray [].toArray),(Value.func (.func 206) [].toArray [].toArray)] from U) U dc U)<|lR 2 [0,1] (mc 2 U (mc 1 U I)) U<|dS (CL (NF l kA kC az cA cC bA bC d sgA sgC hin) (bw [4,5,6,7,8]) U)<|k6 2 U<|cM<|fR U c_ U<|rP 1 [] I ?_
 refine RK C<|av<|mY hQ [0] (mc 0 U I) U ?_
 have E:=ER (l:=l) hk
 have F:=qU (l:=l) hk
 simp only [E,F]
theorem B_ (l:br) (kA:OA) (kC:Nat) (az:List RA) (cA:OA) (cC:Nat) (bA:OA) (bC:Nat) (d:aC) (sgA:OA) (sgC:Nat) (hin:eo l az) (hsl:d.bD.ag.length≤1000000) (hk:d.Out=false∧d.dB=true):
 dK Tryz.prog 127 [(vA (ct.cells (jW l kA kC cA cC bA bC))),(vA (aR.cells (aR.mk d.Out d.dB d.Time (jr d.bD sgA sgC))))] [(rd gV 3 2 fW),(rd kA l.aS.length 9 (l.aS.map au.cells)),(rd cA l.aj.length 2 (List.zipWith ay.cells l.aj az)),(dU (bo ay.gn l.aj az)),(rd bA l.aa.length 4 (l.aa.map bK.cells)),(rd sgA d.bD.ag.length 2 (d.bD.ag.map aI.cells))] (vT [(vA (ai.cells (gl l d))),(vB (decide (iX l d)))]):=by
 refine bG kr Tryz.func127 U U fun AA Q hQ hN=>?_
 try dsimp only
 refine WS fun _ A=>eL U fun G=>eL U fun D=>AL U ed fun H=>bE 1 U<|RK A<|WS fun _ B=>rS (SX (DZ U U zc) U U)<|rS (FU U)<|rS (CL (Tj d sgA sgC D hk) (PV 3 8 1 U U U U U U) U)<|bE 1 U<|RK B<|aq fun _ C=>dA cy 9 kr<|k6 1 U<|dS (SX (Dn (k:=1) U U U zc U om) U U)<|dS (o1 ((1*2)+1) U (aG 3 U) (Nat.mul_pos om dc) fK U)<|dS (gQ 1 1 (Value.func (.func 209) [].toArray [].toArray) U cq (aG 3 U) (show fW[1]? =some [(Value.func (.func 208) [].toArray [].toArray),(Value.func (.func 209) [].toArray [].toArray)] from U) U dc U)<|lR 2 [0,1] (mc 2 U (mc 1 U I)) U<|dS (CL (MC l kA kC az cA cC bA bC d sgA sgC hin) (bw [4,5,6,7,8]) U)<|k6 2 U<|cM<|fR U c_ U<|rP 1 [] I ?_
 refine RK C<|av<|mY hQ [0] (mc 0 U I) U ?_
 have E:=Fl (l:=l) hk
 have F:=ui (l:=l) hk
 simp only [E,F]
theorem CA (l:br) (kA:OA) (kC:Nat) (az:List RA) (cA:OA) (cC:Nat) (bA:OA) (bC:Nat) (d:aC) (sgA:OA) (sgC:Nat) (hin:eo l az) (hsl:d.bD.ag.length≤1000000) (hk:d.Out=false∧d.dB=false):
 dK Tryz.prog 127 [(vA (ct.cells (jW l kA kC cA cC bA bC))),(vA (aR.cells (aR.mk d.Out d.dB d.Time (jr d.bD sgA sgC))))] [(rd gV 3 2 fW),(rd kA l.aS.length 9 (l.aS.map au.cells)),(rd cA l.aj.length 2 (List.zipWith ay.cells l.aj az)),(dU (bo ay.gn l.aj az)),(rd bA l.aa.length 4 (l.aa.map bK.cells)),(rd sgA d.bD.ag.length 2 (d.bD.ag.map aI.cells))] (vT [(vA (ai.cells (gl l d))),(vB (decide (iX l d)))]):=by
 refine bG kr Tryz.func127 U U fun AA Q hQ hN=>?_
 try dsimp only
 refine WS fun _ A=>eL U fun G=>eL U fun D=>AL U ed fun H=>bE 1 U<|RK A<|WS fun _ B=>rS (SX (DZ U U zc) U U)<|rS (FU U)<|rS (CL (RP d sgA sgC D hk) (PV 3 8 1 U U U U U U) U)<|bE 1 U<|RK B<|aq fun _ C=>dA cy 9 kr<|k6 1 U<|dS (SX (Dn (k:=2) U U U zc U om) U U)<|dS (o1 ((2*2)+1) U (aG 3 U) (Nat.mul_pos om dc) fK U)<|dS (gQ 2 1 (Value.func (.func 212) [].toArray [].toArray) U cq (aG 3 U) (show fW[2]? =some [(Value.func (.func 211) [].toArray [].toArray),(Value.func (.func 212) [].toArray [].toArray)] from U) U dc U)<|lR 2 [0,1] (mc 2 U (mc 1 U I)) U<|dS (CL (M4 l kA kC az cA cC bA bC d sgA sgC hin hsl) (bw [4,5,6,7,8]) U)<|k6 2 U<|cM<|fR U c_ U<|rP 1 [] I ?_
 refine RK C<|av<|mY hQ [0] (mc 0 U I) U ?_
 have E:=EN (l:=l) hk
 have F:=tJ (l:=l) hk
 simp only [E,F]
theorem Df (l:br) (kA:OA) (kC:Nat) (az:List RA) (cA:OA) (cC:Nat) (bA:OA) (bC:Nat) (d:aC) (sgA:OA) (sgC:Nat) (hin:eo l az) (hsl:d.bD.ag.length≤1000000):
 dK Tryz.prog 127 [(vA (ct.cells (jW l kA kC cA cC bA bC))),(vA (aR.cells (aR.mk d.Out d.dB d.Time (jr d.bD sgA sgC))))] [(rd gV 3 2 fW),(rd kA l.aS.length 9 (l.aS.map au.cells)),(rd cA l.aj.length 2 (List.zipWith ay.cells l.aj az)),(dU (bo ay.gn l.aj az)),(rd bA l.aa.length 4 (l.aa.map bK.cells)),(rd sgA d.bD.ag.length 2 (d.bD.ag.map aI.cells))] (vT [(vA (ai.cells (gl l d))),(vB (decide (iX l d)))]):=by
 by_cases ho:d.Out=true
 ·exact Be l kA kC az cA cC bA bC d sgA sgC hin hsl ho
 by_cases hf:d.dB=true
 ·exact B_ l kA kC az cA cC bA bC d sgA sgC hin hsl ⟨by simpa using ho,hf⟩
 ·exact CA l kA kC az cA cC bA bC d sgA sgC hin hsl ⟨by simpa using ho,by simpa using hf⟩
end
section
open Go.RowKit
theorem Jk (lA:OA) (lN lC:Nat):
 p9 Tryz.prog 125 [(vS lA lN lC)] [] (fun (x:Nat)=>(Value.func (.func 146) [].toArray [(vP x)].toArray)) (fun (x:Nat)=>True) (fun (x:Nat)=>[(cx x 29 [(vS lA lN lC)])]):=by
 refine fF kr Tryz.func125 U U fun D Q hQ hN=>?_
 try dsimp only
 refine WS fun _ A=>wq U U fun C=>bE 1 U<|RK A<|WS fun _ B=>rS (FU U)<|rP 1 [] I ?_
 refine RK B<|av<|LX hQ C [0] [] I U U U U ?_
 trivial
theorem JZ (nl:List Int) (nlA:OA) (nlC g1:Nat) (hlen:nl.length≤12):
 Ma Tryz.prog 146 [] [(vP g1)] [(rd nlA nl.length 1 (nl.map iC)),(cx g1 29 [(vS nlA nl.length nlC)])] (qV nl):=by
 refine FI kr Tryz.func146 U U fun l J Z A0 T Q hY K AB hQ hN=>?_
 try dsimp only
 refine WS fun _ M=>rP 3 [] (mr 2 U I) ?_
 refine RK M<|aF ?_
 have F:(0≤nl.length)∧(J 0 A0)∧(Fo A0 T A0):=by exact ⟨Nat.zero_le _,K,AB⟩
 refine bQ (ι:={z:Nat×aB // (z.1≤nl.length)∧(J z.1 z.2)∧(Fo A0 T z.2)}) [0,1,5,6] [1] U U (fun z=>[(7,(vI (z.1.1:Int)))]) (fun z=>[z.1.2]) (fun _=>rfl) (fun _=>rfl) (fun z=>nl.length-z.1.1) ⟨(0,A0),F⟩ (bk U) (aP [1,0]) ?_
 clear F
 rintro ⟨⟨i,A⟩,⟨G,B,C⟩⟩ J2 L
 try dsimp only at G B C
 try dsimp only
 refine WS fun _ N=>rP 1 [] I ?_
 refine RK N<|aq fun _ O=>bV U (aU fun AA=>?_) (aV fun AA=>?_)
 ·refine bL<|ab<|ab<|aH ?_
  refine hN _ _ _ (jX (vs:=[]) trivial fun w hs=>RF 1 U (by rw [th]; have e:nl.length=i:=om; rw [e]; exact B) C hs)
 refine WK O<|aq fun _ P=>aF<|WS fun _ R=>?_
 obtain ⟨x,hx⟩:=aM nl i om
 have S:=bO iC hx
 refine rS (IA i U (aG 0 U) dp dc om om)<|rS (gQ i 0 (vI x) U cq (aG 0 U) S U dc U)<|bE 1 U<|RK R<|WS fun _ H=>rP 2 [] I ?_
 refine EF 1 hY B C U U U (Hm hx) U U (fun B9 E D=>?_) (fun B9 E D=>?_)
 rotate_left 1
 ·refine rP 1 [] I ?_
  refine RK H<|aT U<|av ?_
  refine hQ _ _ _ (jX (vs:=[]) trivial fun w hs=>NW 1 U E D hs)
 refine bE 1 U<|RK H<|cj U<|cg<|aO<|KK P<|aw<|rP 2 [] I ?_
 refine aK ?_
 refine a_ (L ⟨((i+1),B9),⟨om,E,D⟩⟩ _ _ _ U os (bk U) (aP [0,1]))
end
section
open Go.RowKit
theorem Mq (x:Int):
 dK Tryz.prog 184 [(vI x)] [] (vB false):=by
 refine bG kr Tryz.func184 U U fun C Q hQ hN=>?_
 try dsimp only
 refine WS fun _ A=>bE 1 U<|RK A<|WS fun _ B=>rP 4 [] I ?_
 refine RK B<|av<|Q1 hQ U U U ?_
 simp
theorem L6 (x y:Int):
 dK Tryz.prog 171 [(vI x),(vI y)] [] (vB (decide (x<y))):=by
 refine bG kr Tryz.func171 U U fun C Q hQ hN=>?_
 try dsimp only
 refine WS fun _ A=>bE 1 U<|RK A<|WS fun _ B=>bE 1 U<|rS (CL (Mq x) (aN) U)<|rP 11 [] I ?_
 refine RK B<|av<|Q1 hQ U U U ?_
 exact cB (gY.2 om)
theorem G_ (l:List Int) (lA:OA) (lC:Nat) (hlen:l.length≤1000000):
 Lj Tryz.prog 165 [(vS lA l.length lC),(vI 0),(vI (l.length:Int))] [] (own lA lC 3 1 (l.map iC)) (fun (x:(List Int))=>(vT [])) (fun (x:(List Int))=>x.Perm l∧x.Pairwise (· ≤ ·)) (fun (x:(List Int))=>(own lA lC 3 1 (x.map iC))):=by
 refine uW kr Tryz.func165 U U fun g Q hQ hN=>?_
 try dsimp only
 refine WS fun _ X=>bE 1 U<|rS (SX (eu (r:= .int .i64 1) U U U (mL ⟨dc,dc⟩)) U U)<|rP 1 [] I ?_
 refine RK X<|aF ?_
 have A:(1≤1∧(1≤l.length∨1=1))∧(l.length=l.length)∧(l.Perm l)∧(Qf l 1):=by exact ⟨om,rfl,List.Perm.refl _,Nj⟩
 refine bQ (ι:={z:Nat×(List Int) // (1≤z.1∧(z.1≤l.length∨z.1=1))∧(z.2.length=l.length)∧(z.2.Perm l)∧(Qf z.2 z.1)}) [0,1,2] [] U U (fun z=>[(6,(vI (z.1.1:Int)))]) (fun z=>[(own lA lC 3 1 (z.1.2.map iC))]) (fun _=>rfl) (fun _=>rfl) (fun z=>l.length-z.1.1) ⟨(1,l),A⟩ (bk U) (aP [0]) ?_
 clear A
 rintro ⟨⟨i,m⟩,⟨K,AB,E,F⟩⟩ J2 M
 try dsimp only at K AB E F
 try dsimp only
 refine aq fun _ Y=>WS fun _ Z=>rP 3 [] I ?_
 refine RK Z<|bV U (aU fun e=>?_) (aV fun e=>?_)
 ·refine bL<|ab<|ab<|aH<|LM hN m 0 [] I U U U U ?_
  exact ⟨E,Nh F om⟩
 refine WK Y<|aq fun _ O=>aF<|WS fun _ b=>rP 2 [] I ?_
 refine RK b<|aF ?_
 have A:(i≤i)∧(m.length=l.length)∧(m.Perm l)∧(Qb m i i):=by exact ⟨Nat.le_refl _,AB,E,G2 F om⟩
 refine bQ (ι:={z:Nat×(List Int) // (z.1≤i)∧(z.2.length=l.length)∧(z.2.Perm l)∧(Qb z.2 i z.1)}) [0,1,2,6] [] U U (fun z=>[(7,(vI (z.1.1:Int)))]) (fun z=>[(own lA lC 3 1 (z.1.2.map iC))]) (fun _=>rfl) (fun _=>rfl) (fun z=>z.1.1) ⟨(i,m),A⟩ (bk U) (aP [0]) ?_
 clear A
 rintro ⟨⟨j,q⟩,⟨G,B,C,D⟩⟩ J8 W
 try dsimp only at G B C D
 try dsimp only
 refine aq fun _ c=>aq fun _ J=>dA cy 15 kr<|dP 4 [] I ?_
 refine jD (t:=19) U (aU fun hj=>?_) (aV fun hj=>?_)
 ·refine k6 11 U<|cM<|RK J<|cj U<|bL<|ab<|ab<|aH<|aO<|KK O<|aw<|rP 3 [] I ?_
  refine aK ?_
  refine a_ (M ⟨((i+1),q),⟨om,B,C,by exact Jo om D⟩⟩ _ _ _ U (by simp only []; omega) (bk U) (aP [0]))
 refine dP 2 [] I ?_
 obtain ⟨x,hx⟩:=aM q j om
 have L:=bO iC hx
 refine dS (IA j U (ak (n:=l.length) 0 U sq) dp dc om om) ?_
 refine dS (gQ j 0 (vI x) U cq (ak (n:=q.length) 0 U sm) L U dc U)<|dP 3 [] I ?_
 obtain ⟨y,hy⟩:=aM q (j-1) om
 have V:=bO iC hy
 refine dS (IA (j-1) U (ak (n:=l.length) 0 U sq) dp dc om om) ?_
 refine dS (gQ (j-1) 0 (vI y) U cq (ak (n:=q.length) 0 U sm) V U dc U)<|dS (CL (L6 x y) (aN) U)<|dP 1 [] I ?_
 refine cM<|RK J<|bV U (aU fun H=>?_) (aV fun H=>?_)
 ·refine bL<|ab<|ab<|aH<|aO<|KK O<|aw<|rP 3 [] I ?_
  refine aK ?_
  refine a_ (M ⟨((i+1),q),⟨om,B,C,by exact IZ hx hy om G H D⟩⟩ _ _ _ U (by simp only []; omega) (bk U) (aP [0]))
 refine WK c<|aq fun _ N=>aF<|dM cy [15,16,17] [8,9,12,13,14] [] [] [0] U U U U U<|eS U (MV U)<|eS U (MV U)<|eS U (MV U)<|eS U (MV U)<|eS U (BI U (xY ⟨om,om⟩))<|eS U (MV U)<|eS U (MV U)<|eS U (BI U (xY ⟨om,om⟩)) ?_
 refine fS U (IA (j-1) U (ak (n:=l.length) 0 U sq) dp dc om om) ?_
 refine fS U (gQ (j-1) 0 (vI y) U cq (ak (n:=q.length) 0 U sm) V U dc U)<|eS U (MV U)<|eS U (MV U) ?_
 refine fS U (IA j U (ak (n:=l.length) 0 U sq) dp dc om om) ?_
 refine fS U (gQ j 0 (vI x) U cq (ak (n:=q.length) 0 U sm) L U dc U) ?_
 refine fS U (IA j U (ak (n:=l.length) 0 U sq) dp dc om om) ?_
 refine eC U<|cv U fun T12 P=>gR (k:=j) (o:=0) (vs:=[(vI y)]) (es':=(List.map iC (q.set j y))) (C':=[(own lA lC 3 1 (List.map iC (q.set j y)))]) 0 U U U AR U U U U L U dc (by exact (List.map_set (f:=iC) (l:=q) (i:=j) (a:=y)).symm) U<|aK (P _ _ (aP []) ?_)
 refine cv U fun T13 R=>?_
 obtain ⟨d,AA⟩:=aM (q.set j y) (j-1) os
 have hx15m:(List.map iC (q.set j y))[(j-1)]? =some (iC d):=by rw [fX,AA]; rfl
 refine rS (IA (j-1) U (ak (n:=l.length) 0 U sq) dp dc om om) ?_
 refine aK (R _ _ (aP []) ?_)
 refine cv U fun T16 S=>gR (k:=(j-1)) (o:=0) (vs:=[(vI x)]) (es':=(List.map iC ((q.set j y).set (j-1) x))) (C':=[(own lA lC 3 1 (List.map iC ((q.set j y).set (j-1) x)))]) 0 U U U AR U U U U hx15m U dc (by exact (List.map_set (f:=iC) (l:=(q.set j y)) (i:=(j-1)) (a:=x)).symm) U<|aK (S _ _ (aP []) ?_)
 refine fP U<|aO<|KK N<|aw<|rP 3 [] I ?_
 refine aK ?_
 have T:(vI (((j-1):Nat):Int))=(vI ((j:Int)-1)):=by exact cI om
 refine a_ (W ⟨((j-1),((q.set j y).set (j-1) x)),⟨om,by simp; exact B,(HB hx hy).trans C,IW hx hy om G H D⟩⟩ _ _ _ U (by simp only []; omega) (cK 4<|bj U T<|dv.nil _) (aP [0]))
theorem LG (x:Int) (hx:0≤x∧x≤100):
 p9 Tryz.prog 175 [(Value.int .u64 x)] [] (fun (x:Int)=>(vI x)) (fun (x:Int)=>True) (fun (x:Int)=>[]):=by
 refine fF kr Tryz.func175 U U fun N Q hQ hN=>?_
 try dsimp only
 refine WS fun _ D=>bE 1 U<|RK D<|aq fun _ E=>WS fun _ F=>rP 1 [] I ?_
 refine rS (BI U EI)<|RK F<|cw U (aV fun L=>?_) (aU fun L=>?_)
 ·exfalso; omega
 refine WK E<|aq fun _ G=>WS fun _ H=>rP 1 [] I ?_
 refine rS (BI U EI)<|RK H<|cw U (aV fun M=>?_) (aU fun M=>?_)
 ·exfalso; omega
 refine WK G<|aq fun _ AA=>WS fun _ J=>rP 1 [] I ?_
 refine rS (BI U EI)<|RK J<|cw U (aV fun C=>?_) (aU fun C=>?_)
 ·exfalso; omega
 refine WK AA<|WS fun _ B=>bE 2 U<|rS (SX (ow (m:=x) U U Q4 Mm (Bp (by first|assumption|omega))) U U)<|OR (k:=(x).toNat) U U U VY om (Nat.lt_of_lt_of_le (m:=200) om (of_decide_eq_true kr)) U fun A K=>rS (SX (ow (m:=A) U U Mm sr (mC (by first|assumption|omega))) U U)<|rP 2 [] I ?_
 refine RK B<|av<|LX hQ (0+A) [] [] I U U U U ?_
 trivial
theorem Oz (x:Int) (hx:0≤x∧x≤100):
 p9 Tryz.prog 159 [(Value.int .u64 x)] [] (fun (x:Int)=>(vI x)) (fun (x:Int)=>True) (fun (x:Int)=>[]):=by
 refine fF kr Tryz.func159 U U fun F Q hQ hN=>?_
 try dsimp only
 refine WS fun _ A=>bE 1 U<|RK A<|aq fun _ B=>cj U<|WK B<|WS fun _ C=>rP 1 [] I ?_
 refine cX (LG x hx) (aN) U fun E D=>?_
 try dsimp only
 refine rP 1 [] I ?_
 refine RK C<|av<|LX hQ E [] [] I U U U U ?_
 trivial
theorem Rc (l:List Int) (lA:OA) (lC:Nat) (u:Int) (hlen:l.length≤12):
 Lj Tryz.prog 158 [(vS lA l.length lC),(vI 0),(vI (l.length:Int)),(vI u)] [] (own lA lC 3 1 (l.map iC)) (fun (x:(List Int))=>(vT [])) (fun (x:(List Int))=>x.Perm l∧x.Pairwise (· ≤ ·)) (fun (x:(List Int))=>(own lA lC 3 1 (x.map iC))):=by
 refine uW kr Tryz.func158 U U fun K Q hQ hN=>?_
 try dsimp only
 refine WS fun _ A=>bE 1 U<|RK A<|WS fun _ B=>bE 1 U<|RK B<|aF<|pt 1<|js fun R3 AA=>aF<|WS fun _ C=>bE 4 U<|RK C<|aq fun _ H=>WS fun _ D=>rP 2 [] I ?_
 refine RK D<|bV U (aU fun G=>?_) (aV fun G=>?_)
 ·exfalso; omega
 refine WS fun _ E=>rP 3 [] I ?_
 refine oD 0 U U U U (G_ l lA lC om) U rf U (fun J F=>?_)
 try dsimp only
 refine RK E<|av<|LM hQ J 0 [] I U U U U ?_
 assumption
theorem OF (l:List Int) (lA:OA) (lC:Nat) (hlen:l.length≤12):
 Lj Tryz.prog 145 [(vS lA l.length lC)] [] (own lA lC 3 1 (l.map iC)) (fun (x:(List Int))=>(vT [])) (fun (x:(List Int))=>x.Perm l∧x.Pairwise (· ≤ ·)) (fun (x:(List Int))=>(own lA lC 3 1 (x.map iC))):=by
 refine uW kr Tryz.func145 U U fun F Q hQ hN=>?_
 try dsimp only
 refine WS fun _ A=>bE 3 U<|RK A<|aw<|rP 3 [] I ?_
 refine rS (SX (ow (m:=(l.length:Int)) U U sr SV (zD (by first|assumption|omega))) U U)<|cX (Oz (l.length:Int) om) (aN) U fun E B=>?_
 try dsimp only
 refine oD 0 U U U U (Rc l lA lC E hlen) U rf U (fun D C=>?_)
 try dsimp only
 refine aK<|LM hN D 0 [] I U U U U ?_
 assumption
end
section
open Go.RowKit
theorem Jm (nl:List Int) (nlA:OA) (nlC g1:Nat) (hlen:nl.length≤12):
 p9 Tryz.prog 157 [(vS none 0 0),(Value.func (.func 146) [].toArray [(vP g1)].toArray)] [(rd nlA nl.length 1 (nl.map iC)),(cx g1 29 [(vS nlA nl.length nlC)])] (fun (x:(OA)×Nat)=>(vS x.1 nl.length x.2)) (fun (x:(OA)×Nat)=>True) (fun (x:(OA)×Nat)=>[(own x.1 x.2 3 1 (nl.map iC))]):=by
 refine fF kr Tryz.func157 U U fun R Q hQ hN=>?_
 try dsimp only
 refine WS fun _ D=>wq U U fun J=>bE 1 U<|RK D<|aq fun _ E=>WS fun _ G=>rP 1 [] I ?_
 refine RK G<|aF<|jq 1 U (by exact fun _ h=>h)<|jq 3 U (by exact fun _ h=>h)<|eP 3 1 ?_
 refine FK (L0:=[(2,(vP J))]) (F:=[(rd nlA nl.length 1 (nl.map iC)).ro,(cx g1 29 [(vS nlA nl.length nlC)]).ro]) (xs:=(qV nl)) (fun k (y:(OA)×Nat)=>True) (fun k y=>[(own y.1 y.2 3 1 ((nl.take k).map iC)),(cx J 29 [(vS y.1 ((nl.take k).length) y.2)]),(rd nlA nl.length 1 (nl.map iC)).ro]) (fun _ (_:Unit)=>False) (fun _ _=>[]) [0,3,4] [2,1] (none,0) U U (JZ nl nlA nlC g1 (by first|assumption|omega|(simp; done))) U U U (by trivial) (by simp only [List.forall_mem_cons,List.not_mem_nil,false_imp_iff,implies_true,and_true]; exact ⟨⟨_,sm,(dL (bY _))⟩,⟨_,sm,(dL (bY _))⟩⟩) (by exact Eb) U (bk U) ?_ ?_ (fun _ _ _ h=>h.elim) (fun _ _ h=>h.elim)
 rotate_left 1
 ·rintro O ⟨a,c⟩ AA
  try dsimp only
  rw [yp]
  refine aO<|KK E<|WS fun _ A=>rP 2 [] (mc 4 U I) ?_
  refine RK A<|av<|hQ _ _ _ (qG 0 U U<|jX (vs:=[(vS a nl.length c)]) ⟨U,trivial⟩ fun w hs=>PM (a,c) [3] ?_ ?_ U U U hs)
  ·rfl
  ·trivial
 rintro k x ⟨a,c⟩ l ra rb S T K5 Qr6 hx K H B L M
 obtain ⟨y,hy,rfl⟩:=GU hx
 try dsimp only
 refine aw<|rP 1 [] I ?_
 refine aK<|a_ (H _ _ ?_)
 refine aF<|aw<|rP 2 [] (mc 2 U I) ?_
 refine eB (xs:=[.tmp 9]) (cs:=[(vI y)]) U dp ky U U U U (by simp [Value.cells]) U U fun P=>?_
 refine dH (es2:=(List.map iC (nl.take (k+1)))) (m':=(nl.take (k+1)).length) 2 U U U r8 U U sm (bu (es:=List.map iC [y]) 0 U U (by simp [bR]) U) (kZ _) (by simp; omega) (by simp [maxLen]; omega) (by rw [w8 hy]; simp) sm U fun N C=>?_
 try dsimp only
 refine V3 U F9 U U<|aK<|aO ?_
 exact B (N,C) _ _ (by trivial) (aP [1,2,3,4])
theorem Hv (nl:List Int) (nlA:OA) (nlC g1:Nat) (hlen:nl.length≤12):
 p9 Tryz.prog 144 [(Value.func (.func 146) [].toArray [(vP g1)].toArray)] [(rd nlA nl.length 1 (nl.map iC)),(cx g1 29 [(vS nlA nl.length nlC)])] (fun (x:(OA)×Nat)=>(vS x.1 nl.length x.2)) (fun (x:(OA)×Nat)=>True) (fun (x:(OA)×Nat)=>[(own x.1 x.2 3 1 (nl.map iC))]):=by
 refine fF kr Tryz.func144 U U fun G Q hQ hN=>?_
 try dsimp only
 refine WS fun _ A=>bE 1 U<|RK A<|WS fun _ B=>rP 1 [] I ?_
 refine cX (Jm nl nlA nlC g1 hlen) (bw [0,1]) U fun F E=>?_
 obtain ⟨C,D⟩:=F
 try dsimp only
 refine rP 1 [] I ?_
 refine RK B<|av<|LX hQ (C,D) [0] [] I U U U U ?_
 trivial
theorem Kf (nl:List Int) (nlA:OA) (nlC g1:Nat) (hlen:nl.length≤12):
 p9 Tryz.prog 124 [(Value.func (.func 146) [].toArray [(vP g1)].toArray)] [(rd nlA nl.length 1 (nl.map iC)),(cx g1 29 [(vS nlA nl.length nlC)])] (fun (x:(OA)×Nat)=>(vS x.1 nl.length x.2)) (fun (x:(OA)×Nat)=>True) (fun (x:(OA)×Nat)=>[(own x.1 x.2 3 1 ((nS nl).map iC))]):=by
 refine fF kr Tryz.func124 U U fun J Q hQ hN=>?_
 try dsimp only
 refine WS fun _ B=>bE 1 U<|RK B<|WS fun _ C=>rP 1 [] I ?_
 refine cX (Hv nl nlA nlC g1 hlen) (bw [0,1]) U fun AA H=>?_
 obtain ⟨F,G⟩:=AA
 try dsimp only
 refine bE 1 U<|RK C<|WS fun _ D=>rP 1 [] I ?_
 refine oD 0 U U U U (OF nl F G hlen) U rf U (fun m A=>?_)
 try dsimp only
 refine RK D<|WS fun _ E=>?_
 obtain rfl:=CU A.1 A.2
 skip
 refine rP 2 [] I ?_
 refine RK E<|av<|LX hQ (F,G) [0] [] I U U U U ?_
 trivial
end
section
open Go.RowKit
theorem JL (r:e7) (kA:OA) (kC:Nat) (az:List RA) (cA:OA) (cC:Nat) (bA:OA) (bC:Nat) (slA:OA) (slC:Nat) (drA:OA) (drC:Nat) (ha:List cZ) (heA:OA) (heC:Nat) (tz:List RA) (tA:OA) (tC:Nat) (ms:Value) (gw h:Nat) (gm g1 g2:Nat) (hin:ld r az ha) (htz:tz.length=r.aD.length) (hh:h<r.aD.length) (hok:km r (h+1)):
 Lj Tryz.prog 150 [(vI (h:Int)),(vP g1),(vP g2)] [(rd kA r.ar.aS.length 9 (r.ar.aS.map au.cells)),(rd cA r.ar.aj.length 2 (List.zipWith ay.cells r.ar.aj az)),(dU (bo ay.gn r.ar.aj az)),(rd bA r.ar.aa.length 4 (r.ar.aa.map bK.cells)),(rd slA r.aY.length 1 (r.aY.map iC)),(rd drA r.cd.length 1 (r.cd.map iC)),(rd heA r.aD.length 1 (List.zipWith cP r.aD ha)),(dU (bo fg r.aD ha)),(rd tA ((fY r).length) 1 (List.zipWith MJ (fY r) tz)),(dU (bo Qz (fY r) tz)),(cx gw 212 (kD.cells (kD.mk (yz r kA kC cA cC bA bC slA slC drA drC heA heC) (bx.mk tA ((fY r).length) tC) ms))),(cx g1 187 [(vP gw)]),(cx g2 153 [(Value.map (some gm))])] (kj iV gm (cU jZ (eH r.ar r.aD r.aY.length h 0))) (fun (x:Unit)=>(vT [])) (fun (x:Unit)=>True) (fun (x:Unit)=>(kj iV gm (cU jZ (eH r.ar r.aD r.aY.length (h+1) 0)))):=by
 have v:=hin.line
 have A4:=hin.iE
 have A5:=hin.has
 have AO:=hin.iB
 have AC:=hin.draw
 have Am:=j7 (r:=r)
 refine uW kr Tryz.func150 U U fun w0 Q hQ hN=>?_
 try dsimp only
 refine WS fun _ g=>e9 1 [] (mr 12 U I) U<|rS (SX (cT U U) U U)<|rP 3 [] (mr 11 U I) ?_
 obtain ⟨ht,B⟩:=aM r.aD h om
 obtain ⟨A,C⟩:=aM ha h om
 have Z:(List.zipWith cP r.aD ha)[h]? =some (cP ht A):=dx B C
 have s:=hin.gL _ _ _ B C
 have AN:=s.nP
 have N:=hok h ht om B
 obtain ⟨tr,G⟩:=aM (fY r) h om
 obtain ⟨tra,F⟩:=aM tz h om
 have c:(List.zipWith MJ (fY r) tz)[h]? =some (MJ tr tra):=dx G F
 refine rS (IA h U (aG 9 U) HO dc om om)<|rS (gQ h 0 (vS tra.1 tr.length tra.2) U cq (aG 9 U) c U dc U) ?_
 have AB:=Hf B G
 have A1:tr.length=r.aY.length:=by rw [AB,List.length_map]; exact N.1
 have A0:=N.1
 refine rP 2 [] I ?_
 refine RK g<|aF ?_
 have E:(0≤r.aY.length):=by exact Nat.zero_le _
 refine bQ (ι:={z:Nat // (z≤r.aY.length)}) [0,1,2,14,15] [1,2,3,4,5,6,7,8,9,10,11,12,13] U U (fun z=>[(16,(vI (z.1:Int)))]) (fun z=>[(kj iV gm (cU jZ (eH r.ar r.aD r.aY.length h z.1)))]) (fun _=>rfl) (fun _=>rfl) (fun z=>r.aY.length-z.1) ⟨0,E⟩ (bk U) (aP [1,2,3,4,5,6,7,8,9,10,11,12,13,0]) ?_
 clear E
 rintro ⟨i,u⟩ J2 K
 try dsimp only
 have a:i<r.aY.length→(eH r.ar r.aD r.aY.length h i).lookup (i:Int)=j1 r.ar r.aD i h:=JX
 refine WS fun _ k=>rP 1 [] I ?_
 refine RK k<|aq fun _ m=>bV U (aU fun h5=>?_) (aV fun h5=>?_)
 ·refine bL<|ab<|ab<|aH ?_
  rw [show (eH r.ar r.aD r.aY.length h i)=(eH r.ar r.aD r.aY.length (h+1) 0) from by rw [show i=r.aY.length by omega]; exact L8]
  refine LM hN () 13 [] I U U U U ?_
  trivial
 refine WK m<|aq fun _ L=>aF<|WS fun _ n=>rP 1 [] I ?_
 obtain ⟨x,hx⟩:=aM tr i om
 have y:=bO ai.cells hx
 refine rS (IA i U (show iH _ (rd tra.1 tr.length 2 (tr.map ai.cells)).holds from (cY 9 U (bP G F (by simp [Qz])))) lu dc om om)<|rS (lS i 0 (ai.cells x) U cq (show iH _ (rd tra.1 tr.length 2 (tr.map ai.cells)).holds from (cY 9 U (bP G F (by simp [Qz])))) y U dc U U)<|AL U ed fun b8=>bE 1 U<|fR U c_ U<|RK n<|WS fun _ o=>e9 2 [] (mr 13 U I) U<|rS (SX (sK (kV:=iV) (x:=(i:Int)) (l:=(eH r.ar r.aD r.aY.length h i)) (f:=jZ) (z:=(ai.mk 0 0)) U U U sk (iK sr) UN (by exact aG 14 U)) U U)<|bE 3 U<|AL U ed fun A2=>fR U c_ U<|bE 1 U<|RK o<|aq fun _ P=>WS fun _ H=>e9 1 [] (mr 13 U I) U<|rS (SX (cT U U) U U)<|e9 4 [] (mr 12 U I) U<|rS (IA h U (aG 8 U) oQ dc om om)<|rS (gQ h 0 (vS A.1.1 ht.length A.1.2) U cq (aG 8 U) Z U dc U)<|rP 1 [] I ?_
 obtain ⟨d,hd⟩:=aM ht i om
 obtain ⟨da,p⟩:=aM A.2 i om
 have q:(List.zipWith aC.cells ht A.2)[i]? =some (aC.cells d da):=dx hd p
 refine rS (IA i U (show iH _ (rd A.1.1 ht.length 7 (List.zipWith aC.cells ht A.2)).holds from (cY 9 U (bP B C cH))) sh dc om om)<|rS (o1 (i*7) U (show iH _ (rd A.1.1 ht.length 7 (List.zipWith aC.cells ht A.2)).holds from (cY 9 U (bP B C cH))) (Nat.mul_pos om dc) fK U)<|rS (gQ i 0 (vB d.Out) U cq (show iH _ (rd A.1.1 ht.length 7 (List.zipWith aC.cells ht A.2)).holds from (cY 9 U (bP B C cH))) q U dc U)<|rP 1 [] I ?_
 refine bZ (t:=39) U (fun J=>?_) (fun J=>?_)
 ·refine bE 3 U<|RK H<|aT U<|WS fun _ R=>rP 2 [] (mr 14 U I) ?_
  have T:(fz (eH r.ar r.aD r.aY.length h i) (i:Int))=(eH r.ar r.aD r.aY.length h (i+1)):=by exact Fp (by exact HA B hd J)
  refine sM (kV:=iV) (x:=(i:Int)) (C':=[_,_,_,_,_,_,_,_,_,_,_,_,_,_,_,(kj iV gm (cU jZ (eH r.ar r.aD r.aY.length h (i+1))))]) 15 U U U U sk (iK sr) U ((n9 _ _ _).symm.trans (congrArg _ T)) U<|RK R<|bL<|ab<|aH<|KK L<|aw<|rP 2 [] I ?_
  refine aK ?_
  have AA:(vI (((i+1):Nat):Int))=(vI ((i:Int)+1)):=by exact cI om
  refine a_ (K ⟨(i+1),(by first|omega|(simp only []; omega))⟩ _ _ _ U os (cK 5<|bj U AA<|dv.nil _) (aP [2,3,4,5,6,7,8,9,10,11,12,13,14,15]))
 refine rP 3 [] I ?_
 refine RK H<|cw U (fun D=>?_) (fun D=>?_)
 ·rw [Bool.not_eq_true'] at D
  refine WS fun _ S=>rP 2 [] (mr 14 U I) ?_
  have V:(fz (eH r.ar r.aD r.aY.length h i) (i:Int))=(eH r.ar r.aD r.aY.length h (i+1)):=by exact Fp (by exact Dh ((a om).symm.trans (Option.not_isSome_iff_eq_none.1 (by rw [D]; decide))))
  refine sM (kV:=iV) (x:=(i:Int)) (C':=[_,_,_,_,_,_,_,_,_,_,_,_,_,_,_,(kj iV gm (cU jZ (eH r.ar r.aD r.aY.length h (i+1))))]) 15 U U U U sk (iK sr) U ((n9 _ _ _).symm.trans (congrArg _ V)) U<|RK S<|bL<|ab<|aH<|KK L<|aw<|rP 2 [] I ?_
  refine aK ?_
  have W:(vI (((i+1):Nat):Int))=(vI ((i:Int)+1)):=by exact cI om
  refine a_ (K ⟨(i+1),(by first|omega|(simp only []; omega))⟩ _ _ _ U os (cK 5<|bj U W<|dv.nil _) (aP [2,3,4,5,6,7,8,9,10,11,12,13,14,15]))
 rw [Bool.not_eq_false'] at D
 refine WK P<|aw ?_
 obtain ⟨O,b⟩:=Option.isSome_iff_exists.1 D
 have M:j1 r.ar r.aD i h=some O:=(a om).symm.trans b
 have e:=O6 AB hx hd
 have A6:=Ey (fun j x hj hx=>hok j x om hx) om M
 have w:=E7 (N.2 d (aQ hd))
 rw [← e] at w
 rw [show ((List.lookup (i:Int) (eH r.ar r.aD r.aY.length h i)).getD (ai.mk 0 0))=O from by rw [b]; rfl]
 refine e9 6 [0,1,2] (mr 14 U (mc 0 U (mc 1 U I))) U<|rS (BI U (uk om om om))<|e9 5 [0,1] (mc 0 U (mc 1 U I)) U<|rS (BI U (uk om om om))<|rP 1 [] I ?_
 refine rS (SX (bq (xs:=[(0,.tmp 52),(1,.tmp 58)]) (cs:=(ai.cells (ai.mk (O.Lo+(x.Lo/10)) (O.Hi+(x.Hi/10))))) U U (bp g4 U)) U U) ?_
 have X:(ep (eH r.ar r.aD r.aY.length h i) (i:Int) (ai.mk (O.Lo+(x.Lo/10)) (O.Hi+(x.Hi/10))))=(eH r.ar r.aD r.aY.length h (i+1)):=by exact LZ om (by rw [M]; rfl) (by rw [e]; exact Dl B hd (by rw [J]; decide) M)
 refine jc (kV:=iV) (x:=(i:Int)) (C':=[_,_,_,_,_,_,_,_,_,_,_,_,_,_,_,(kj iV gm (cU jZ (eH r.ar r.aD r.aY.length h (i+1))))]) 15 U U U U sk (iK sr) U ((gP _ _ _ _).symm.trans (congrArg _ X)) U<|aK<|aO<|KK L<|aw<|rP 2 [] I ?_
 refine aK ?_
 have Y:(vI (((i+1):Nat):Int))=(vI ((i:Int)+1)):=by exact cI om
 refine a_ (K ⟨(i+1),(by first|omega|(simp only []; omega))⟩ _ _ _ U os (cK 5<|bj U Y<|dv.nil _) (aP [2,3,4,5,6,7,8,9,10,11,12,13,14,15]))
theorem S6 (r:e7) (kA:OA) (kC:Nat) (az:List RA) (cA:OA) (cC:Nat) (bA:OA) (bC:Nat) (slA:OA) (slC:Nat) (drA:OA) (drC:Nat) (ha:List cZ) (heA:OA) (heC:Nat) (tz:List RA) (tA:OA) (tC:Nat) (ms:Value) (gw n:Nat) (hin:ld r az ha) (htz:tz.length=r.aD.length) (hn:n≤r.aD.length) (hok:km r n):
 p9 Tryz.prog 128 [(vP gw),(vI (n:Int))] [(rd kA r.ar.aS.length 9 (r.ar.aS.map au.cells)),(rd cA r.ar.aj.length 2 (List.zipWith ay.cells r.ar.aj az)),(dU (bo ay.gn r.ar.aj az)),(rd bA r.ar.aa.length 4 (r.ar.aa.map bK.cells)),(rd slA r.aY.length 1 (r.aY.map iC)),(rd drA r.cd.length 1 (r.cd.map iC)),(rd heA r.aD.length 1 (List.zipWith cP r.aD ha)),(dU (bo fg r.aD ha)),(rd tA ((fY r).length) 1 (List.zipWith MJ (fY r) tz)),(dU (bo Qz (fY r) tz)),(cx gw 212 (kD.cells (kD.mk (yz r kA kC cA cC bA bC slA slC drA drC heA heC) (bx.mk tA ((fY r).length) tC) ms)))] (fun (x:Nat)=>(Value.map (some x))) (fun (x:Nat)=>True) (fun (x:Nat)=>[(kj iV x (cU jZ (BK r n)))]):=by
 have c:=hin.line
 have m:=hin.iE
 have o:=hin.has
 have e:=hin.iB
 have d:=hin.draw
 have f:=j7 (r:=r)
 refine fF kr Tryz.func128 U U fun q Q hQ hN=>?_
 try dsimp only
 refine WS fun _ V=>wq U U fun k=>rP 1 [] I ?_
 refine RK V<|WS fun _ W=>mG (kV:=iV) U U fun B=>?_
 try dsimp only
 refine AL U SL fun l=>MD U EA U U<|RK W<|aq fun _ X=>WS fun _ Y=>e9 1 [] (mc 2 U I) U<|rS (SX (cT U U) U U)<|rP 5 [] (mr 13 U I) ?_
 refine RK Y<|aF ?_
 skip
 have A:(0≤r.aY.length):=by exact Nat.zero_le _
 refine bQ (ι:={z:Nat // (z≤r.aY.length)}) [1,2,5,15] [0,2,3,4,5,6,7,8,9,10,11,12,13] U U (fun z=>[(16,(vI (z.1:Int)))]) (fun z=>[(kj iV B (cU jZ (eH r.ar r.aD z.1 0 0)))]) (fun _=>rfl) (fun _=>rfl) (fun z=>r.aY.length-z.1) ⟨0,A⟩ (bk U) (aP [0,2,3,4,5,6,7,8,9,10,11,12,13,1]) ?_
 clear A
 rintro ⟨i,a⟩ J8 AA
 try dsimp only
 refine WS fun _ Z=>rP 1 [] I ?_
 refine RK Z<|aq fun _ D=>cw U (aV fun S=>?_) (aU fun S=>?_)
 ·refine WK D<|aq fun _ E=>aF<|WS fun _ F=>bE 2 U<|RK F<|aw<|rP 2 [] (mc 0 U I) ?_
  refine rS (SX (bq (xs:=[]) (cs:=(ai.cells (ai.mk 0 0))) U U (bp g4 U)) U U) ?_
  have O:(ep (eH r.ar r.aD i 0 0) (i:Int) (ai.mk 0 0))=(eH r.ar r.aD (i+1) 0 0):=by exact MB
  refine jc (kV:=iV) (x:=(i:Int)) (C':=[_,_,_,_,_,_,_,_,_,_,_,_,_,(kj iV B (cU jZ (eH r.ar r.aD (i+1) 0 0)))]) 13 U U U U sk (iK sr) U ((gP _ _ _ _).symm.trans (congrArg _ O)) U<|aK<|aO<|KK E<|aw<|rP 2 [] I ?_
  refine aK ?_
  have P:(vI (((i+1):Nat):Int))=(vI ((i:Int)+1)):=by exact cI om
  refine a_ (AA ⟨(i+1),(by first|omega|(simp only []; omega))⟩ _ _ _ U os (cK 4<|bj U P<|dv.nil _) (aP [0,1,2,3,4,5,6,7,8,9,10,11,12,13]))
 refine bL<|ab<|ab<|aH<|KK X<|WS fun _ G=>rS (FU U)<|bE 1 U<|RK G<|aq fun _ H=>WS fun _ AB=>rP 2 [] I ?_
 refine RK AB<|aF ?_
 rw [show (eH r.ar r.aD i 0 0)=(eH r.ar r.aD r.aY.length 0 0) from by rw [show i=r.aY.length by omega]]
 have A:(0≤n):=by exact Nat.zero_le _
 refine bQ (ι:={z:Nat // (z≤n)}) [2,5,7,24] [0,1,2,3,4,5,6,7,8,9,10,11,12] U U (fun z=>[(25,(vI (z.1:Int)))]) (fun z=>[(kj iV B (cU jZ (eH r.ar r.aD r.aY.length z.1 0)))]) (fun _=>rfl) (fun _=>rfl) (fun z=>n-z.1) ⟨0,A⟩ (bk U) (aP [0,1,2,3,4,5,6,7,8,9,10,11,12,13]) ?_
 clear A
 rintro ⟨h,b⟩ J19 C
 try dsimp only
 refine WS fun _ J=>rP 1 [] I ?_
 refine RK J<|aq fun _ K=>bV U (aU fun T=>?_) (aV fun T=>?_)
 ·refine bL<|ab<|ab<|aH<|KK H<|aq fun _ N=>?_
  rw [show (eH r.ar r.aD r.aY.length h 0)=(BK r n) from by rw [show h=n by omega]; exact Nm]
  refine aw<|rP 2 [] (mc 0 U I) ?_
  refine RK N<|av<|LX hQ B [13] [] I U U U U ?_
  trivial
 refine WK K<|aq fun _ L=>aF<|WS fun _ M=>bE 2 U<|RK M<|aw<|rP 2 [] I ?_
 refine oD 13 U U U U (JL r kA kC az cA cC bA bC slA slC drA drC ha heA heC tz tA tC ms gw h B k l hin htz om (by exact fun j x hj hx=>hok j x om hx)) U (eA 2 U U (dL (bY _)) (eA 3 U U (dL (bY _)) (eA 4 U U (dL (bY _)) (eA 5 U U (dL (bY _)) (eA 6 U U (dL (bY _)) (eA 7 U U (dL (bY _)) (eA 8 U U (dL (bY _)) (eA 9 U U (dL (bY _)) (eA 10 U U (dL (bY _)) (eA 11 U U (dL (bY _)) (eA 12 U U (dL (bY _)) (eA 1 U U (bY _) (eA 0 U U (bY _) rf))))))))))))) U (fun p g=>?_)
 try dsimp only
 refine aK<|aO<|KK L<|aw<|rP 2 [] I ?_
 refine aK ?_
 have R:(vI (((h+1):Nat):Int))=(vI ((h:Int)+1)):=by exact cI om
 refine a_ (C ⟨(h+1),(by first|omega|(simp only []; omega))⟩ _ _ _ U os (cK 4<|bj U R<|dv.nil _) (aP [0,1,2,3,4,5,6,7,8,9,10,11,12,13]))
end
end Go.Proofs.YtijpnoadncadoaaGreatDoor
