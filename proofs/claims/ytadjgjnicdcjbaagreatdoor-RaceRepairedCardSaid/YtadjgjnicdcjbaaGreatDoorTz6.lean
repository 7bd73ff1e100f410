/-
 The statement raceRepaired_said, part 6 of 9: B6, Frozen, MarkD, Marks, Follow, OpenM, V2, V1, V4, V3, V5, V6, V8, Wh2, Rc2, Rc3, Rc4, Rs3, Rs4, Rs6, Rs7, Rs8, RkB, RaB, RtB, Rp0, Rp1, Rp2, Rt1, Rr1, B10.
 Conditions: none.
-/
import Derived.Test.YtadjgjnicdcjbaaGreatDoorTz1
import Derived.Test.YtadjgjnicdcjbaaGreatDoorTz2
import Derived.Test.YtadjgjnicdcjbaaGreatDoorTz3
import Derived.Test.YtadjgjnicdcjbaaGreatDoorTz4
import Derived.Test.YtadjgjnicdcjbaaGreatDoorTz5
namespace Go.Proofs.YtadjgjnicdcjbaaGreatDoor
set_option maxRecDepth 100000
set_option maxHeartbeats 4000000
set_option linter.unusedVariables false
section
open Go.RowKit
theorem Ql:
 er Tryz.prog 83 [] [] (vA ((gY.cells (gY.mk (Value.func (.func 115) [].toArray [].toArray)))++(gY.cells (gY.mk (Value.func (.func 117) [].toArray [].toArray)))++(gY.cells (gY.mk (Value.func (.func 121) [].toArray [].toArray)))++(gY.cells (gY.mk (Value.func (.func 125) [].toArray [].toArray))))):=by
 refine bI kr Tryz.func83 U U fun D Q hQ hN=>?_
 try dsimp only
 refine WS fun _ A=>AL U Sa fun C=>RK A<|WS fun _ B=>rS (SX (bu (xs:=[(0,.func 115)]) (cs:=(gY.cells (gY.mk (Value.func (.func 115) [].toArray [].toArray)))) U U (br Gl U)) U U)<|rS (SX (bu (xs:=[(0,.func 117)]) (cs:=(gY.cells (gY.mk (Value.func (.func 117) [].toArray [].toArray)))) U U (br Gl U)) U U)<|rS (SX (bu (xs:=[(0,.func 121)]) (cs:=(gY.cells (gY.mk (Value.func (.func 121) [].toArray [].toArray)))) U U (br Gl U)) U U)<|rS (SX (bu (xs:=[(0,.func 125)]) (cs:=(gY.cells (gY.mk (Value.func (.func 125) [].toArray [].toArray)))) U U (br Gl U)) U U)<|rS (SX (bu (xs:=[(0,.tmp 1),(1,.tmp 2),(2,.tmp 3),(3,.tmp 4)]) (cs:=((gY.cells (gY.mk (Value.func (.func 115) [].toArray [].toArray)))++(gY.cells (gY.mk (Value.func (.func 117) [].toArray [].toArray)))++(gY.cells (gY.mk (Value.func (.func 121) [].toArray [].toArray)))++(gY.cells (gY.mk (Value.func (.func 125) [].toArray [].toArray))))) U U (br SQ U)) U U)<|fW U TW U<|RK B<|ar ?_
 exact IN hQ [0] (mc 0 U mn) U U
theorem DA (l:bf) (kA:OA) (kC:Nat) (az:List RA) (cA:OA) (cC:Nat) (bA:OA) (bC:Nat) (hin:ep l az):
 er Tryz.prog 61 [(vA (bV.cells (lq l kA kC cA cC bA bC)))] [(rd kA l.aL.length 9 (l.aL.map ak.cells)),(rd cA l.ah.length 2 (List.zipWith aq.cells l.ah az)),(eX (aU aq.gE l.ah az)),(rd bA l.ae.length 4 (l.ae.map bG.cells))] (vI (dH l)):=by
 have A1:=hin.sx
 have Av:=hin.sG
 have AO:=hin.mW
 have An:=hin.sk
 have A0:=hin.side
 refine bI kr Tryz.func61 U U fun w0 Q hQ hN=>?_
 try dsimp only
 refine WS fun _ m=>fK U fun b2=>bo 1 U<|RK m<|aj fun _ n=>WS fun _ o=>bo 1 U<|rS (LP (bw.cells (bw.mk (bq.mk kA l.aL.length kC))) 0 U cb U U U)<|rS (CL (CZ l.aL kA kC asm asm) (bk [1]) U)<|bo 1 U<|RK o<|WS fun _ p=>rP 2 [] mn ?_
 refine RK p<|cE U (aZ fun B=>?_) (a_ fun B=>?_)
 ·refine WS fun _ q=>rP 2 [] mn ?_
  refine RK q<|ar<|Q1 hQ U U U ?_
  (refine cI ?_; rw [(zU B).2,zm (zU B).1])
 refine WK n<|aj fun _ s=>WS fun _ t=>?_
 have A:=D2 B
 refine rS (CL Ql (aM) U)<|bo 1 U<|RK t<|ay<|j2 5<|eJ fun R9 u=>WS fun _ C=>rS (SX (cf (r:= .bool true) U U U hE) U U)<|RK C<|aj fun _ D=>aN U<|WK D<|aj fun _ E=>ay<|WS fun _ F=>rS (SX (ud (vs:=(gY.cells (gY.mk (Value.func (.func 115) [].toArray [].toArray)))) 0 U U U F6 cb U dc U) U U)<|AL U Gd fun x=>fW U GX U<|RK F<|WS fun _ G=>fG 3 [0,1] (mc 0 U (mc 1 U mn)) U<|rS (CL (QE l kA kC az cA cC bA bC hin) (bk [2,3,4,5]) U)<|rP 1 [] mn ?_
 refine RK G<|cE U (aZ fun g=>?_) (a_ fun g=>?_)
 ·refine WS fun _ H=>rP 1 [] mn ?_
  refine RK H<|ar<|Q1 hQ U U U ?_
  exact cI (rv A fun h=>absurd h.head asm).symm
 refine ck<|aG<|KK E<|al<|rS (SX (cf (r:= .int .i64 1) U U U (iE ⟨dc,dc⟩)) U U)<|bo 1 U<|RK u<|eJ fun R18 d=>WS fun _ AB=>rS (SX (cf (r:= .bool true) U U U hE) U U)<|RK AB<|aj fun _ J=>aN U<|WK J<|aj fun _ K=>ay<|WS fun _ L=>rS (SX (ud (vs:=(gY.cells (gY.mk (Value.func (.func 117) [].toArray [].toArray)))) 1 U U U F6 cb U dc U) U U)<|AL U Gd fun y=>fW U GX U<|RK L<|WS fun _ M=>fG 3 [0,1] (mc 0 U (mc 2 U mn)) U<|rS (CL (Rl l kA kC az cA cC bA bC hin) (bk [3,4,5,6]) U)<|rP 1 [] mn ?_
 refine RK M<|cE U (aZ fun i=>?_) (a_ fun i=>?_)
 ·refine WS fun _ N=>rP 1 [] mn ?_
  refine RK N<|ar<|Q1 hQ U U U ?_
  exact cI (rv A fun h=>absurd h.clock asm).symm
 refine ck<|aG<|KK K<|al<|rS (SX (cf (r:= .int .i64 2) U U U (iE ⟨dc,dc⟩)) U U)<|bo 1 U<|RK d<|eJ fun R27 e=>WS fun _ O=>rS (SX (cf (r:= .bool true) U U U hE) U U)<|RK O<|aj fun _ P=>aN U<|WK P<|aj fun _ R=>ay<|WS fun _ S=>rS (SX (ud (vs:=(gY.cells (gY.mk (Value.func (.func 121) [].toArray [].toArray)))) 2 U U U F6 cb U dc U) U U)<|AL U Gd fun z=>fW U GX U<|RK S<|WS fun _ T=>fG 3 [0,1] (mc 0 U (mc 3 U mn)) U<|rS (CL (Rn l kA kC az cA cC bA bC hin asm) (bk [4,5,6,7]) U)<|rP 1 [] mn ?_
 refine RK T<|cE U (aZ fun j=>?_) (a_ fun j=>?_)
 ·refine WS fun _ AA=>rP 1 [] mn ?_
  refine RK AA<|ar<|Q1 hQ U U U ?_
  exact cI (rv A fun h=>absurd h.wx asm).symm
 refine ck<|aG<|KK R<|al<|rS (SX (cf (r:= .int .i64 3) U U U (iE ⟨dc,dc⟩)) U U)<|bo 1 U<|RK e<|eJ fun R36 f=>WS fun _ V=>rS (SX (cf (r:= .bool true) U U U hE) U U)<|RK V<|aj fun _ W=>aN U<|WK W<|aj fun _ X=>ay<|WS fun _ Y=>rS (SX (ud (vs:=(gY.cells (gY.mk (Value.func (.func 125) [].toArray [].toArray)))) 3 U U U F6 cb U dc U) U U)<|AL U Gd fun AC=>fW U GX U<|RK Y<|WS fun _ Z=>fG 3 [0,1] (mc 0 U (mc 4 U mn)) U<|rS (CL (RB l kA kC az cA cC bA bC hin asm asm) (bk [5,6,7,8]) U)<|rP 1 [] mn ?_
 refine RK Z<|cE U (aZ fun k=>?_) (a_ fun k=>?_)
 ·refine WS fun _ a=>rP 1 [] mn ?_
  refine RK a<|ar<|Q1 hQ U U U ?_
  exact cI (rv A fun h=>absurd h.RS asm).symm
 refine ck<|aG<|KK X<|al<|rS (SX (cf (r:= .int .i64 4) U U U (iE ⟨dc,dc⟩)) U U)<|bo 1 U<|RK f<|eJ fun R45 w=>WS fun _ b=>rS (SX (cf (r:= .bool false) U U U hE) U U)<|RK b<|aj fun _ v=>bh U<|bD<|ab<|ab<|aA<|KK s<|WS fun _ c=>rP 1 [] mn ?_
 refine RK c<|ar<|Q1 hQ U U U ?_
 exact cI (yg A (z5 asm asm asm asm)).symm
theorem CD (lo hi:Int) (f:Value) (p:Int→Bool) (X:aw) (r:Int) (hf: ∀ x0,0≤x0∧x0<hi→DY Tryz.prog f [.int .i64 x0] [X] (.bool (p x0))) (hb:0≤lo∧lo≤r∧r≤hi∧hi≤100000000) (hno: ∀ x,lo≤x→x<r→p x=false) (hyes: ∀ x,r≤x→x<hi→p x=true):
 er Tryz.prog 216 [(vI lo),(vI hi),f] [X] (vI r):=by
 refine bI kr Tryz.func216 U U fun N Q hQ hN=>?_
 try dsimp only
 refine WS fun _ F=>rP 1 [] mn ?_
 refine RK F<|aj fun _ G=>ay ?_
 have A:(lo≤lo∧lo≤r)∧(r≤hi∧hi≤hi):=by omega
 refine bK (ι:={z:Int×Int // (lo≤z.1∧z.1≤r)∧(r≤z.2∧z.2≤hi)}) [2] [0] U U (fun z=>[(0,(vI z.1.1)),(1,(vI z.1.2))]) (fun z=>[]) (fun _=>rfl) (fun _=>rfl) (fun z=>(z.1.2-z.1.1).toNat) ⟨(lo,hi),A⟩ (aT U) (aI [0]) ?_
 clear A
 rintro ⟨⟨a,b⟩,⟨B,C⟩⟩ J3 D
 try dsimp only at B C
 try dsimp only
 refine aj fun _ H=>WS fun _ AA=>rP 3 [] mn ?_
 refine RK AA<|bO U (aO fun M=>?_) (aP fun M=>?_)
 ·refine bD<|ab<|ab<|aA<|KK G<|WS fun _ L=>rP 2 [] mn ?_
  refine RK L<|ar<|Q1 hQ U U U ?_
  exact cI I
 refine WK H<|ay<|WS fun _ J=>bo 4 U<|rS (BI U (uu I I I))<|bo 2 U<|RK J<|WS fun _ K=>rP 2 [] mn ?_
 refine rS (SX (sZ U U U (hf (a+((b-a)/2)) I) (bk [0])) U U)<|RK K<|cE U (fun hp=>?_) (fun hp=>?_)
 ·refine al<|rP 2 [] mn ?_
  refine aD<|aG ?_
  refine aR (D ⟨(a,(a+((b-a)/2))),(by dsimp only; rcases Int.lt_or_le (a+(b-a)/2) r with q|q; (have E:=hno _ I q; (rw [E] at hp; cases hp)); (have E:=hyes _ q I; (refine ⟨⟨I,I⟩,I,I⟩)))⟩ _ _ _ rfl (by simp only []; omega) (aT rfl) (aI [0]))
 refine al<|rP 3 [] mn ?_
 refine aD<|aG ?_
 refine aR (D ⟨(((a+((b-a)/2))+1),b),(by dsimp only; rcases Int.lt_or_le (a+(b-a)/2) r with q|q; (have E:=hno _ I q; (refine ⟨⟨I,I⟩,I,I⟩)); (have E:=hyes _ q I; (rw [E] at hp; cases hp)))⟩ _ _ _ rfl (by simp only []; omega) (aT rfl) (aI [0]))
theorem L6 (u:Int) (c:aq) (sA:OA) (sC g1:Nat) (s:aJ) (g2:Nat) (hc:fj c) (hu:0≤u∧u≤90000000):
 er Tryz.prog 217 [(vI u),(vP g1),(vP g2)] [(rd sA c.aV.length 3 (c.aV.map cd.cells)),(cm g1 119 (dh.cells (dh.mk c.dv (bq.mk sA c.aV.length sC)))),(cm g2 123 (aJ.cells s))] (vB (decide (s.Read≤u+(iI c u).Hi))):=by
 have C:=rj hc hu
 refine bI kr Tryz.func217 U U fun D Q hQ hN=>?_
 try dsimp only
 refine WS fun _ A=>bo 1 U<|RK A<|aj fun _ B=>dg cv 10 kr<|mw 3 [] (mr 1 U mn) U<|dS (CL (GF c sA sC u hc hu) (bk [0]) U)<|dS (SX (ld (v:=(vI ((iI c u).Hi))) U U fw Bk U) U U)<|dP 5 [] (mr 2 U mn) ?_
 refine cM<|RK B<|ar ?_
 exact Q1 hQ U U U U
theorem Kc (u:Int) (c:aq) (sA:OA) (sC g1:Nat) (s:aJ) (g2:Nat) (hc:fj c) (hu:0≤u∧u≤90000000):
 er Tryz.prog 219 [(vI u),(vP g1),(vP g2)] [(rd sA c.aV.length 3 (c.aV.map cd.cells)),(cm g1 119 (dh.cells (dh.mk c.dv (bq.mk sA c.aV.length sC)))),(cm g2 123 (aJ.cells s))] (vB (decide (s.Read<u+(iI c u).Lo))):=by
 have C:=rj hc hu
 refine bI kr Tryz.func219 U U fun D Q hQ hN=>?_
 try dsimp only
 refine WS fun _ A=>bo 1 U<|RK A<|aj fun _ B=>dg cv 10 kr<|mw 3 [] (mr 1 U mn) U<|dS (CL (GF c sA sC u hc hu) (bk [0]) U)<|dS (SX (ld (v:=(vI ((iI c u).Lo))) U U fw AN U) U U)<|dP 5 [] (mr 2 U mn) ?_
 refine cM<|RK B<|ar ?_
 exact Q1 hQ U U U U
theorem Ku (l:bf) (kA:OA) (kC:Nat) (az:List RA) (cA:OA) (cC:Nat) (bA:OA) (bC:Nat) (s:aJ) (hin:ep l az) (hok:lB l) (hs:(0≤s.gk∧s.gk≤(l.ae.length:Int)-1)∧0≤s.Read∧s.Read≤86400000):
 er Tryz.prog 208 [(vA (bV.cells (lq l kA kC cA cC bA bC))),(vA (aJ.cells s))] [(rd kA l.aL.length 9 (l.aL.map ak.cells)),(rd cA l.ah.length 2 (List.zipWith aq.cells l.ah az)),(eX (aU aq.gE l.ah az)),(rd bA l.ae.length 4 (l.ae.map bG.cells))] (vA (aa.cells (cP l s))):=by
 have V:=hin.sx
 have S:=hin.sG
 have P:=hin.mW
 have R:=hin.sk
 refine bI kr Tryz.func208 U U fun Z Q hQ hN=>?_
 try dsimp only
 refine WS fun _ AB=>fK U fun X=>fK U fun D=>AL U dx fun Y=>RK AB<|aj fun _ J=>dJ cv [11,12] [] [] [0,1,2,3,4,5,6] [] U U U U U<|eS U (FA 2 U fw U)<|eS U (L1 (vS cA l.ah.length cC) 2 U cb U U)<|eS U (FA 3 U fw U)<|eS U (L1 (vS bA l.ae.length bC) 2 U cb U U)<|eS U (FA 0 U fw U)<|eS U (L1 (vI s.gk) 1 U cb U U) ?_
 obtain ⟨y,hy⟩:=aH l.ae ((s.gk).toNat) I
 have O:=bJ bG.cells hy
 refine eS U (IA ((s.gk).toNat) U (aB 6 U) th dc I I)<|eS U (mV ((((s.gk).toNat)*4)+3) U (aB 6 U) (Nat.mul_pos I dc) fw U)<|eS U (fX ((s.gk).toNat) 3 (vI y.jH) U cb (aB 6 U) O U dc U) ?_
 have W:=(hok.wx _ (aS hy)).2
 obtain ⟨x,hx⟩:=aH l.ah ((y.jH).toNat) I
 obtain ⟨xa,F⟩:=aH az ((y.jH).toNat) I
 have N:(List.zipWith aq.cells l.ah az)[(y.jH).toNat]? =some (aq.cells x xa):=cT hx F
 refine eS U (IA ((y.jH).toNat) U (aB 4 U) uB dc I I)<|eS U (lS ((y.jH).toNat) 0 (dh.cells (dh.mk x.dv (bq.mk xa.1 x.aV.length xa.2))) U cb (aB 4 U) N U dc U U)<|eT U<|cp U fun T6 L=>AL U xU fun E=>aD (L _ _ (aI [1,2,3,4,5,6,7]) ?_)
 refine cp U fun T8 M=>fW U zo U<|aD (M _ _ (aI [1,2,3,4,5,6,7]) ?_)
 refine fO U<|KK J<|WS fun _ K=>?_
 have A:=hok.clock _ (aS hx)
 have AA:=iF (p:=gu x s.Read) (n:=86400001)
 have T:=iF (p:=gv x s.Read) (n:=86400001)
 refine rS (FU U) ?_
 refine rS (CL (CD 0 86400001 (Value.func (.func 217) [].toArray [(vP E),(vP D)].toArray) (fun B=>(decide (s.Read≤B+(iI x B).Hi))) (eX [(rd xa.1 x.aV.length 3 (x.aV.map cd.cells)),(cm E 119 (dh.cells (dh.mk x.dv (bq.mk xa.1 x.aV.length xa.2)))),(cm D 123 (aJ.cells s))]) (fF (gu x s.Read) 86400001) (by intro B _; exact n_ (fi:=[]) (ca:=[(vP E),(vP D)]) (mz (L6 B x xa.1 xa.2 E s D (by first|assumption|omega) (by first|assumption|omega)) (NC 0 1 2 U U U U U U))) I (by intro z G hz; exact (lf A G I).1 hz) (by intro z hz H; exact (lf A I H).2.1 hz)) (av (mE (av (show g9 _ (rd xa.1 x.aV.length 3 (x.aV.map cd.cells)).holds from (cw 6 U (bH hx F (by simp [aq.gE]))))<|fM 0 U U<|fM 2 U U<|aM))<|aM) U) ?_
 refine rS (FU U) ?_
 refine rS (CL (CD 0 86400001 (Value.func (.func 219) [].toArray [(vP E),(vP D)].toArray) (fun C=>(decide (s.Read<C+(iI x C).Lo))) (eX [(rd xa.1 x.aV.length 3 (x.aV.map cd.cells)),(cm E 119 (dh.cells (dh.mk x.dv (bq.mk xa.1 x.aV.length xa.2)))),(cm D 123 (aJ.cells s))]) (fF (gv x s.Read) 86400001) (by intro C _; exact n_ (fi:=[]) (ca:=[(vP E),(vP D)]) (mz (Kc C x xa.1 xa.2 E s D (by first|assumption|omega) (by first|assumption|omega)) (NC 0 1 2 U U U U U U))) I (by intro z G hz; exact (lf A G I).2.2.1 hz) (by intro z hz H; exact (lf A I H).2.2.2 hz)) (av (mE (av (show g9 _ (rd xa.1 x.aV.length 3 (x.aV.map cd.cells)).holds from (cw 6 U (bH hx F (by simp [aq.gE]))))<|fM 0 U U<|fM 2 U U<|aM))<|aM) U) ?_
 refine rP 1 [] mn ?_
 refine rS (SX (bu (xs:=[(0,.tmp 18),(1,.tmp 21)]) (cs:=(aa.cells (aa.mk (fF (gu x s.Read) 86400001) ((fF (gv x s.Read) 86400001)-1)))) U U (br gG U)) U U)<|sj U cz U<|RK K<|ar<|IN hQ [0] (mc 1 U mn) U ?_
 unfold cP qT; rw [xY hy hx]
end
section
open Go.RowKit
structure KS (S:BS) (w0:World) (X:aw) (C0:List aw) (w:World) (S':BS):Prop where
 st:St S w0 (X::C0) w
 w_: ∀ b,S'.w b↔ ∃ A∈C0,A.wf b
theorem EW {A B:aw} (h:DW A B):DW A.ro B:=fun b C D=>⟨fun h=>h,(h b C D).2⟩
theorem Da {E:fq} {c:Code} {Q:dk} {D:g3} {L:dw} {C C0:List aw} {X:aw} (i:Nat) (hn:decide (i::(List.range C.length).filter fun k=>k != i).Nodup=true) (hC:kF C (i::(List.range C.length).filter fun k=>k != i)=X::C0)
 (h: ∀ w S',KS E.S E.w0 X C0 w S'→WJ ⟨E.P,E.r,E.n,S',w⟩ c Q D L (X.ro::C0)):WJ E c Q D L C:=fun a w hf hs=>by
 have F:=St.kF _ hn hC hs
 obtain ⟨G,H⟩:=List.pairwise_cons.1 F.sep
 refine h w ⟨fun b=> ∃ A∈C0,A.wf b,fun _=>True⟩ ⟨F,fun b=>Iff.rfl⟩ a w hf ⟨ei.refl _ _,fun A hA=>?_,List.Pairwise.cons (fun B hB=>EW (G B hB)) H,fun A hA b hb=>?_,fun A hA b hb=> .inr trivial⟩
 ·rcases bE.1 hA with rfl|hA
  ·exact F.holds X (bZ ..)
  ·exact F.holds A (c_ _ hA)
 ·rcases bE.1 hA with rfl|hA
  ·exact hb.elim
  ·exact .inr ⟨A,hA,hb⟩
theorem Bj {E:fq} {S':BS} {w:World} {K:Act→World→Prop} {D:g3} {L:dw} {C0 C1 C2:List aw} {X:aw} (hz:KS E.S E.w0 X C0 w S') (is:List Nat) (hn:decide is.Nodup=true) (hC:kF C2 is=C1) (hwr:C1.all (·.wr)=true)
 (h:KJ E K D L (X::C1)):KJ ⟨E.P,E.r,E.n,S',w⟩ K D L C2:=fun a w' hf hs=>by
 have F:=St.kF is hn hC hs
 have C:=hz.st
 obtain ⟨J,M⟩:=List.pairwise_cons.1 C.sep
 have AA: ∀ b,X.fI b→ ¬ S'.w b:=fun b hb hw=>by
  obtain ⟨A,hA,hw⟩:=(hz.w_ b).1 hw
  exact (J A hA b hb (A.kI b hw)).2 hw
 have G: ∀ b,S'.w b→E.w0.heap.size≤b∨E.S.w b:=fun b hb=>by
  obtain ⟨A,hA,hw⟩:=(hz.w_ b).1 hb
  exact C.own A (c_ _ hA) b hw
 have H: ∀ A∈C1,∀ b,A.fI b→w.heap.size≤b∨S'.w b:=fun A hA b hb=>F.own A hA b (A.whole (cZ.1 hwr A hA) b hb)
 refine h a w' hf ⟨?_,fun A hA=>?_,List.Pairwise.cons (fun B hB b hb hb'=>?_) F.sep,fun A hA b hb=>?_,fun A hA b hb=>?_⟩
 ·refine ⟨F.keeps.os.trans C.keeps.os,F.keeps.tape.trans C.keeps.tape,F.keeps.output.trans C.keeps.output,Nat.le_trans C.keeps.size F.keeps.size,fun k hk hn'=>?_⟩
  refine (F.keeps.block k (Nat.lt_of_lt_of_le hk C.keeps.size) fun hw=>?_).trans (C.keeps.block k hk hn')
  rcases G k hw with q|q
  ·omega
  ·exact hn' q
 ·rcases bE.1 hA with rfl|hA
  ·have hh:=C.holds A (bZ ..)
   exact A.oY w w' (fun b hb=>F.keeps.block b (A.lt w hh b hb) (AA b hb)) hh
  ·exact F.holds A hA
 ·exfalso
  have hl:=X.lt w (C.holds X (bZ ..)) b hb
  rcases H B hB b hb' with q|q
  ·omega
  ·exact AA b hb q
 ·rcases bE.1 hA with rfl|hA
  ·exact C.own A (bZ ..) b hb
  ·rcases F.own A hA b hb with q|q
   ·exact .inl (Nat.le_trans C.keeps.size q)
   ·exact G b q
 ·rcases bE.1 hA with rfl|hA
  ·exact C.seen A (bZ ..) b hb
  ·rcases H A hA b hb with q|q
   ·exact .inl (Nat.le_trans C.keeps.size q)
   ·obtain ⟨B,hB,hw⟩:=(hz.w_ b).1 q
    exact C.seen B (c_ _ hB) b (B.kI b hw)
/-- put back, as it was -/
theorem HD {M A:Type} {f:M→A→List aw} {S:BS} {w0 w:World} {C:List aw} {ms:List M} {asl:List A} {k:Nat} {m:M} {a:A} {X:aw} (hm:ms[k]? =some m) (ha:asl[k]? =some a) (hf:f m a=[X]) (h:St S w0 (X::bB (fJ f ms asl k)::C) w):St S w0 (bB (aU f ms asl)::C) w:=by
 have B:St S w0 (bB (fJ f ms asl k)::X::C) w:=h.perm (List.Perm.swap _ _ _)
 have D:St S w0 ((f m a++fJ f ms asl k)++C) w:=by
  rw [hf]
  exact B.iz.perm (List.perm_middle (a:=X) (l₁:=fJ f ms asl k) (l₂:=C))
 exact lk (k9 hm ha).symm D.tied
theorem Jx {E:fq} {K:Act→World→Prop} {D:g3} {L:dw} {C C1:List aw} {M A:Type} {f:M→A→List aw} {ms:List M} {asl:List A} {k:Nat} {m:M} {a:A} {X:aw} (i j:Nat) (hm:ms[k]? =some m) (ha:asl[k]? =some a) (hf:f m a=[X])
 (hn:decide (j::i::(List.range C.length).filter fun k=>k != i&&k != j).Nodup=true) (hC:kF C (j::i::(List.range C.length).filter fun k=>k != i&&k != j)=X::bB (fJ f ms asl k)::C1)
 (h:KJ E K D L (bB (aU f ms asl)::C1)):KJ E K D L C:=fun a w hf' hs=>h a w hf' (HD hm ha hf (St.kF _ hn hC hs))
theorem zB {M A:Type} {f:M→A→List aw} {ms:List M} {asl:List A} {m:M} {a:A} {X:aw} (hl:ms.length=asl.length) (hf:f m a=[X]):aU f ms asl++[X]=aU f (ms++[m]) (asl++[a]):=by
 rw [jt hl,← hf]; simp [aU]
theorem ze {E:fq} {K:Act→World→Prop} {D:g3} {L:dw} {C C1:List aw} {M A:Type} {f:M→A→List aw} {ms:List M} {asl:List A} {m:M} {a:A} {X:aw} (i j:Nat) (hf:f m a=[X])
 (hn:decide (j::i::(List.range C.length).filter fun k=>k != i&&k != j).Nodup=true) (hC:kF C (j::i::(List.range C.length).filter fun k=>k != i&&k != j)=X::bB (aU f ms asl)::C1)
 (h:KJ E K D L (bB (aU f (m::ms) (a::asl))::C1)):KJ E K D L C:=fun b w hf' hs=>by
 have B:=St.kF _ hn hC hs
 have F:St E.S E.w0 (bB (aU f ms asl)::X::C1) w:=B.perm (List.Perm.swap _ _ _)
 have G:St E.S E.w0 (aU f (m::ms) (a::asl)++C1) w:=by
  show St E.S E.w0 ((f m a++aU f ms asl)++C1) w
  rw [hf]
  exact F.iz.perm (List.perm_middle (a:=X) (l₁:=aU f ms asl) (l₂:=C1))
 exact h b w hf' G.tied
end
section
open Go.RowKit
abbrev l7 (r:Nat):aw:=lM r (.deferred (some []))
theorem M_ (rs:List Nat):(bB (rs.map l7)).wr=true:=by
 show (rs.map l7).all (·.wr)=true
 rw [cZ]
 intro X hX
 obtain ⟨r,_,rfl⟩:=bW.1 hX
 rfl
theorem wF {E:fq} {c:Code} {Q:dk} {D:g3} {L:dw} {C:List aw} {ι:Type} (Di:ι→g3) (Li:ι→dw) (Ci:ι→List aw) (μ:ι→Nat) (x0:ι)
 (hD:D=Di x0) (h0:dj L (Li x0)) (hC: ∀ w,St E.S E.w0 C w→St E.S E.w0 (Ci x0) w)
 (round: ∀ x (J:Act→World→Prop),(∀ y D' L' C',D'=Di y→μ y<μ x→dj L' (Li y)→(∀ w,St E.S E.w0 C' w→St E.S E.w0 (Ci y) w)→KJ E J D' L' C')→WJ E c (Exit.then J Q) (Di x) (Li x) (Ci x)):WJ E (.loop c) Q D L C:=by
 intro a w hf hs
 subst hD
 have H: ∃ x,Fr E.n (Di x) (Li x) a∧St E.S E.w0 (Ci x) w:=⟨x0,hf.sub h0,hC w hs⟩
 clear hf hs
 have key: ∀ (m:Nat) (a:Act) (w:World),(∃ x,μ x=m∧Fr E.n (Di x) (Li x) a∧St E.S E.w0 (Ci x) w)→(Code.loop c).wpIn (Fw E.r) 0 E.P Q a w:=by
  intro m a w hx
  refine wpIn_loop (fun a w=> ∃ x,Fr E.n (Di x) (Li x) a∧St E.S E.w0 (Ci x) w) (fun a w=>leastOf fun k=> ∃ x,μ x=k∧Fr E.n (Di x) (Li x) a∧St E.S E.w0 (Ci x) w) (by obtain ⟨x,_,h⟩:=hx; exact ⟨x,h⟩) ?_
  intro a w hx
  have F: ∃ k,∃ x,μ x=k∧Fr E.n (Di x) (Li x) a∧St E.S E.w0 (Ci x) w:=by obtain ⟨x,h⟩:=hx; exact ⟨_,x,rfl,h⟩
  obtain ⟨x,K,AA,M⟩:=(leastOf_spec F).1
  refine round x _ ?_ a w AA M
  intro y D' L' C' hD G A B a' w' hf' hs'
  subst hD
  refine ⟨⟨y,hf'.sub A,B _ hs'⟩,?_⟩
  rw [← K]
  exact Nat.lt_of_le_of_lt ((leastOf_spec ⟨_,y,U,hf'.sub A,B _ hs'⟩).2 _ ⟨y,U,hf'.sub A,B _ hs'⟩) G
 obtain ⟨x,h⟩:=H
 exact key _ a w ⟨x,U,h⟩
theorem St.Vf {S:BS} {w0 w:World} {C X:List aw} {A:aw} (h:St S w0 (A::bB X::C) w):St S w0 (bB (A::X)::C) w:=by
 have B:St S w0 (bB X::A::C) w:=h.perm (List.Perm.swap _ _ _)
 have D:St S w0 ((A::X)++C) w:=B.iz.perm (List.perm_middle (a:=A) (l₁:=X) (l₂:=C))
 exact D.tied
theorem K6 {E:fq} {K:Act→World→Prop} {D:g3} {L:dw} {C C1 X:List aw} {A:aw} (i j:Nat) (hn:decide (j::i::(List.range C.length).filter fun k=>k != i&&k != j).Nodup=true) (hC:kF C (j::i::(List.range C.length).filter fun k=>k != i&&k != j)=A::bB X::C1)
 (h:KJ E K D L (bB (A::X)::C1)):KJ E K D L C:=fun a w hf hs=>h a w hf ((St.kF _ hn hC hs).Vf)
theorem FC {E:fq} {K:Act→World→Prop} {D:g3} {L:dw} {C:List aw} (h:KJ E K D L (bB []::C)):KJ E K D L C:=fun a w hf hs=>h a w hf hs.Rk
theorem RE {E:fq} {K:Act→World→Prop} {D:g3} {L:dw} (C1 C2:List aw) (h:KJ E K D L (bB C1::C2)):KJ E K D L (C1++C2):=fun a w hf hs=>h a w hf (St.tied hs)
theorem Oy {E:fq} {fn:Func} {R:Ending→World→Prop} {D:g3} {L:dw} {C C1:List aw} {rs:List Nat} (i:Nat) (hn:decide (i::(List.range C.length).filter fun k=>k != i).Nodup=true) (hC:kF C (i::(List.range C.length).filter fun k=>k != i)=bB (rs.map l7)::C1)
 (h:LJ E fn R D L C1):LJ E fn R (rs.map lT++D) L C:=by
 have key: ∀ rs:List Nat,LJ E fn R (rs.map lT++D) L (bB (rs.map l7)::C1):=by
  intro rs
  induction rs with
  |nil=>exact fun a w hf hs=>h a w hf (hs.take (List.sublist_cons_self _ _))
  |cons r rs ih=>
   have A:LJ E fn R (lT r::(rs.map lT++D)) L (l7 r::bB (rs.map l7)::C1):=oW 0 rfl rfl (fun a w hf hs=>ih a w hf (hs.take (List.sublist_cons_self _ _)))
   intro a w hf hs
   refine A a w hf ?_
   have B:St E.S E.w0 ((l7 r::rs.map l7)++C1) w:=St.iz (C1:=l7 r::rs.map l7) hs
   have F:St E.S E.w0 (rs.map l7++(l7 r::C1)) w:=B.perm (List.perm_middle (a:=l7 r) (l₁:=rs.map l7) (l₂:=C1)).symm
   exact F.tied.perm (List.Perm.swap _ _ _)
 exact fun a w hf hs=>key rs a w hf (St.kF _ hn hC hs)
theorem Kl {E:fq} {fn:Func} {R:Ending→World→Prop} {L:dw} {C C1:List aw} {rs:List Nat} (i:Nat) (hn:decide (i::(List.range C.length).filter fun k=>k != i).Nodup=true) (hC:kF C (i::(List.range C.length).filter fun k=>k != i)=bB (rs.map l7)::C1)
 (h:LJ E fn R [] L C1):LJ E fn R (rs.map lT) L C:=by
 have:=Oy (D:=[]) i hn hC h
 rwa [List.append_nil] at this
end
section
open Go.RowKit
theorem KE (fs:List FM) (fb:List Nat):(bB (aU oq fs fb)).wr=true:=by
 show (aU oq fs fb).all (·.wr)=true
 rw [cZ]
 intro X hX
 obtain ⟨k,m,a,_,_,h⟩:=jX hX
 simp only [oq,bP] at h
 subst h; rfl
theorem Sk (fs:List TM) (fb:List Nat):(bB (aU sB fs fb)).wr=true:=by
 show (aU sB fs fb).all (·.wr)=true
 rw [cZ]
 intro X hX
 obtain ⟨k,m,a,_,_,h⟩:=jX hX
 simp only [sB,bP] at h
 subst h; rfl
end
section
def eM (bl:List Nat) (n:Nat):List (Option Nat):=bl.map some++List.replicate (n-bl.length) none
def ib (bl:List Nat) (n:Nat):List (Option Nat):=List.replicate (n-bl.length) none++bl.map some
theorem se {bl:List Nat} {n:Nat} (h:bl.length≤n):(eM bl n).length=n:=by simp [eM]; omega
theorem Ah {bl:List Nat} {n:Nat} (h:bl.length≤n):(ib bl n).length=n:=by simp [ib]; omega
theorem zT {n:Nat}:List.replicate n none=eM [] n:=by simp [eM]
theorem Is {n:Nat}:List.replicate n none=ib [] n:=by simp [ib]
theorem Ae {bl:List Nat} {n:Nat} (h:bl.length=n):eM bl n=bl.map some:=by simp [eM,h]
theorem HK {bl:List Nat} {n:Nat} (h:bl.length=n):ib bl n=bl.map some:=by simp [ib,h]
theorem pz {bl:List Nat} {n k g:Nat} (h:bl[k]? =some g):(eM bl n)[k]? =some (some g):=by
 have hk:=(aX.1 h).1
 unfold eM
 rw [List.getElem?_append_left (by simpa using hk),fP,h]; rfl
theorem ur {bl:List Nat} {n k i g:Nat} (h:bl[i]? =some g) (hk:k=n-bl.length+i):(ib bl n)[k]? =some (some g):=by
 subst hk
 unfold ib
 rw [List.getElem?_append_right sm,fP,List.length_replicate,Nat.add_sub_cancel_left,h]; rfl
theorem vv {bl:List Nat} {n k g:Nat} (hk:k=bl.length) (h:bl.length<n):(eM bl n).set k (some g)=eM (bl++[g]) n:=by
 subst hk
 unfold eM
 rw [List.set_append_right _ _ sm]
 have e:n-bl.length=(n-(bl++[g]).length)+1:=by simp; omega
 rw [e,List.replicate_succ]
 simp
theorem HR {bl:List Nat} {n k g:Nat} (hk:k+1+bl.length=n):(ib bl n).set k (some g)=ib (g::bl) n:=by
 unfold ib
 have e:n-bl.length=k+1:=by omega
 have A:n-(g::bl).length=k:=by simp; omega
 rw [e,A,List.set_append_left _ _ sm,List.replicate_succ',List.set_append_right _ _ sm]
 simp
theorem sR {l:List (Option Nat)} {k g:Nat} (h:l[k]? =some (some g)):(l.map oC)[k]? =some (oC (some g)):=by rw [fP,h]; rfl
theorem Ba {α:Type} {l:List α} {x:α} {k:Nat} (h:k=l.length):(l++[x])[k]? =some x:=by subst h; simp
theorem Kq {α:Type} {l:List α} {x y:α} {k:Nat} (h:l[k]? =some y):(l++[x])[k]? =some y:=by rw [List.getElem?_append_left (aX.1 h).1]; exact h
structure qw (w:bT) (fs:List FM):Prop where
 all: ∀ (b:Nat) m,fs[b]? =some m→tO m (fwd w b)∧(m.map (·.1)).Nodup
structure ig (w:bT) (k:Nat) (bs:List FM):Prop where
 all: ∀ (i:Nat) m,bs[i]? =some m→vQ m (back w (k+i))∧(m.map (·.1)).Nodup
variable {w:bT} {b:Nat} {mb m left:List (aF×Int)} {o:Int×aa} {os:List (Int×aa)} {p:aF×Int}
theorem qw.first:qw w [[(⟨0,0⟩,w.Start)]]:=⟨fun b m h=>by
 match b with
 |0=>simp at h; subst h; exact ⟨Hg,sm⟩
 |n+1=>simp at h⟩
theorem qw.add {fs:List FM} (h:qw w fs) (hl:fs.length=b+1) (hmb:fs[b]? =some mb) (hm:xC w b m) (hd:ke w b mb m left) (h0:left=[]):qw w (fs++[m]):=⟨fun i x hx=>by
 rcases Nat.lt_or_ge i fs.length with q|q
 ·rw [List.getElem?_append_left q] at hx; exact h.all i x hx
 ·rw [List.getElem?_append_right q] at hx
  have hi:i-fs.length=0:=by
   rcases Nat.eq_zero_or_pos (i-fs.length) with z|z
   ·exact z
   ·rw [List.getElem?_eq_none (by simp; omega)] at hx; cases hx
  rw [hi] at hx
  simp at hx; subst hx
  obtain rfl:i=b+1:=by omega
  have A:=h.all b mb hmb
  exact ⟨KF A.2 A.1 hm.snd (hd.fin h0),hm.keys⟩⟩
theorem qw.ok {fs:List FM} (h:qw w fs) (hl:fs.length=w.n+1):xR w fs:=⟨hl,fun b m hm=>(h.all b m hm).1,fun b m hm=>(h.all b m hm).2⟩
theorem ig.none_:ig w b []:=⟨fun i m h=>by simp at h⟩
theorem ig.last (hb:w.n≤b):ig w b [[(⟨0,0⟩,w.fZ)]]:=⟨fun i m h=>by
 match i with
 |0=>simp at h; subst h; exact ⟨JB I,sm⟩
 |n+1=>simp at h⟩
theorem ig.add {bs:List FM} (h:ig w (b+1) bs) (hb:b<w.n) (hmb:bs[0]? =some mb) (hm:wu w b m) (hd:jO w b mb m left) (h0:left=[]):ig w b (m::bs):=⟨fun i x hx=>by
 match i with
 |0=>
  simp at hx; subst hx
  have A:=h.all 0 mb hmb
  exact ⟨MK hb A.2 A.1 hm.snd hm.zero (hd.fin h0),hm.keys⟩
 |n+1=>
  have:=h.all n x (by simpa using hx)
  rw [show b+1+n=b+(n+1) by omega] at this
  exact this⟩
theorem ig.ok {bs:List FM} (h:ig w 0 bs) (hl:bs.length=w.n+1):uT w bs:=⟨hl,fun b m hm=>by have:=(h.all b m hm).1; rwa [Nat.zero_add] at this,fun b m hm=>(h.all b m hm).2⟩
/-- on the way through one entry's options -/
structure nO (w:bT) (b:Nat) (mb left m:List (aF×Int)) (p:aF×Int) (os:List (Int×aa)):Prop where
 on:xC w b m
 uw:ke w b mb m left
 done:jk w b m p os
structure oh (w:bT) (b:Nat) (mb left m:List (aF×Int)) (p:aF×Int) (os:List (Int×aa)):Prop where
 on:wu w b m
 uw:jO w b mb m left
 done:jq w b m p os
theorem nO.start (h:xC w b m) (h2:ke w b mb m left):nO w b mb left m p []:=⟨h,h2,fun o ho=>by cases ho⟩
theorem oh.start (h:wu w b m) (h2:jO w b mb m left):oh w b mb left m p []:=⟨h,h2,fun o ho=>by cases ho⟩
theorem HV {q:aF×Int} (h:(m.lookup q.1).isSome=false∨q.2<(m.lookup q.1).getD 0):pG m q=eP m q.1 q.2:=by
 unfold pG
 cases e:m.lookup q.1 with
 |none=>rfl
 |some v=>rw [e] at h; simp at h; simp only; rw [if_pos h]
theorem FB {q:aF×Int} (h:(m.lookup q.1).isSome=true) (h2: ¬ q.2<(m.lookup q.1).getD 0):pG m q=m:=by
 unfold pG
 cases e:m.lookup q.1 with
 |none=>rw [e] at h; cases h
 |some v=>rw [e] at h2; simp only [Option.getD_some] at h2; simp only; rw [if_neg h2]
theorem Ie {q:aF×Int} (h:(m.lookup q.1).isSome=false∨(m.lookup q.1).getD 0<q.2):pA m q=eP m q.1 q.2:=by
 unfold pA
 cases e:m.lookup q.1 with
 |none=>rfl
 |some v=>rw [e] at h; simp at h; simp only; rw [if_pos h]
theorem Ex {q:aF×Int} (h:(m.lookup q.1).isSome=true) (h2: ¬ (m.lookup q.1).getD 0<q.2):pA m q=m:=by
 unfold pA
 cases e:m.lookup q.1 with
 |none=>rw [e] at h; cases h
 |some v=>rw [e] at h2; simp only [Option.getD_some] at h2; simp only; rw [if_neg h2]
theorem Bo {t:aF} {v y:Int} (hy:w.qp[b]? =some y) (h:max (v+y) o.2.Lo≤min o.2.Hi w.fZ):kX w b (t,v) o=some (dC t (fy o.1),max (v+y) o.2.Lo):=by
 have e:=nN hy
 subst e
 exact I0 h
theorem LB {t:aF} {v y:Int} (hy:w.qp[b]? =some y) (h: ¬ max (v+y) o.2.Lo≤min o.2.Hi w.fZ):kX w b (t,v) o=none:=by
 have e:=nN hy
 subst e
 exact O6 h
theorem Ay {t:aF} {v y:Int} (hy:w.qp[b]? =some y) (h:o.2.Lo≤min v o.2.Hi):ot w b (t,v) o=some (dC t (fy o.1),min v o.2.Hi-y):=by
 have e:=nN hy
 subst e
 exact Lh h
theorem nO.set {q:aF×Int} (h:nO w b mb left m p os) (hp:p∈fwd w b) (ho:o∈iM w b) (he:kX w b p o=some q) (hs:(m.lookup q.1).isSome=false∨q.2<(m.lookup q.1).getD 0):nO w b mb left (eP m q.1 q.2) p (os++[o]):=by
 rw [← HV hs]
 exact ⟨h.on.add hp ho he,h.uw.lower vL,h.done.Lf he⟩
theorem nO.oY {q:aF×Int} (h:nO w b mb left m p os) (he:kX w b p o=some q) (hs:(m.lookup q.1).isSome=true) (h2: ¬ q.2<(m.lookup q.1).getD 0):nO w b mb left m p (os++[o]):=by
 have:=h.done.Lf he
 rw [FB hs h2] at this
 exact ⟨h.on,h.uw,this⟩
theorem nO.skip (h:nO w b mb left m p os) (he:kX w b p o=none):nO w b mb left m p (os++[o]):=⟨h.on,h.uw,h.done.none_ he⟩
theorem oh.set {q:aF×Int} (hb:b<w.n) (h:oh w b mb left m p os) (hp:p∈back w (b+1)) (ho:o∈iM w b) (he:ot w b p o=some q) (hs:(m.lookup q.1).isSome=false∨(m.lookup q.1).getD 0<q.2):oh w b mb left (eP m q.1 q.2) p (os++[o]):=by
 rw [← Ie hs]
 exact ⟨h.on.add hb hp ho he,h.uw.upper q9,h.done.Lf he⟩
theorem oh.oY {q:aF×Int} (h:oh w b mb left m p os) (he:ot w b p o=some q) (hs:(m.lookup q.1).isSome=true) (h2: ¬ (m.lookup q.1).getD 0<q.2):oh w b mb left m p (os++[o]):=by
 have:=h.done.Lf he
 rw [Ex hs h2] at this
 exact ⟨h.on,h.uw,this⟩
theorem oh.skip (h:oh w b mb left m p os) (he:ot w b p o=none):oh w b mb left m p (os++[o]):=⟨h.on,h.uw,h.done.none_ he⟩
theorem nO.next {t:aF} {v:Int} (hn:(left.map (·.1)).Nodup) (hm:(t,v)∈left) (h:nO w b mb left m (t,v) os) (ho: ∀ o∈iM w b,o∈os):ke w b mb m (cJ left t):=h.uw.next hn hm h.done ho
theorem oh.next {t:aF} {v:Int} (hn:(left.map (·.1)).Nodup) (hm:(t,v)∈left) (h:oh w b mb left m (t,v) os) (ho: ∀ o∈iM w b,o∈os):jO w b mb m (cJ left t):=h.uw.next hn hm h.done ho
theorem qw.mem {fs:List FM} (h:qw w fs) (hm:fs[b]? =some mb) (hp:p∈mb):p∈fwd w b:=(h.all b mb hm).1.1 _ _ ((fH (h.all b mb hm).2).1 hp)
theorem ig.U9 {bs:List FM} {k:Nat} (h:ig w k bs) (hk:k=b+1) (hm:bs[0]? =some mb) (hp:p∈mb):p∈back w (b+1):=by
 subst hk
 exact (h.all 0 mb hm).1.1 _ _ ((fH (h.all 0 mb hm).2).1 hp)
theorem ig.end_ {bs:List FM} {k j:Nat} (h:ig w k bs) (hj:bs.length=0) (hk:j=b) (hb:w.n≤b):ig w j ([(⟨0,0⟩,w.fZ)]::bs):=by
 subst hk
 rw [jS hj]
 exact ig.last hb
theorem ig.more {bs:List FM} {k j:Nat} (h:ig w k bs) (hk:k=b+1) (hj:j=b) (hb:b<w.n) (hmb:bs[0]? =some mb) (hm:wu w b m) (hd:jO w b mb m left) (h0:left=[]):ig w j (m::bs):=by
 subst hk hj
 exact h.add hb hmb hm hd h0
end
section
open Go.RowKit
theorem kq {a:OA} {c e sz n:Nat} {es:List (List Value)} (h:es.length=n):M1 (own a c e sz es) (rd a n sz es):=by subst h; exact M8
theorem um {L:List aw}:M1 (bB L) (eX L):=⟨fun w h=>h.1,fun b h=>h⟩
theorem ND {b:Nat} {fb:List Nat} {g:Nat} (h:fb.length=b):aU sB (List.replicate b ([]:TM)) fb++[im iV g (bS dE [])]=aU sB (List.replicate (b+1) ([]:TM)) (fb++[g]):=by
 rw [List.replicate_succ']
 exact zB (by rw [List.length_replicate]; exact h.symm) U
theorem Vk {α:Type} {ms:List α} {fb:List Nat} {n:Nat} (h:fb.length=n) (h2:ms.length=n):List.map oC (eM fb n)=List.zipWith gS ms fb:=by
 rw [Ae h]; exact (Bd I).symm
theorem wI {l:bf} {r:cL} {i:Nat} {x:aJ} (hx:r.ai[i]? =some x) (h: ¬ kx l r.ai i x): ¬ fx l r:=fun q=>h (q.sig i x hx)
end
section
open Go.RowKit
theorem ti (ln:bV) (ri:dL) (e:List Int) (tms:List TM) (e_A:OA) (e_C:Nat) (tb:List Nat) (t_A:OA) (t_C:Nat) (fA:OA) (fN fC:Nat) (bA:OA) (bN bC:Nat) (gw b:Nat) (g1 g2:Nat) (hb:b<tms.length) (htb:tb.length=tms.length):
 Ev Tryz.prog 220 [] [(vP g1),(vP g2)] [(rd e_A e.length 1 (e.map iC)),(rd t_A tms.length 1 (List.zipWith gS tms tb)),(eX (aU sB tms tb)),(cm gw 274 (cu.cells (cu.mk ln ri (bq.mk e_A e.length e_C) (bq.mk t_A tms.length t_C) (bq.mk fA fN fC) (bq.mk bA bN bC)))),(cm g1 263 [(vP gw)]),(cm g2 3 [(vI (b:Int))])] ([]:List (Int×aa)) (fun ys x ys'=> ∃ o,o∈iM (cQ ln ri e tms) b∧x=PJ o∧ys'=ys++[o]) (fun ys=> ∀ o∈iM (cQ ln ri e tms) b,o∈ys):=by
 refine uE kr Tryz.func220 U U fun l J Z A0 d Q hY V AA hQ hN=>?_
 try dsimp only
 refine aj fun _ X=>aj fun _ R=>dg cv 12 kr<|mw 2 [] (mr 5 U mn) U<|dS (SX (bQ U U) U U)<|mw 4 [0,1] (mr 4 U (mr 5 U mn)) U<|dS (SX (bQ U U) U U)<|dP 3 [] (mr 4 U mn) ?_
 refine dS (SX (bu (xs:=[(0,.tmp 11),(1,.tmp 16)]) (cs:=(aa.cells (aa.mk ri.Start ri.fZ))) U U (br gG U)) U U)<|cM<|kO (k:=([]:List (Int×aa))) (k':=(([]:List (Int×aa))++[((-1),(aa.mk ri.Start ri.fZ))])) 0 (by first|exact hsz|exact Nat.le_refl _) hY V AA U U U (by exact ⟨(-1,⟨ri.Start,ri.fZ⟩),bZ ..,U,U⟩) U U (fun B3 N M=>?_) (fun B3 N M=>?_)
 rotate_left 1
 ·refine rP 1 [] mn ?_
  refine RK R<|aN U<|ar ?_
  refine hQ _ _ _ (ic (vs:=[]) trivial fun w hs=>sP 0 U N M hs)
 refine bo 1 U<|RK R<|bh U<|WK X<|aj fun _ Y=>dg cv 7 kr<|mw 1 [] (mr 5 U mn) U<|dS (SX (bQ U U) U U)<|dP 3 [0,1] (mr 4 U (mr 6 U mn)) ?_
 obtain ⟨x,hx⟩:=aH tms b I
 obtain ⟨xa,L⟩:=aH tb b I
 have a:(List.zipWith gS tms tb)[b]? =some (gS x xa):=cT hx L
 refine dS (IA b U (aB 2 U) GK dc I I)<|dS (fX b 0 (Value.map (some xa)) U cb (aB 2 U) a U dc U)<|cM<|j1 (kV:=iV) (m:=bS dE x) 3 U U lv U ⟨⟨(im iV xa (bS dE x)),(bH hx L (by simp [sB])),U⟩,fun h=>h⟩ (show g9 _ (im iV xa (bS dE x)).holds from cw 3 U (bH hx L (by simp [sB]))) U fun j=>?_
 try dsimp only
 refine RK Y<|ay ?_
 have G:(∀ o∈x,o∈x∨o∈(([]:List (Int×aa))++[((-1),(aa.mk ri.Start ri.fZ))]))∧(∀ o∈x,o∈x)∧(J (([]:List (Int×aa))++[((-1),(aa.mk ri.Start ri.fZ))]) B3)∧(Fo A0 d B3)∧((-1,(⟨ri.Start,ri.fZ⟩:aa))∈(([]:List (Int×aa))++[((-1),(aa.mk ri.Start ri.fZ))])):=by exact ⟨fun o ho=> .inl ho,fun o ho=>ho,asm,asm,sm⟩
 refine bK (ι:={z:TM×(List (Int×aa))×aw // (∀ o∈x,o∈z.1∨o∈z.2.1)∧(∀ o∈z.1,o∈x)∧(J z.2.1 z.2.2)∧(Fo A0 d z.2.2)∧((-1,(⟨ri.Start,ri.fZ⟩:aa))∈z.2.1)}) [0,1,2,27] [2,3,4,6,7] U U (fun z=>[]) (fun z=>[(zh iV j xa (bS dE x) (bS dE z.1.1) none),z.1.2.2]) (fun _=>rfl) (fun _=>rfl) (fun z=>z.1.1.length) ⟨(x,(([]:List (Int×aa))++[((-1),(aa.mk ri.Start ri.fZ))]),B3),G⟩ (dj.nil _) (aI [2,3,4,6,7,0,1]) ?_
 clear G
 rintro ⟨⟨left,ys,A⟩,⟨B,C,D,E,F⟩⟩ J8 W
 try dsimp only at B C D E F
 try dsimp only
 refine WS fun _ S=>jw (dT mX).inj (f:=dE) 5 U U U U (fun T=>?_) (fun i z hm hn=>?_)
 ·refine rP 1 [] mn ?_
  refine RK S<|aj fun _ c=>bh U<|bD<|ab<|ab<|aA ?_
  refine hN _ _ _ (ic (vs:=[]) trivial fun w hs=>KI 6 U (by exact Hu hx B T F) D E hs)
 try dsimp only
 refine bo 1 U<|RK S<|aj fun _ O=>aN U<|WK O<|ay<|WS fun _ P=>rS (SX (js 5 U U U) U U)<|bo 2 U<|AL U dx fun g=>bo 1 U<|fW U cz U<|RK P<|WS fun _ K=>rP 3 [] (mc 0 U mn) ?_
 refine kO (k:=ys) (k':=(ys++[(i,z)])) 7 (by first|exact hsz|exact Nat.le_refl _) hY D E U U U (by exact ⟨(i,z),(x9 hx).2 (.inr (C _ hm)),U,U⟩) U U (fun B15 AB H=>?_) (fun B15 AB H=>?_)
 rotate_left 1
 ·refine rP 1 [] mn ?_
  refine RK K<|aN U<|ar ?_
  refine hQ _ _ _ (ic (vs:=[]) trivial fun w hs=>sP 7 U AB H hs)
 refine rP 1 [] mn ?_
 refine RK K<|bh U<|ck<|aG<|hU 6 U fT U ?_
 refine aR (W ⟨((cJ left i),(ys++[(i,z)]),B15),⟨IG hn hm B,mI C,asm,asm,by simp [F]⟩⟩ _ _ _ U (fg hm) (aT U) (aI [1,2,3,4,5,6,7]))
theorem vg (gw b:Nat):
 lx Tryz.prog 212 [(vP gw),(vI (b:Int))] [] (fun (x:Nat×Nat)=>(Value.func (.func 220) [].toArray [(Value.pointer (some ⟨x.1,0,none⟩)),(Value.pointer (some ⟨x.2,0,none⟩))].toArray)) (fun (x:Nat×Nat)=>True) (fun (x:Nat×Nat)=>[(cm x.1 263 [(vP gw)]),(cm x.2 3 [(vI (b:Int))])]):=by
 refine dp kr Tryz.func212 U U fun E Q hQ hN=>?_
 try dsimp only
 refine WS fun _ A=>uP U U fun C=>uP U U fun D=>bo 1 U<|RK A<|WS fun _ B=>rS (FU U)<|rP 1 [] mn ?_
 refine RK B<|ar<|LX hQ (C,D) [1,0] [] mn U U U U ?_
 trivial
theorem Kv (gw b:Nat):
 lx Tryz.prog 207 [(vP gw),(vI (b:Int))] [] (fun (x:Nat×Nat)=>(Value.func (.func 211) [].toArray [(Value.pointer (some ⟨x.1,0,none⟩)),(Value.pointer (some ⟨x.2,0,none⟩))].toArray)) (fun (x:Nat×Nat)=>True) (fun (x:Nat×Nat)=>[(cm x.1 263 [(vP gw)]),(cm x.2 3 [(vI (b:Int))])]):=by
 refine dp kr Tryz.func207 U U fun E Q hQ hN=>?_
 try dsimp only
 refine WS fun _ A=>uP U U fun C=>uP U U fun D=>bo 1 U<|RK A<|WS fun _ B=>rS (FU U)<|rP 1 [] mn ?_
 refine RK B<|ar<|LX hQ (C,D) [1,0] [] mn U U U U ?_
 trivial
end
section
open Go.RowKit
theorem pd:uQ Tryz.prog 280 eG:=OV P2 (fun x y w=>P_ 9998 x y w) (fun x y h=>by cases x; cases y; simp [aF.cells] at h; simp [h]) (fun x=>by simp [aF.cells,Instr.sameBits]) (fun x w=>⟨_,rfl,fun p hp=>by
 simp only [bE,List.not_mem_nil,or_false] at hp
 rcases hp with rfl|rfl
 ·exact ⟨⟨_,eU cb U w⟩,_,mX⟩
 ·exact ⟨⟨_,eU cb U w⟩,_,mX⟩⟩)
theorem IQ (s:Int):
 er Tryz.prog 215 [(vI s)] [] (vA (aF.cells (fy s))):=by
 refine bI kr Tryz.func215 U U fun H Q hQ hN=>?_
 try dsimp only
 refine WS fun _ B=>AL U uk fun G=>RK B<|aj fun _ C=>WS fun _ D=>rP 2 [] mn ?_
 refine RK D<|cE U (aP fun A=>?_) (aO fun A=>?_)
 ·refine WS fun _ E=>rS (SX (bu (xs:=[(1,.const (vI 1))]) (cs:=(aF.cells (aF.mk 0 1))) U U (br Cd U)) U U)<|fW U sO U<|RK E<|ar<|IN hQ [0] (mc 0 U mn) U ?_
  unfold fy; first|rw [if_pos A]|rw [if_neg A]
 refine WK C<|WS fun _ F=>rS (SX (bu (xs:=[(0,.const (vI 1))]) (cs:=(aF.cells (aF.mk 1 0))) U U (br Cd U)) U U)<|fW U sO U<|RK F<|ar<|IN hQ [0] (mc 0 U mn) U ?_
 unfold fy; first|rw [if_pos A]|rw [if_neg A]
theorem wQ (x:aF) (y:aF) (hx:(0≤x.right∧x.right≤1000)∧0≤x.e9∧x.e9≤1000) (hy:(0≤y.right∧y.right≤1000)∧0≤y.e9∧y.e9≤1000):
 er Tryz.prog 214 [(vA (aF.cells x)),(vA (aF.cells y))] [] (vA (aF.cells (dC x y))):=by
 refine bI kr Tryz.func214 U U fun F Q hQ hN=>?_
 try dsimp only
 refine WS fun _ A=>fK U fun C=>fK U fun D=>AL U uk fun E=>RK A<|WS fun _ B=>rP 10 [0,1,0,1] (mc 2 U (mc 1 U mn)) ?_
 refine rS (SX (bu (xs:=[(0,.tmp 9),(1,.tmp 14)]) (cs:=(aF.cells (aF.mk (x.right+y.right) (x.e9+y.e9)))) U U (br Cd U)) U U)<|fW U sO U<|RK B<|ar ?_
 exact IN hQ [0] (mc 0 U mn) U U
theorem Pq (ln:bV) (ri:dL) (e:List Int) (tms:List TM) (e_A:OA) (e_C:Nat) (tb:List Nat) (t_A:OA) (t_C:Nat) (fs:List FM) (bs:List FM) (fb:List Nat) (f_A:OA) (f_C:Nat) (bb:List Nat) (b_A:OA) (b_C gw:Nat) (x:aF) (hx:(0≤x.right∧x.right≤1000)∧0≤x.e9∧x.e9≤1000) (hn:ri.ai.n≤1000):
 er Tryz.prog 213 [(vP gw),(vA (aF.cells x))] [(rd e_A e.length 1 (e.map iC)),(rd t_A tms.length 1 (List.zipWith gS tms tb)),(eX (aU sB tms tb)),(rd f_A fs.length 1 (List.zipWith gS fs fb)),(eX (aU oq fs fb)),(rd b_A bs.length 1 (List.zipWith gS bs bb)),(eX (aU oq bs bb)),(cm gw 274 (cu.cells (cu.mk ln ri (bq.mk e_A e.length e_C) (bq.mk t_A tms.length t_C) (bq.mk f_A fs.length f_C) (bq.mk b_A bs.length b_C))))] (vB (kQ (cQ ln ri e tms) x)):=by
 refine bI kr Tryz.func213 U U fun E Q hQ hN=>?_
 try dsimp only
 refine WS fun _ C=>fK U fun D=>bo 1 U<|RK C<|aj fun _ B=>dg cv 26 kr<|mw 3 [] (mc 0 U mn) U<|dS (SX (bQ U U) U U)<|dP 5 [] (mr 8 U mn) ?_
 refine jA (t:=13) U (aO fun A=>?_) (aP fun A=>?_)
 ·refine dP 17 [] mn ?_
  refine cM<|RK B<|ar<|Q1 hQ U U U ?_
  exact cB (bx (fun h=>A h.1)).symm
 refine lQ 1 U<|dS (SX (bQ U U) U U)<|mw 8 [0,1] (mr 8 U (mc 0 U mn)) U<|dS (SX (bQ U U) U U)<|dP 6 [] (mr 8 U mn) ?_
 refine cM<|RK B<|ar<|Q1 hQ U U U ?_
 exact cB (gi.2 ⟨fun h=>⟨A,h⟩,fun h=>h.2⟩)
end
section
open Go.RowKit
theorem Hm (ln:bV) (ri:dL) (e:List Int) (tms:List TM) (e_A:OA) (e_C:Nat) (tb:List Nat) (t_A:OA) (t_C:Nat) (fs:List FM) (bs:List FM) (fb:List Nat) (f_A:OA) (f_C:Nat) (bb:List Nat) (b_A:OA) (b_C gw:Nat) (b g1 g2:Nat) (mf:FM) (mb:FM) (hb:b<e.length) (hw:It (cQ ln ri e tms)) (htb:tb.length=tms.length) (hfw:xR (cQ ln ri e tms) fs) (hfb:fb.length=fs.length) (hbw:uT (cQ ln ri e tms) bs) (hbb:bb.length=bs.length) (hsg:ri.ai.n≤1000) (hm1:fs[b]? =some mf) (hm2:bs[b+1]? =some mb):
 Ev Tryz.prog 211 [] [(vP g1),(vP g2)] [(rd e_A e.length 1 (e.map iC)),(rd t_A tms.length 1 (List.zipWith gS tms tb)),(eX (aU sB tms tb)),(rd f_A fs.length 1 (List.zipWith gS fs fb)),(eX (aU oq fs fb)),(rd b_A bs.length 1 (List.zipWith gS bs bb)),(eX (aU oq bs bb)),(cm gw 274 (cu.cells (cu.mk ln ri (bq.mk e_A e.length e_C) (bq.mk t_A tms.length t_C) (bq.mk f_A fs.length f_C) (bq.mk b_A bs.length b_C)))),(cm g1 263 [(vP gw)]),(cm g2 3 [(vI (b:Int))])] ([]:List (Int×aa)) (fun ys x ys'=> ∃ q,q∈qm (cQ ln ri e tms) b mf mb∧x=PJ q∧ys'=ys++[q]) (fun ys=> ∀ q∈qm (cQ ln ri e tms) b mf mb,q∈ys):=by
 have Kx:e.length≤6:=hw.n
 have K0:tms.length=e.length:=hw.times
 have J6:fs.length=e.length+1:=hfw.len
 have J5:bs.length=e.length+1:=hbw.len
 refine uE kr Tryz.func211 U U fun l J Z A0 w0 Q hY FS Eq hQ hN=>?_
 try dsimp only
 refine WS fun _ Fd=>uP U U fun b2=>RK Fd<|WS fun _ Fn=>rP 2 [0,1] (mr 10 U (mr 11 U mn)) ?_
 refine cX (vg gw b) (aM) U fun y4 K4=>?_
 obtain ⟨C2,C3⟩:=y4
 try dsimp only
 refine RK Fn<|ay<|kN 4 U (by exact fun _ h=>h)<|kN 6 U (by exact fun _ h=>h)<|kN 8 U (by exact fun _ h=>h)<|kN 14 U (by exact fun _ h=>h) ?_
 refine oc (L0:=[(0,(Value.func (.yield l) #[] #[])),(1,(vP g1)),(2,(vP g2)),(3,(vP b2))]) (F:=[(rd e_A e.length 1 (e.map iC)).ro,(rd t_A tms.length 1 (List.zipWith gS tms tb)).ro,(eX (aU sB tms tb)).ro,(cm gw 274 (cu.cells (cu.mk ln ri (bq.mk e_A e.length e_C) (bq.mk t_A tms.length t_C) (bq.mk f_A fs.length f_C) (bq.mk b_A bs.length b_C)))).ro,(cm C2 263 [(vP gw)]),(cm C3 3 [(vI (b:Int))])]) (fun k (y:(List (Int×aa))×aw)=>(lX (cQ ln ri e tms) b mf mb k y.1)∧(J y.1 y.2)∧(Fo A0 w0 y.2)) (fun k y=>[(cm b2 277 [(Value.func (.yield l) #[] #[])]),y.2,(rd e_A e.length 1 (e.map iC)).ro,(rd t_A tms.length 1 (List.zipWith gS tms tb)).ro,(eX (aU sB tms tb)).ro,(rd f_A fs.length 1 (List.zipWith gS fs fb)).ro,(eX (aU oq fs fb)).ro,(rd b_A bs.length 1 (List.zipWith gS bs bb)).ro,(eX (aU oq bs bb)).ro,(cm gw 274 (cu.cells (cu.mk ln ri (bq.mk e_A e.length e_C) (bq.mk t_A tms.length t_C) (bq.mk f_A fs.length f_C) (bq.mk b_A bs.length b_C)))).ro,(cm g1 263 [(vP gw)]).ro,(cm g2 3 [(vI (b:Int))]).ro]) (fun c (z:aw)=>(c= .ret∧(Z z)∧(Fo A0 w0 z))) (fun _ z=>[(cm b2 277 [(Value.func (.yield l) #[] #[])]),z,(rd e_A e.length 1 (e.map iC)).ro,(rd t_A tms.length 1 (List.zipWith gS tms tb)).ro,(eX (aU sB tms tb)).ro,(rd f_A fs.length 1 (List.zipWith gS fs fb)).ro,(eX (aU oq fs fb)).ro,(rd b_A bs.length 1 (List.zipWith gS bs bb)).ro,(eX (aU oq bs bb)).ro,(cm gw 274 (cu.cells (cu.mk ln ri (bq.mk e_A e.length e_C) (bq.mk t_A tms.length t_C) (bq.mk f_A fs.length f_C) (bq.mk b_A bs.length b_C)))).ro,(cm g1 263 [(vP gw)]).ro,(cm g2 3 [(vI (b:Int))]).ro]) [6,7,8,9,10,11,12,13,14,15,16,17] [3,2,1,0,4,5] (([]:List (Int×aa)),A0) rfl rfl (ti ln ri e tms e_A e_C tb t_A t_C f_A fs.length f_C b_A bs.length b_C gw b C2 C3 I I) rfl rfl rfl (by exact ⟨lX.nil,FS,Eq⟩) (by simp only [List.forall_mem_cons,List.not_mem_nil,false_imp_iff,implies_true,and_true]; exact ⟨⟨_,aS (i:=0) rfl,(dV (bU _))⟩,⟨_,aS (i:=1) rfl,(dV (bU _))⟩,⟨_,aS (i:=2) rfl,(dV (bU _))⟩,⟨_,aS (i:=3) rfl,(dV (bU _))⟩,⟨_,aS (i:=4) rfl,(bU _)⟩,⟨_,aS (i:=5) rfl,(bU _)⟩⟩) (by rintro k x k2 ⟨o,_,rfl,_⟩; rfl) rfl (aT rfl) ?_ ?_ ?_ ?_
 rotate_left 1
 ·rintro LA k ⟨ys,A⟩ Ck An
  obtain ⟨X,Y,a⟩:=An
  try dsimp only at X Y a
  try dsimp only
  refine aG ?_
  refine hN _ _ _ (oW 0 U U<|ic (vs:=[]) trivial fun w hs=>KI 8 U (by exact lX.fin X Ck) Y a hs)
 ·rintro LE id A C0
  simp at C0
 ·rintro LT A C1
  obtain ⟨hc,Go,G1⟩:=C1
  try dsimp only
  refine hQ _ _ _ (oW 0 U U<|ic (vs:=[]) trivial fun w hs=>sP 8 U Go G1 hs)
 rintro k x k2 ⟨ys,A⟩ lr ra rb S w1 K8 Qr9 Hj hx AO GE B7 JR DV
 obtain ⟨o,ho,rfl,rfl⟩:=hx
 obtain ⟨X,Y,a⟩:=AO
 try dsimp only at X Y a
 try dsimp only
 refine WS fun _ A4=>rP 1 [] mn ?_
 refine RK A4<|al<|AL U dx fun Jm=>fW U cz U<|aD<|jT (fun _ _ h=>h) (aI [1,0,2,3,4,5,6,7,8,9,10,11,12,13])<|aR (GE _ _ ?_)
 refine ay<|aj fun _ A5=>dg cv 7 kr<|mw 1 [] (mr 12 U mn) U<|dS (SX (bQ U U) U U)<|dP 3 [0,1] (mr 11 U (mr 13 U mn)) ?_
 obtain ⟨ga,s⟩:=aH fb b I
 have Cp:(List.zipWith gS fs fb)[b]? =some (gS mf ga):=cT hm1 s
 refine dS (IA b U (aB 7 U) oR dc I I)<|dS (fX b 0 (Value.map (some ga)) U cb (aB 7 U) Cp U dc U)<|cM<|j1 (kV:=eG) (m:=bS iV mf) 8 U U pD U ⟨⟨(im eG ga (bS iV mf)),(bH hm1 s (by simp [oq])),U⟩,fun h=>h⟩ (show g9 _ (im eG ga (bS iV mf)).holds from cw 8 U (bH hm1 s (by simp [oq]))) U fun IR=>?_
 try dsimp only
 refine RK A5<|ay ?_
 have C:(∀ p∈mf,p∈mf)∧(nQ (cQ ln ri e tms) b mf mb o mf ys)∧(lX (cQ ln ri e tms) b mf mb k ys)∧(J ys A)∧(Fo A0 w0 A):=by exact ⟨fun p hp=>hp,nQ.start,X,Y,a⟩
 refine bK (ι:={z:FM×(List (Int×aa))×aw // (∀ p∈z.1,p∈mf)∧(nQ (cQ ln ri e tms) b mf mb o z.1 z.2.1)∧(lX (cQ ln ri e tms) b mf mb k z.2.1)∧(J z.2.1 z.2.2)∧(Fo A0 w0 z.2.2)}) [0,1,2,3,4,5,23] [1,2,3,5,6,7,8,9,10,11,12,13,14] U U (fun z=>[]) (fun z=>[(zh eG IR ga (bS iV mf) (bS iV z.1.1) none),z.1.2.2]) (fun _=>rfl) (fun _=>rfl) (fun z=>z.1.1.length) ⟨(mf,ys,A),C⟩ (dj.nil _) (aI [1,2,3,5,6,7,8,9,10,11,12,13,14,0,4]) ?_
 clear C
 rintro ⟨⟨left,ys,A⟩,⟨K,M,N,O,P⟩⟩ J15 A3
 try dsimp only at K M N O P
 try dsimp only
 refine WS fun _ j=>jw pd.inj (f:=iV) 13 U U U U (fun Do=>?_) (fun t v hm hn=>?_)
 ·refine rP 1 [] mn ?_
  refine RK j<|aj fun _ If=>bh U<|bD<|ab<|ab<|aA<|aG ?_
  exact B7 (ys,A) _ _ (by exact ⟨lX.next N M Do,O,P⟩) (aI [0,2,14,3,4,5,6,7,8,9,10,11,12])
 try dsimp only
 refine bo 1 U<|RK j<|aj fun _ A6=>aN U<|WK A6<|ay<|WS fun _ A7=>rS (SX (js 13 U U U) U U)<|bo 2 U<|AL U uk fun J2=>fW U sO U<|bo 1 U<|RK A7<|aj fun _ A8=>dg cv 8 kr<|mw 1 [] (mr 12 U mn) U<|dS (SX (bQ U U) U U)<|dP 4 [0,1] (mr 11 U (mr 13 U mn)) ?_
 obtain ⟨gb,AC⟩:=aH bb (b+1) I
 have Cx:(List.zipWith gS bs bb)[(b+1)]? =some (gS mb gb):=cT hm2 AC
 refine dS (IA (b+1) U (aB 9 U) oR dc I I)<|dS (fX (b+1) 0 (Value.map (some gb)) U cb (aB 9 U) Cx U dc U)<|cM<|j1 (kV:=eG) (m:=bS iV mb) 10 U U pD U ⟨⟨(im eG gb (bS iV mb)),(bH hm2 AC (by simp [oq])),U⟩,fun h=>h⟩ (show g9 _ (im eG gb (bS iV mb)).holds from cw 10 U (bH hm2 AC (by simp [oq]))) U fun Id=>?_
 try dsimp only
 refine RK A8<|ay ?_
 have C:(∀ p∈mb,p∈mb)∧(nU (cQ ln ri e tms) b mb o (t,v) mb ys)∧(nQ (cQ ln ri e tms) b mf mb o left ys)∧(lX (cQ ln ri e tms) b mf mb k ys)∧(J ys A)∧(Fo A0 w0 A):=by exact ⟨fun p hp=>hp,nU.start,M,N,O,P⟩
 refine bK (ι:={z:FM×(List (Int×aa))×aw // (∀ p∈z.1,p∈mb)∧(nU (cQ ln ri e tms) b mb o (t,v) z.1 z.2.1)∧(nQ (cQ ln ri e tms) b mf mb o left z.2.1)∧(lX (cQ ln ri e tms) b mf mb k z.2.1)∧(J z.2.1 z.2.2)∧(Fo A0 w0 z.2.2)}) [0,1,2,3,4,5,6,7,23,37] [1,2,3,4,5,6,7,8,9,10,11,12,13,14,15] U U (fun z=>[]) (fun z=>[(zh eG Id gb (bS iV mb) (bS iV z.1.1) none),z.1.2.2]) (fun _=>rfl) (fun _=>rfl) (fun z=>z.1.1.length) ⟨(mb,ys,A),C⟩ (dj.nil _) (aI [1,2,3,4,5,6,7,8,9,10,11,12,13,14,15,0,16]) ?_
 clear C
 rintro ⟨⟨l2,T,A2⟩,⟨B,D,E,G,H,AB⟩⟩ J23 V
 try dsimp only at B D E G H AB
 try dsimp only
 refine WS fun _ r=>jw pd.inj (f:=iV) 15 U U U U (fun EQ=>?_) (fun u z L Av=>?_)
 ·refine rP 1 [] mn ?_
  refine RK r<|aj fun _ In=>bh U<|bD<|ab<|ab<|aA<|aG<|hU 14 U fT U ?_
  refine aR (A3 ⟨((cJ left t),T,A2),⟨mI K,nQ.next hn hm E D EQ,G,H,AB⟩⟩ _ _ _ U (fg hm) (aT U) (aI [1,2,3,4,5,6,7,8,9,10,11,12,13,14,16]))
 try dsimp only
 refine bo 1 U<|RK r<|aj fun _ A9=>aN U<|WK A9<|ay<|WS fun _ BX=>rS (SX (js 15 U U U) U U)<|bo 2 U<|AL U uk fun J3=>fW U sO U<|rP 1 [] mn ?_
 refine RK BX<|aj fun _ B3=>dJ cv [17,18] [] [] [0,1,2,3,4,5,6,7,8,9,10,11,12,13,14,15,16,17] [] U U U U U<|eS U (MV U)<|eS U (UQ 13 U cb U)<|eS U (SX (bQ U U) U U)<|eS U (FA 10 U fw U)<|eS U (IL (vS e_A e.length e_C) 12 U cb U U)<|eS U (UQ 14 U cb U) ?_
 obtain ⟨y,hy⟩:=aH e b I
 have H1:=bJ iC hy
 refine eS U (IA b U (aB 5 U) cN dc I I)<|eS U (fX b 0 (vI y) U cb (aB 5 U) H1 U dc U) ?_
 have J7:=hw.least y (aS hy)
 have Ge:=Kk hw _ _ (hfw.mem hm1 (K _ hm))
 have GT:=Le hw (hbw.mem hm2 (B _ L))
 have J8:=uX o.1
 have J9:=hw.opt ho
 dsimp only at Ge GT
 refine eS U (BI U (iE ⟨I,I⟩))<|eS U (FA 0 U fw U)<|eS U (L1 (vI o.2.Lo) 3 U cb U U)<|eS U (MX U)<|eS U (MV U)<|eS U (FA 1 U fw U)<|eS U (L1 (vI o.2.Hi) 3 U cb U U)<|eS U (MN U)<|eS U (SX (bu (xs:=[(0,.tmp 54),(1,.tmp 58)]) (cs:=(aa.cells (aa.mk (max (v+y) o.2.Lo) (min z o.2.Hi)))) U U (br gG U)) U U)<|eT U<|cp U fun T30 B9=>AL U dx fun J4=>aD (B9 _ _ (aI [1,2,3,4,5,6,7,8,9,10,11,12,13,14,15,16,17,18]) ?_)
 refine cp U fun T32 Ci=>fW U cz U<|aD (Ci _ _ (aI [1,2,3,4,5,6,7,8,9,10,11,12,13,14,15,16,17,18]) ?_)
 refine fO U<|KK B3<|aj fun _ R=>dg cv 19 kr<|dP 6 [] (mc 0 U mn) ?_
 refine jA (t:=65) U (aO fun d=>?_) (aP fun d=>?_)
 ·refine lQ 3 U<|lQ 10 U<|cM<|rP 3 [] mn ?_
  refine RK R<|bh U<|ck<|aG<|hU 17 U fT U ?_
  refine aR (V ⟨((cJ l2 u),T,A2),⟨mI B,nU.skip Av L D (by exact Hw hy d),E,G,H,AB⟩⟩ _ _ _ U (fg L) (aT U) (aI [2,3,4,5,6,7,8,9,10,11,12,13,14,15,16,17,18]))
 refine dP 3 [0,1,2] (mr 14 U (mc 2 U (mc 1 U mn))) ?_
 have Kp:(0≤(dC t u).right∧(dC t u).right≤1000)∧0≤(dC t u).e9∧(dC t u).e9≤1000:=by simp only [dC]; omega
 have KY:(0≤(dC (dC t u) (fy o.1)).right∧(dC (dC t u) (fy o.1)).right≤1000)∧0≤(dC (dC t u) (fy o.1)).e9∧(dC (dC t u) (fy o.1)).e9≤1000:=by simp only [dC]; omega
 refine dS (CL (wQ t u I I) (aM) U)<|lQ 1 U<|dS (CL (IQ o.1) (aM) U)<|dS (CL (wQ (dC t u) (fy o.1) asm I) (aM) U)<|dS (CL (Pq ln ri e tms e_A e_C tb t_A t_C fs bs fb f_A f_C bb b_A b_C gw (dC (dC t u) (fy o.1)) asm hsg) (bk [6,7,8,9,10,11,12,13]) U)<|dP 2 [] mn ?_
 refine jA (t:=75) U (fun g=>?_) (fun g=>?_)
 ·refine lQ 3 U<|cM<|rP 3 [] mn ?_
  refine RK R<|bh U<|ck<|aG<|hU 17 U fT U ?_
  refine aR (V ⟨((cJ l2 u),T,A2),⟨mI B,nU.skip Av L D (by exact Iv g),E,G,H,AB⟩⟩ _ _ _ U (fg L) (aT U) (aI [2,3,4,5,6,7,8,9,10,11,12,13,14,15,16,17,18]))
 refine dP 3 [0,1] (mc 5 U (mc 0 U mn)) ?_
 refine cM<|kO (k:=T) (k':=(T++[(o.1,(aa.mk (max (v+y) o.2.Lo) (min z o.2.Hi)))])) 18 (by first|exact Hj|exact Nat.le_refl _) hY H AB U U U (by exact ⟨(o.1,_),ir.2 ⟨o,ho,(t,v),K _ hm,(u,z),B _ L,(C9 hy d g)⟩,U,U⟩) U U (fun B34 W AA=>?_) (fun B34 W AA=>?_)
 rotate_left 1
 ·refine rP 2 [] mn ?_
  refine RK R<|aN U<|ar ?_
  exact DV B34 _ _ (by exact ⟨U,W,AA⟩) (aI [3,5,18,6,7,8,9,10,11,12,13,14,15])
 refine rP 2 [] mn ?_
 refine RK R<|bh U<|ck<|aG<|hU 17 U fT U ?_
 refine aR (V ⟨((cJ l2 u),(T++[(o.1,(aa.mk (max (v+y) o.2.Lo) (min z o.2.Hi)))]),B34),⟨mI B,nU.U3 Av L D (C9 hy d g),E.app,G.app,W,AA⟩⟩ _ _ _ U (fg L) (aT U) (aI [2,3,4,5,6,7,8,9,10,11,12,13,14,15,16,17,18]))
end
section
open Go.RowKit
theorem Hr (ln:bV) (ri:dL) (e:List Int) (tms:List TM) (e_A:OA) (e_C:Nat) (tb:List Nat) (t_A:OA) (t_C:Nat) (fs:List FM) (bs:List FM) (fb:List Nat) (f_A:OA) (f_C:Nat) (bb:List Nat) (b_A:OA) (b_C gw:Nat) (hw:It (cQ ln ri e tms)) (hsg:ri.ai.n≤1000) (hn:ln.ae.n=e.length) (hfw:xR (cQ ln ri e tms) fs) (hfb:fb.length=fs.length):
 lx Tryz.prog 210 [(vP gw)] [(rd e_A e.length 1 (e.map iC)),(rd t_A tms.length 1 (List.zipWith gS tms tb)),(eX (aU sB tms tb)),(rd f_A fs.length 1 (List.zipWith gS fs fb)),(eX (aU oq fs fb)),(rd b_A bs.length 1 (List.zipWith gS bs bb)),(eX (aU oq bs bb)),(cm gw 274 (cu.cells (cu.mk ln ri (bq.mk e_A e.length e_C) (bq.mk t_A tms.length t_C) (bq.mk f_A fs.length f_C) (bq.mk b_A bs.length b_C))))] (fun (x:(OA)×Nat)=>(vS x.1 ((jU (cQ ln ri e tms)).length) x.2)) (fun (x:(OA)×Nat)=>True) (fun (x:(OA)×Nat)=>[(own x.1 x.2 3 1 ((jU (cQ ln ri e tms)).map iC))]):=by
 have y:e.length≤6:=hw.n
 have u:fs.length=e.length+1:=hfw.len
 refine dp kr Tryz.func210 U U fun w0 Q hQ hN=>?_
 try dsimp only
 refine WS fun _ X=>bo 1 U<|RK X<|WS fun _ Y=>bo 1 U<|RK Y<|aj fun _ Z=>WS fun _ b=>bo 1 U<|rS (SX (bQ U U) U U)<|rP 6 [] (mr 7 U mn) ?_
 refine RK b<|ay<|gl 3 1 ?_
 have A:(0≤e.length+1):=by exact Nat.zero_le _
 refine bK (ι:={z:Nat×(OA)×Nat // (z.1≤e.length+1)}) [0,12] [1,2,3,4,5,6,7,8] U U (fun z=>[(3,(vS z.1.2.1 ((kB (cQ ln ri e tms) z.1.1).length) z.1.2.2)),(13,(vI (z.1.1:Int)))]) (fun z=>[(own z.1.2.1 z.1.2.2 3 1 ((kB (cQ ln ri e tms) z.1.1).map iC))]) (fun _=>rfl) (fun _=>rfl) (fun z=>e.length+1-z.1.1) ⟨(0,none,0),A⟩ (aT U) (aI [1,2,3,4,5,6,7,8,0]) ?_
 clear A
 rintro ⟨⟨n,a,c⟩,G⟩ J5 AB
 try dsimp only at G
 try dsimp only
 refine WS fun _ d=>rP 1 [] mn ?_
 refine RK d<|aj fun _ g=>bO U (aO fun s=>?_) (aP fun s=>?_)
 ·refine bD<|ab<|ab<|aA<|KK Z<|WS fun _ P=>?_
  rw [show kB (cQ ln ri e tms) n=jU (cQ ln ri e tms) by (obtain rfl:n=e.length+1:=by omega); rfl]
  refine rP 2 [] mn ?_
  refine RK P<|ar<|LX hQ (a,c) [8] [] mn U U U U ?_
  trivial
 refine WK g<|aj fun _ R=>ay<|WS fun _ J=>bo 2 U<|RK J<|WS fun _ K=>bo 1 U<|rS (SX (bQ U U) U U)<|rP 3 [] (mr 7 U mn) ?_
 obtain ⟨m,B⟩:=aH fs n I
 obtain ⟨ma,hm0a⟩:=aH fb n I
 have hm0m:(List.zipWith gS fs fb)[n]? =some (gS m ma):=cT B hm0a
 refine rS (IA n U (aB 3 U) oR dc I I)<|rS (fX n 0 (Value.map (some ma)) U cb (aB 3 U) hm0m U dc U)<|j1 (kV:=eG) (m:=bS iV m) 4 U U pD U ⟨⟨(im eG ma (bS iV m)),(bH B hm0a (by simp [oq])),U⟩,fun h=>h⟩ (show g9 _ (im eG ma (bS iV m)).holds from cw 4 U (bH B hm0a (by simp [oq]))) U fun l=>?_
 try dsimp only
 refine RK K<|ay ?_
 have A:(∀ p∈m,p∈m)∧(∀ p∈m,p∈m∨kQ (cQ ln ri e tms) p.1=false):=by exact ⟨fun p hp=>hp,fun p hp=> .inl hp⟩
 refine bK (ι:={z:FM // (∀ p∈z,p∈m)∧(∀ p∈m,p∈z∨kQ (cQ ln ri e tms) p.1=false)}) [0,3,4,12,13,23] [1,2,3,4,5,6,7,8,9] U U (fun z=>[]) (fun z=>[(zh eG l ma (bS iV m) (bS iV z.1) none)]) (fun _=>rfl) (fun _=>rfl) (fun z=>z.1.length) ⟨m,A⟩ (dj.nil _) (aI [1,2,3,4,5,6,7,8,9,0]) ?_
 clear A
 rintro ⟨left,⟨C,D⟩⟩ J13 H
 try dsimp only
 refine WS fun _ F=>jw pd.inj (f:=iV) 9 U U U U (fun W=>?_) (fun t v hm i=>?_)
 ·refine bo 1 U<|RK F<|aj fun _ o=>bh U<|bD<|ab<|ab<|aA<|aG<|KK R<|al<|rP 2 [] mn ?_
  refine aD ?_
  rw [← HH (w:=(cQ ln ri e tms)) (k:=n) ((Cs (hfw.min _ _ B) (hfw.keys _ _ B)).symm.trans (Mp D W))]
  have S:(vI (((n+1):Nat):Int))=(vI ((n:Int)+1)):=by exact cI I
  refine aR (AB ⟨((n+1),a,c),(by first|omega|(simp only []; omega))⟩ _ _ _ U os (cR 3<|aY U S<|dj.nil _) (aI [0,1,2,3,4,5,6,7,8]))
 try dsimp only
 refine bo 1 U<|RK F<|aj fun _ L=>aN U<|WK L<|ay<|WS fun _ M=>rS (SX (js 9 U U U) U U)<|bo 1 U<|AL U uk fun q=>fW U sO U<|RK M<|WS fun _ N=>rP 2 [] (mc 0 U mn) ?_
 have j:=Kk hw _ _ (hfw.mem B (C _ hm))
 dsimp only at j
 refine rS (CL (Pq ln ri e tms e_A e_C tb t_A t_C fs bs fb f_A f_C bb b_A b_C gw t I hsg) (bk [1,2,3,4,5,6,7,8]) U)<|RK N<|bO U (fun E=>?_) (fun E=>?_)
 ·refine ck<|aG<|hU 10 U fT U ?_
  refine aR (H ⟨(cJ left t),⟨mI C,LR i hm D (by first|exact E|simpa using E)⟩⟩ _ _ _ U (fg hm) (aT U) (aI [1,2,3,4,5,6,7,8,9,10]))
 refine WS fun _ O=>rP 2 [] mn ?_
 refine du (xs:=[.tmp 32]) (cs:=[(vI (n:Int))]) U cN jv U U U U (by simp [Value.cells]) U U fun r=>?_
 have hy:jC (cQ ln ri e tms) (fwd (cQ ln ri e tms) n)=true:=(Cs (hfw.min _ _ B) (hfw.keys _ _ B)).symm.trans (M6 (C _ hm) E)
 refine cO (es2:=(List.map iC (kB (cQ ln ri e tms) (n+1)))) (m':=(kB (cQ ln ri e tms) (n+1)).length) 10 U U U pq U U sm (bp (es:=List.map iC [(n:Int)]) 0 U U (by simp [bM]) U) (jP _) (by have:=x5 (w:=(cQ ln ri e tms)) (k:=n); first|omega|(simp; omega)) (by have:=x5 (w:=(cQ ln ri e tms)) (k:=n); simp only [maxLen]; omega) (by rw [Fj hy]; simp) sm U fun AA V=>?_
 try dsimp only
 refine bo 1 U<|RK O<|bD<|iW U<|ab<|aA<|aG<|KK R<|al<|rP 2 [] mn ?_
 refine aD ?_
 have T:(vI (((n+1):Nat):Int))=(vI ((n:Int)+1)):=by exact cI I
 refine aR (AB ⟨((n+1),AA,V),(by first|omega|(simp only []; omega))⟩ _ _ _ U os (cR 3<|aY U T<|dj.nil _) (aI [2,3,4,5,6,7,8,9,10]))
end
section
open Go.RowKit
theorem Lv (ln:bV) (ri:dL) (e:List Int) (tms:List TM) (e_A:OA) (e_C:Nat) (tb:List Nat) (t_A:OA) (t_C gw:Nat) (hw:It (cQ ln ri e tms)) (hn:ln.ae.n=e.length) (htb:tb.length=tms.length):
 DS Tryz.prog 209 [(vP gw)] [(rd e_A e.length 1 (e.map iC)),(rd t_A tms.length 1 (List.zipWith gS tms tb)),(eX (aU sB tms tb))] (cm gw 274 (cu.cells (cu.mk ln ri (bq.mk e_A e.length e_C) (bq.mk t_A tms.length t_C) (bq.mk none 0 0) (bq.mk none 0 0)))) (fun (x:(List FM)×(List Nat)×(OA)×Nat×(List FM)×(List Nat)×(OA)×Nat)=>(vT [])) (fun (x:(List FM)×(List Nat)×(OA)×Nat×(List FM)×(List Nat)×(OA)×Nat)=>xR (cQ ln ri e tms) x.1∧uT (cQ ln ri e tms) x.2.2.2.2.1∧x.2.1.length=x.1.length∧x.2.2.2.2.2.1.length=x.2.2.2.2.1.length) (fun (x:(List FM)×(List Nat)×(OA)×Nat×(List FM)×(List Nat)×(OA)×Nat)=>(bB [(cm gw 274 (cu.cells (cu.mk ln ri (bq.mk e_A e.length e_C) (bq.mk t_A tms.length t_C) (bq.mk x.2.2.1 x.1.length x.2.2.2.1) (bq.mk x.2.2.2.2.2.2.1 x.2.2.2.2.1.length x.2.2.2.2.2.2.2)))),(own x.2.2.1 x.2.2.2.1 278 1 (List.zipWith gS x.1 x.2.1)),(bB (aU oq x.1 x.2.1)),(own x.2.2.2.2.2.2.1 x.2.2.2.2.2.2.2 278 1 (List.zipWith gS x.2.2.2.2.1 x.2.2.2.2.2.1)),(bB (aU oq x.2.2.2.2.1 x.2.2.2.2.2.1))])):=by
 have Wq:e.length≤6:=hw.n
 have Wr:tms.length=e.length:=hw.times
 refine mZ kr Tryz.func209 U U fun w0 Q hQ hN=>?_
 try dsimp only
 refine WS fun _ DV=>uP U U fun W=>RK DV<|WS fun _ EQ=>fG 1 [] (mc 0 U mn) U<|rS (SX (bQ U U) U U)<|rP 5 [] (mc 1 U mn) ?_
 refine RK EQ ?_
 refine oI (ι:={z:(OA)×(OA) // True}) [0,1,2] [0,2,3,4] U U (fun z=>[]) (fun z=>[(own z.1.1 (ln.ae.n+1) 278 1 (List.map oC (List.replicate (ln.ae.n+1) (none:Option Nat)))),(own z.1.2 (ln.ae.n+1) 278 1 (List.map oC (List.replicate (ln.ae.n+1) (none:Option Nat)))),(cm gw 274 (cu.cells (cu.mk ln ri (bq.mk e_A e.length e_C) (bq.mk t_A tms.length t_C) (bq.mk z.1.1 (ln.ae.n+1) (ln.ae.n+1)) (bq.mk z.1.2 (ln.ae.n+1) (ln.ae.n+1)))))]) (fun _=>rfl) (fun _=>rfl) ?_ fun K4 Eq=>?_
 ·rintro ⟨⟨fA,bA⟩,_⟩
  try dsimp only
  refine Da 6 U U fun wz Sz hz=>?_
  have Wn:(List.replicate (ln.ae.n+1) (none:Option Nat)).length=(ln.ae.n+1):=List.length_replicate
  try dsimp only
  refine oI (ι:={z:Nat // True}) [0,1,2] [0,1,2,3,4,6] U U (fun z=>[]) (fun z=>[(bB (aU oq [[((aF.mk 0 0),ri.Start)]] [z.1])),(own fA (ln.ae.n+1) 278 1 (List.map oC (eM [z.1] (ln.ae.n+1))))]) (fun _=>rfl) (fun _=>rfl) ?_ fun K5 UV=>?_
  ·rintro ⟨ga,_⟩
   try dsimp only
   refine aj fun _ FS=>WS fun _ Fd=>rP 2 [] mn ?_
   refine RK Fd<|ay<|lY ?_
   have C:(0≤ln.ae.n)∧(([[((aF.mk 0 0),ri.Start)]]).length=0+1)∧(([ga]).length=0+1)∧(qw (cQ ln ri e tms) ([[((aF.mk 0 0),ri.Start)]])):=by exact ⟨Nat.zero_le _,rfl,rfl,qw.first⟩
   refine wF (ι:={z:Nat×(List FM)×(List Nat)×(List Nat) // (z.1≤ln.ae.n)∧(z.2.1.length=z.1+1)∧(z.2.2.1.length=z.1+1)∧(qw (cQ ln ri e tms) z.2.1)}) (fun z=>z.1.2.2.2.map lT) (fun z=>[(0,(vP gw)),(1,(vP W)),(2,(vI (ln.ae.n:Int))),(52,(vI (ln.ae.n:Int))),(53,(vI (z.1.1:Int)))]) (fun z=>[(bB (z.1.2.2.2.map l7)),(cm gw 274 (cu.cells (cu.mk ln ri (bq.mk e_A e.length e_C) (bq.mk t_A tms.length t_C) (bq.mk fA (ln.ae.n+1) (ln.ae.n+1)) (bq.mk bA (ln.ae.n+1) (ln.ae.n+1))))).ro,(cm W 263 [(vP gw)]),(rd e_A e.length 1 (e.map iC)).ro,(rd t_A tms.length 1 (List.zipWith gS tms tb)).ro,(eX (aU sB tms tb)).ro,(own bA (ln.ae.n+1) 278 1 (List.map oC (List.replicate (ln.ae.n+1) (none:Option Nat)))),(bB (aU oq z.1.2.1 z.1.2.2.1)),(own fA (ln.ae.n+1) 278 1 (List.map oC (eM z.1.2.2.1 (ln.ae.n+1))))]) (fun z=>ln.ae.n-z.1.1) ⟨(0,[[((aF.mk 0 0),ri.Start)]],[ga],([]:List Nat)),C⟩ U (aT U) (aI [0,1,2,3,4,5,6,7,8]) ?_
   clear C
   rintro ⟨⟨b,fs,fb,TO⟩,⟨In,A4,JR,M⟩⟩ J8 T6
   try dsimp only at In A4 JR M
   try dsimp only
   have Wo:(eM fb (ln.ae.n+1)).length=(ln.ae.n+1):=se I
   refine WS fun _ Fn=>rP 1 [] mn ?_
   refine RK Fn<|aj fun _ AO=>cE U (aP fun T2=>?_) (aO fun T2=>?_)
   ·refine WK AO<|aj fun _ LA=>ay<|WS fun _ LE=>rP 1 [] mn ?_
    refine AL U jv fun s=>HA U DM U U<|RK LE<|aj fun _ LT=>dJ cv [6,8] [6] [0] [0,1,2,3,4,5,6,7,8] [0,1,2,3,4,5,6,7,8,9] U U U U U<|eS U (Eg 3 U cb U)<|eS U (SX (bQ U U) U U)<|eS U (FA 12 U fw U)<|eS U (IL (vS fA (ln.ae.n+1) (ln.ae.n+1)) 2 U cb U U)<|eS U (Eg 0 U cb U)<|eS U (BI U (iE ⟨I,I⟩)) ?_
    obtain ⟨WG,ST⟩:=aH (eM fb (ln.ae.n+1)) (b+1) I
    have hx17m:(List.map oC (eM fb (ln.ae.n+1)))[(b+1)]? =some (oC WG):=by rw [fP,ST]; rfl
    refine fS U (IA (b+1) U (ag (n:=(ln.ae.n+1)) 9 U sq) oR dc I I) ?_
    refine eT U<|gP U fun T18 Qr=>nR (kV:=eG) U U fun B=>?_
    try dsimp only
    refine aD (Qr _ _ (aI [1,2,3,4,5,6,7,8,9]) (aI [1,2,3,4,5,6,7,8,9,10]) ?_)
    refine cp U fun T20 Q_=>?_
    have R1:((eM fb (ln.ae.n+1)).set (b+1) (some B))=(eM (fb++[B]) (ln.ae.n+1)):=by exact vv I I
    refine dI (k:=(b+1)) (o:=0) (vs:=[(Value.map (some B))]) (es':=(List.map oC (eM (fb++[B]) (ln.ae.n+1)))) (C':=[_,_,_,_,_,_,_,_,_,_,(own fA (ln.ae.n+1) 278 1 (List.map oC (eM (fb++[B]) (ln.ae.n+1))))]) 10 U U U Mu U U U U hx17m U dc (by exact (List.map_set (f:=oC) (l:=(eM fb (ln.ae.n+1))) (i:=(b+1)) (a:=(some B))).symm.trans (congrArg _ R1)) U<|aD (Q_ _ _ (aI [1,2,3,4,5,6,7,8,9]) ?_)
    refine fO U<|KK LT<|aj fun _ La=>?_
    have Vw:(eM (fb++[B]) (ln.ae.n+1)).length=(ln.ae.n+1):=se (by simp; omega)
    obtain ⟨mb,N⟩:=aH fs b I
    obtain ⟨ga,Z⟩:=aH fb b I
    refine GH 9 N Z U U U ?_
    try dsimp only
    refine dg cv 7 kr<|mw 1 [] (mc 6 U mn) U<|dS (SX (bQ U U) U U)<|dP 3 [0,1] (mr 5 U (mc 3 U mn)) ?_
    have R5:(List.map oC (eM (fb++[B]) (ln.ae.n+1)))[b]? =some (oC (some ga)):=sR (pz (Kq Z))
    refine dS (IA b U (ag (n:=(ln.ae.n+1)) 11 U sq) oR dc I I) ?_
    refine dS (fX b 0 (Value.map (some ga)) U cb (ag (n:=(eM (fb++[B]) (ln.ae.n+1)).length) 11 U sm) R5 U dc U)<|cM<|vh 0 U U pD U U fun B3=>?_
    try dsimp only
    refine RK La<|ay ?_
    have C:(∀ p∈mb,p∈mb)∧(xC (cQ ln ri e tms) b ([]:FM))∧(ke (cQ ln ri e tms) b mb ([]:FM) mb):=by exact ⟨fun p hp=>hp,xC.start,ke.start⟩
    refine wF (ι:={z:FM×FM×(List Nat) // (∀ p∈z.1,p∈mb)∧(xC (cQ ln ri e tms) b z.2.1)∧(ke (cQ ln ri e tms) b mb z.2.1 z.1)}) (fun z=>z.1.2.2.map lT) (fun z=>[(0,(vP gw)),(1,(vP W)),(2,(vI (ln.ae.n:Int))),(3,(vP s)),(52,(vI (ln.ae.n:Int))),(53,(vI (b:Int))),(71,(vP B3))]) (fun z=>[(zO eG B3 ga (bS iV mb) (bS iV z.1.1) none),(bB (fJ oq fs fb b)),(im eG B (bS iV z.1.2.1)),(cm s 3 [(vI (b:Int))]),(bB (z.1.2.2.map l7)),(cm gw 274 (cu.cells (cu.mk ln ri (bq.mk e_A e.length e_C) (bq.mk t_A tms.length t_C) (bq.mk fA (ln.ae.n+1) (ln.ae.n+1)) (bq.mk bA (ln.ae.n+1) (ln.ae.n+1))))).ro,(cm W 263 [(vP gw)]),(rd e_A e.length 1 (e.map iC)).ro,(rd t_A tms.length 1 (List.zipWith gS tms tb)).ro,(eX (aU sB tms tb)).ro,(own bA (ln.ae.n+1) 278 1 (List.map oC (List.replicate (ln.ae.n+1) (none:Option Nat)))),(own fA (ln.ae.n+1) 278 1 (List.map oC (eM (fb++[B]) (ln.ae.n+1))))]) (fun z=>z.1.1.length) ⟨(mb,([]:FM),TO),C⟩ U (aT U) (aI [0,1,2,3,4,5,6,7,8,9,10,11]) ?_
    clear C
    rintro ⟨⟨left,m,A5⟩,⟨c,d,g⟩⟩ J26 K0
    try dsimp only at c d g
    try dsimp only
    refine WS fun _ Ci=>tg pd.inj (f:=iV) 0 U U U U (fun T4=>?_) (fun t v hm Jm=>?_)
    ·refine bo 1 U<|RK Ci<|aj fun _ WR=>bh U<|bD<|ab<|ab<|aA<|aG<|KK LA<|al<|rP 2 [] mn ?_
     refine aD<|Mb (C':=[(im eG ga (bS iV mb)),(bB (fJ oq fs fb b)),(im eG B (bS iV m)),(cm s 3 [(vI (b:Int))]),(bB (A5.map l7)),(cm gw 274 (cu.cells (cu.mk ln ri (bq.mk e_A e.length e_C) (bq.mk t_A tms.length t_C) (bq.mk fA (ln.ae.n+1) (ln.ae.n+1)) (bq.mk bA (ln.ae.n+1) (ln.ae.n+1))))).ro,(cm W 263 [(vP gw)]),(rd e_A e.length 1 (e.map iC)).ro,(rd t_A tms.length 1 (List.zipWith gS tms tb)).ro,(eX (aU sB tms tb)).ro,(own bA (ln.ae.n+1) 278 1 (List.map oC (List.replicate (ln.ae.n+1) (none:Option Nat)))),(own fA (ln.ae.n+1) 278 1 (List.map oC (eM (fb++[B]) (ln.ae.n+1))))]) 0 U KD U<|Jx 1 0 N Z U U U ?_
     try dsimp only
     refine Ai (X':=aU oq (fs++[m]) (fb++[B])) 0 1 U U (zB I U) ?_
     try dsimp only
     have R2:(vI (((b+1):Nat):Int))=(vI ((b:Int)+1)):=by exact cI I
     refine aR (T6 ⟨((b+1),(fs++[m]),(fb++[B]),A5),⟨I,by simp; omega,by simp; omega,M.add A4 N d g T4⟩⟩ _ _ _ U os (cR 4<|aY U R2<|dj.nil _) (aI [2,3,4,5,6,7,8,0,9]))
    try dsimp only
    refine bo 1 U<|RK Ci<|aj fun _ Lf=>aN U<|WK Lf<|ay<|WS fun _ Li=>rS (SX (sW 0 U U U) U U)<|bo 2 U<|AL U uk fun J4=>AL U jv fun J5=>sj U sO U<|HA U DM U U<|RK Li<|WS fun _ Lk=>rP 2 [0,1] (mc 8 U (mc 5 U mn)) ?_
    refine cX (vg gw b) (aM) U fun WM WV=>?_
    obtain ⟨Cx,C2⟩:=WM
    try dsimp only
    refine RK Lk<|ay<|kN 11 U (by exact fun _ h=>h)<|kN 13 U (by exact fun _ h=>h)<|kN 15 U (by exact fun _ h=>h)<|kN 12 U (by exact fun _ h=>h) ?_
    refine oc (L0:=[(0,(vP gw)),(1,(vP W)),(2,(vI (ln.ae.n:Int))),(3,(vP s)),(4,(vP J4)),(5,(vP J5)),(52,(vI (ln.ae.n:Int))),(53,(vI (b:Int))),(71,(vP B3))]) (F:=[(rd e_A e.length 1 (e.map iC)).ro,(rd t_A tms.length 1 (List.zipWith gS tms tb)).ro,(eX (aU sB tms tb)).ro,(cm gw 274 (cu.cells (cu.mk ln ri (bq.mk e_A e.length e_C) (bq.mk t_A tms.length t_C) (bq.mk fA (ln.ae.n+1) (ln.ae.n+1)) (bq.mk bA (ln.ae.n+1) (ln.ae.n+1))))).ro,(cm Cx 263 [(vP gw)]),(cm C2 3 [(vI (b:Int))])]) (fun k (y:FM)=>(nO (cQ ln ri e tms) b mb left y (t,v) k)) (fun k y=>[(cm J5 3 [(vI v)]),(cm J4 280 (aF.cells t)),(zO eG B3 ga (bS iV mb) (bS iV (cJ left t)) (some (t,(vI v)))),(bB (fJ oq fs fb b)),(im eG B (bS iV y)),(cm s 3 [(vI (b:Int))]),(bB (A5.map l7)),(cm gw 274 (cu.cells (cu.mk ln ri (bq.mk e_A e.length e_C) (bq.mk t_A tms.length t_C) (bq.mk fA (ln.ae.n+1) (ln.ae.n+1)) (bq.mk bA (ln.ae.n+1) (ln.ae.n+1))))).ro,(cm W 263 [(vP gw)]),(rd e_A e.length 1 (e.map iC)).ro,(rd t_A tms.length 1 (List.zipWith gS tms tb)).ro,(eX (aU sB tms tb)).ro,(own bA (ln.ae.n+1) 278 1 (List.map oC (List.replicate (ln.ae.n+1) (none:Option Nat)))),(own fA (ln.ae.n+1) 278 1 (List.map oC (eM (fb++[B]) (ln.ae.n+1))))]) (fun _ (_:Unit)=>False) (fun _ _=>[]) [6,7,8,9,10,11,12,13,14,15,16,17,18,19] [3,2,1,0,4,5] m rfl rfl (ti ln ri e tms e_A e_C tb t_A t_C fA (ln.ae.n+1) (ln.ae.n+1) bA (ln.ae.n+1) (ln.ae.n+1) gw b Cx C2 I I) rfl rfl rfl (by exact nO.start d g) (by simp only [List.forall_mem_cons,List.not_mem_nil,false_imp_iff,implies_true,and_true]; exact ⟨⟨_,aS (i:=0) rfl,(dV (bU _))⟩,⟨_,aS (i:=1) rfl,(dV (bU _))⟩,⟨_,aS (i:=2) rfl,(dV (bU _))⟩,⟨_,aS (i:=3) rfl,(dV (bU _))⟩,⟨_,aS (i:=4) rfl,(bU _)⟩,⟨_,aS (i:=5) rfl,(bU _)⟩⟩) (by rintro k x k2 ⟨o,_,rfl,_⟩; rfl) rfl (aT rfl) ?_ ?_ (fun _ _ _ h=>h.elim) (fun _ _ h=>h.elim)
    rotate_left 1
    ·rintro WF k O A3 H1
     have D:=H1
     try dsimp only
     refine aG<|aG<|K6 (X:=A5.map l7) 13 0 U U ?_
     try dsimp only
     refine hU 9 U yL U ?_
     refine aR (K0 ⟨((cJ left t),O,(WF::A5)),⟨mI c,D.on,D.next Jm hm A3⟩⟩ _ _ _ U (fg hm) (aT U) (aI [9,10,11,12,0,4,14,1,2,3,18,19]))
    rintro k x k2 O l ra rb S w1 K39 Qr40 WC hx Hj L2 H WI WO
    obtain ⟨o,ho,rfl,rfl⟩:=hx
    have D:=Hj
    try dsimp only
    refine WS fun _ L3=>rP 1 [] mn ?_
    refine RK L3<|al<|AL U dx fun WX=>fW U cz U<|aD<|jT (fun _ _ h=>h) (aI [1,0,2,3,4,5,6,7,8,9,10,11,12,13,14,15])<|aR (L2 _ _ ?_)
    refine ay<|aj fun _ Ms=>dJ cv [16,18] [] [] [0,1,2,3,4,5,6,7,8,9,10,11,12,13,14,15] [] U U U U U<|eS U (Eg 2 U cb U)<|eS U (Eg 10 U cb U)<|eS U (SX (bQ U U) U U)<|eS U (FA 10 U fw U)<|eS U (IL (vS e_A e.length e_C) 9 U cb U U)<|eS U (Eg 7 U cb U) ?_
    obtain ⟨y,hy⟩:=aH e b I
    have J2:=bJ iC hy
    refine eS U (IA b U (aB 11 U) cN dc I I)<|eS U (fX b 0 (vI y) U cb (aB 11 U) J2 U dc U) ?_
    have Vf:=hw.least y (aS hy)
    have hp:=M.mem N (c _ hm)
    have VO:=Kk hw _ _ hp
    have V6:=uX o.1
    have WB:=hw.opt ho
    have Wp:=hw.now
    dsimp only at VO
    refine eS U (BI U (iE ⟨I,I⟩))<|eS U (FA 0 U fw U)<|eS U (L1 (vI o.2.Lo) 1 U cb U U)<|eS U (MX U)<|eS U (LW 3 U cb U U)<|eS U (MV U)<|eS U (CL (IQ o.1) (aM) U)<|eS U (CL (wQ t (fy o.1) I I) (aM) U)<|eS U (AG U)<|eT U<|cp U fun T45 RG=>AL U uk fun WY=>aD (RG _ _ (aI [1,2,3,4,5,6,7,8,9,10,11,12,13,14,15,16]) ?_)
    refine cp U fun T47 RH=>fW U sO U<|aD (RH _ _ (aI [1,2,3,4,5,6,7,8,9,10,11,12,13,14,15,16]) ?_)
    refine fO U<|KK Ms<|aj fun _ M2=>dg cv 15 kr<|mw 1 [] (mc 11 U mn) U<|dS (SX (bQ U U) U U)<|dP 4 [0,1] (mr 10 U (mc 8 U mn)) ?_
    have R6:(List.map oC (eM (fb++[B]) (ln.ae.n+1)))[(b+1)]? =some (oC (some B)):=sR (pz (Ba I))
    refine dS (IA (b+1) U (ag (n:=(ln.ae.n+1)) 16 U sq) oR dc I I) ?_
    refine dS (fX (b+1) 0 (Value.map (some B)) U cb (ag (n:=(eM (fb++[B]) (ln.ae.n+1)).length) 16 U sm) R6 U dc U)<|mw 1 [] (mc 0 U mn) U<|dS (SX (j3 (kV:=eG) (x:=(dC t (fy o.1))) (l:=O) (f:=iV) (z:=0) U U U pD pd V5 (by exact aB 7 U)) U U)<|lQ 5 U<|cM<|RK M2<|aj fun _ An=>dg cv 19 kr<|mw 4 [0,1] (mc 2 U (mc 11 U mn)) U<|dS (SX (bQ U U) U U)<|mw 3 [] (mr 10 U mn) U<|dS (MN U)<|dP 2 [] mn ?_
    refine jA (t:=121) U (aO fun P=>?_) (aP fun P=>?_)
    ·refine dP 8 [] mn ?_
     refine cM<|RK An<|bh U<|ck<|aG ?_
     exact H O _ _ (by exact D.skip (LB hy P)) (aI [1,3,4,5,6,7,8,9,10,11,12,13,14,15,16])
    refine dP 3 [] mn ?_
    refine jh (t:=124) U (fun R=>?_) (fun R=>?_)
    ·rw [Bool.not_eq_true'] at R
     refine lQ 5 U<|cM<|RK An<|aN U<|dg cv 10 kr<|mw 1 [] (mc 11 U mn) U<|dS (SX (bQ U U) U U)<|dP 4 [0,1] (mr 10 U (mc 8 U mn)) ?_
     have R7:(List.map oC (eM (fb++[B]) (ln.ae.n+1)))[(b+1)]? =some (oC (some B)):=sR (pz (Ba I))
     refine dS (IA (b+1) U (ag (n:=(ln.ae.n+1)) 16 U sq) oR dc I I) ?_
     refine dS (fX (b+1) 0 (Value.map (some B)) U cb (ag (n:=(eM (fb++[B]) (ln.ae.n+1)).length) 16 U sm) R7 U dc U)<|dP 2 [] (mc 0 U mn) ?_
     refine cM<|jl (kV:=eG) (x:=(dC t (fy o.1))) (C':=[_,_,_,_,_,_,_,(im eG B (bS iV (eP O (dC t (fy o.1)) (max (v+y) o.2.Lo)))),_,_,_,_,_,_,_,_,_]) 7 U U U U pD pd U (gX _ _ _ _).symm U<|aD<|aG ?_
     exact H (eP O (dC t (fy o.1)) (max (v+y) o.2.Lo)) _ _ (by exact D.set hp ho (Bo hy P) (.inl (by simpa using R))) (aI [1,3,4,5,6,7,8,9,10,11,12,13,14,15,16])
    rw [Bool.not_eq_false'] at R
    refine dP 5 [] mn ?_
    refine cM<|RK An<|bO U (aO fun u=>?_) (aP fun u=>?_)
    ·refine ck<|aG ?_
     exact H O _ _ (by exact D.oY (Bo hy P) (by simpa using R) u) (aI [1,3,4,5,6,7,8,9,10,11,12,13,14,15,16])
    refine dg cv 10 kr<|mw 1 [] (mc 11 U mn) U<|dS (SX (bQ U U) U U)<|dP 4 [0,1] (mr 10 U (mc 8 U mn)) ?_
    have R8:(List.map oC (eM (fb++[B]) (ln.ae.n+1)))[(b+1)]? =some (oC (some B)):=sR (pz (Ba I))
    refine dS (IA (b+1) U (ag (n:=(ln.ae.n+1)) 16 U sq) oR dc I I) ?_
    refine dS (fX (b+1) 0 (Value.map (some B)) U cb (ag (n:=(eM (fb++[B]) (ln.ae.n+1)).length) 16 U sm) R8 U dc U)<|dP 2 [] (mc 0 U mn) ?_
    refine cM<|jl (kV:=eG) (x:=(dC t (fy o.1))) (C':=[_,_,_,_,_,_,_,(im eG B (bS iV (eP O (dC t (fy o.1)) (max (v+y) o.2.Lo)))),_,_,_,_,_,_,_,_,_]) 7 U U U U pD pd U (gX _ _ _ _).symm U<|aD<|aG ?_
    exact H (eP O (dC t (fy o.1)) (max (v+y) o.2.Lo)) _ _ (by exact D.set hp ho (Bo hy P) (.inr u)) (aI [1,3,4,5,6,7,8,9,10,11,12,13,14,15,16])
   refine bD<|ab<|ab<|aA<|KK FS<|WS fun _ Av=>rP 1 [] mn ?_
   refine AL U jv fun Tv=>HA U DM U U<|RK Av<|ay ?_
   rw [Is]
   refine lY ?_
   have C:(0≤ln.ae.n+1)∧(([]:List FM).length=0)∧(([]:List Nat).length=0)∧(ig (cQ ln ri e tms) (ln.ae.n+1-0) ([]:List FM)):=by exact ⟨Nat.zero_le _,rfl,rfl,ig.none_⟩
   refine wF (ι:={z:Nat×(List FM)×(List Nat)×Nat×(List Nat) // (z.1≤ln.ae.n+1)∧(z.2.1.length=z.1)∧(z.2.2.1.length=z.1)∧(ig (cQ ln ri e tms) (ln.ae.n+1-z.1) z.2.1)}) (fun z=>z.1.2.2.2.2.map lT) (fun z=>[(0,(vP gw)),(1,(vP W)),(2,(vI (ln.ae.n:Int))),(12,(Value.pointer (some ⟨z.1.2.2.2.1,0,none⟩)))]) (fun z=>[(bB (aU oq z.1.2.1 z.1.2.2.1)),(cm z.1.2.2.2.1 3 [(vI ((ln.ae.n:Int)-(z.1.1:Int)))]),(bB (z.1.2.2.2.2.map l7)),(cm gw 274 (cu.cells (cu.mk ln ri (bq.mk e_A e.length e_C) (bq.mk t_A tms.length t_C) (bq.mk fA (ln.ae.n+1) (ln.ae.n+1)) (bq.mk bA (ln.ae.n+1) (ln.ae.n+1))))).ro,(cm W 263 [(vP gw)]),(rd e_A e.length 1 (e.map iC)).ro,(rd t_A tms.length 1 (List.zipWith gS tms tb)).ro,(eX (aU sB tms tb)).ro,(own bA (ln.ae.n+1) 278 1 (List.map oC (ib z.1.2.2.1 (ln.ae.n+1)))),(bB (aU oq fs fb)),(own fA (ln.ae.n+1) 278 1 (List.map oC (eM fb (ln.ae.n+1))))]) (fun z=>ln.ae.n+1-z.1.1) ⟨(0,([]:List FM),([]:List Nat),Tv,TO),C⟩ U (aT U) (aI [0,1,2,3,4,5,6,7,8,9,10]) ?_
   clear C
   rintro ⟨⟨j,bs,bb,gq,q⟩,⟨A8,A9,BX,E⟩⟩ J57 B9
   try dsimp only at A8 A9 BX E
   try dsimp only
   refine aj fun _ A0=>WS fun _ A1=>rP 2 [] (mc 1 U mn) ?_
   refine RK A1<|bO U (aO fun KY=>?_) (aP fun KY=>?_)
   ·refine bD<|ab<|ab<|aA ?_
    rw [show (List.map oC (eM fb (ln.ae.n+1)))=(List.zipWith gS fs fb) from by rw [Ae I]; exact (Bd I).symm]
    rw [show (List.map oC (ib bb (ln.ae.n+1)))=(List.zipWith gS bs bb) from by rw [HK I]; exact (Bd I).symm]
    refine Bj (C1:=[(own fA (ln.ae.n+1) 278 1 (List.zipWith gS fs fb)),(bB (aU oq fs fb)),(own bA (ln.ae.n+1) 278 1 (List.zipWith gS bs bb)),(bB (aU oq bs bb)),(bB (q.map l7))]) hz [10,9,8,0,2] U U (by simp only [fz,List.all_nil,KE,M_,Bool.and_true]; rfl) ?_
    rw [show (cm gw 274 (cu.cells (cu.mk ln ri (bq.mk e_A e.length e_C) (bq.mk t_A tms.length t_C) (bq.mk fA (ln.ae.n+1) (ln.ae.n+1)) (bq.mk bA (ln.ae.n+1) (ln.ae.n+1)))))=(cm gw 274 (cu.cells (cu.mk ln ri (bq.mk e_A e.length e_C) (bq.mk t_A tms.length t_C) (bq.mk fA fs.length (ln.ae.n+1)) (bq.mk bA bs.length (ln.ae.n+1))))) from by rw [show fs.length=(ln.ae.n+1) from by omega,show bs.length=(ln.ae.n+1) from by omega]]
    refine RE [(cm gw 274 (cu.cells (cu.mk ln ri (bq.mk e_A e.length e_C) (bq.mk t_A tms.length t_C) (bq.mk fA fs.length (ln.ae.n+1)) (bq.mk bA bs.length (ln.ae.n+1))))),(own fA (ln.ae.n+1) 278 1 (List.zipWith gS fs fb)),(bB (aU oq fs fb)),(own bA (ln.ae.n+1) 278 1 (List.zipWith gS bs bb)),(bB (aU oq bs bb))] [(bB (q.map l7))] ?_
    refine hN _ _ _ (Kl 1 U U<|ic (vs:=[]) trivial fun w hs=>TE (fs,fb,fA,(ln.ae.n+1),bs,bb,bA,(ln.ae.n+1)) 0 ?_ ?_ U (by show List.all _ _=true; simp only [fz,List.all_nil,KE,Bool.and_true]; rfl) hs)
    ·clear hs w hQ hN A1 A0 Av AO Fn Fd FS EQ DV; rfl
    ·clear hs w hQ hN A1 A0 Av AO Fn Fd FS EQ DV; exact ⟨M.ok (by show fs.length=e.length+1; omega),ig.ok (by have:=E; rwa [show ln.ae.n+1-j=0 by omega] at this) (by show bs.length=e.length+1; omega),dso,dso⟩
   refine WK A0<|aj fun _ Ck=>ay<|aj fun _ NE=>?_
   obtain ⟨b,Wb⟩: ∃ b:Nat,b+j=ln.ae.n:=⟨ln.ae.n-j,I⟩
   rw [show (ln.ae.n:Int)-(j:Int)=(b:Int) from by omega]
   have WU:(ib bb (ln.ae.n+1)).length=(ln.ae.n+1):=Ah I
   refine dJ cv [5,12,13,15] [11] [0,1,2] [0,1,2,3,4,5,6,7,9,10] [0,1,2,3,4,5,6,7,8,9,10] U U U U U<|eS U (Eg 4 U cb U)<|eS U (SX (bQ U U) U U)<|eS U (FA 13 U fw U)<|eS U (IL (vS bA (ln.ae.n+1) (ln.ae.n+1)) 3 U cb U U)<|eS U (Eg 1 U cb U)<|eS U (SX (bu (xs:=[]) (cs:=(aF.cells (aF.mk 0 0))) U U (br Cd U)) U U)<|eS U (Eg 4 U cb U)<|eS U (SX (bQ U U) U U)<|eS U (FA 7 U fw U)<|eS U (FA 8 U fw U)<|eS U (IL (vI ri.fZ) 3 U cb U U) ?_
   obtain ⟨WH,S1⟩:=aH (ib bb (ln.ae.n+1)) b I
   have hx63m:(List.map oC (ib bb (ln.ae.n+1)))[b]? =some (oC WH):=by rw [fP,S1]; rfl
   refine fS U (IA b U (ag (n:=(ln.ae.n+1)) 8 U sq) oR dc I I) ?_
   refine eT U<|gP U fun T64 RP=>nR (kV:=eG) U U fun A=>?_
   try dsimp only
   refine aD (RP _ _ (aI [1,2,3,4,5,6,7,8,10,11]) (aI [1,2,3,4,5,6,7,8,9,10,11]) ?_)
   refine gP U fun T66 RS=>?_
   have R3:(eP ([]:List (aF×Int)) (aF.mk 0 0) ri.fZ)=[((aF.mk 0 0),ri.fZ)]:=by rfl
   refine zJ (kV:=eG) (x:=(aF.mk 0 0)) (C':=[(im eG A (bS iV ([((aF.mk 0 0),ri.fZ)]))),_,_,_,_,_,_,_,_,_,_,_]) 0 U U U U pD pd U ((gX _ _ _ _).symm.trans (congrArg _ R3)) U<|aD (RS _ _ (aI [1,2,3,4,5,6,7,8,10,11]) (aI [1,2,3,4,5,6,7,8,9,10,11]) ?_)
   refine gP U fun T68 RZ=>rS (MV U)<|aD (RZ _ _ (aI [1,2,3,4,5,6,7,8,10,11]) (aI [1,2,3,4,5,6,7,8,9,10,11]) ?_)
   refine cp U fun T69 Rh=>?_
   have R4:((ib bb (ln.ae.n+1)).set b (some A))=(ib (A::bb) (ln.ae.n+1)):=by exact HR I
   refine dI (k:=b) (o:=0) (vs:=[(Value.map (some A))]) (es':=(List.map oC (ib (A::bb) (ln.ae.n+1)))) (C':=[_,_,_,_,_,_,_,_,_,(own bA (ln.ae.n+1) 278 1 (List.map oC (ib (A::bb) (ln.ae.n+1)))),_,_]) 9 U U U Mu U U U U hx63m U dc (by exact (List.map_set (f:=oC) (l:=(ib bb (ln.ae.n+1))) (i:=b) (a:=(some A))).symm.trans (congrArg _ R4)) U<|aD (Rh _ _ (aI [1,2,3,4,5,6,7,8,10,11]) ?_)
   refine fO U<|KK NE<|aj fun _ Ne=>WS fun _ Op=>rP 3 [] (mc 2 U mn) ?_
   refine RK Op<|cE U (aP fun Kp=>?_) (aO fun Kp=>?_)
   ·refine bD<|ab<|aA<|KK Ck<|aj fun _ Or=>WS fun _ Os=>fG 1 [] (mc 2 U mn) U<|RK Os<|al<|AL U jv fun T0=>HA U DM U U<|RK Or<|al<|rP 2 [] (mc 0 U mn) ?_
    refine HA U DM U U<|aD ?_
    rw [show (b:Int)-1=(ln.ae.n:Int)-(((j+1):Nat):Int) from by omega]
    refine ze (ms:=bs) (m:=[((aF.mk 0 0),ri.fZ)]) (a:=A) 2 1 U U U ?_
    try dsimp only
    refine aR (B9 ⟨((j+1),([((aF.mk 0 0),ri.fZ)]::bs),(A::bb),T0,q),⟨I,by simp; omega,by simp; omega,by exact ig.end_ (b:=b) E I I (by show e.length≤b; omega)⟩⟩ _ _ _ U os (aT U) (aI [0,1,3,4,5,6,7,8,9,10,11]))
   refine WK Ne<|aj fun _ O8=>?_
   have V4:(ib (A::bb) (ln.ae.n+1)).length=(ln.ae.n+1):=Ah (by simp; omega)
   obtain ⟨mb,N⟩:=aH bs 0 I
   obtain ⟨ga,Z⟩:=aH bb 0 I
   refine GH 1 N Z U U U ?_
   try dsimp only
   refine dg cv 8 kr<|mw 1 [] (mc 6 U mn) U<|dS (SX (bQ U U) U U)<|dP 4 [0,1] (mr 5 U (mc 3 U mn)) ?_
   have R9:(List.map oC (ib (A::bb) (ln.ae.n+1)))[(b+1)]? =some (oC (some ga)):=sR (ur (i:=1) (by simpa using Z) (by simp; omega))
   refine dS (IA (b+1) U (ag (n:=(ln.ae.n+1)) 10 U sq) oR dc I I) ?_
   refine dS (fX (b+1) 0 (Value.map (some ga)) U cb (ag (n:=(ib (A::bb) (ln.ae.n+1)).length) 10 U sm) R9 U dc U)<|cM<|vh 0 U U pD U U fun B7=>?_
   try dsimp only
   refine RK O8<|ay ?_
   have C:(∀ p∈mb,p∈mb)∧(wu (cQ ln ri e tms) b ([((aF.mk 0 0),ri.fZ)]))∧(jO (cQ ln ri e tms) b mb ([((aF.mk 0 0),ri.fZ)]) mb):=by exact ⟨fun p hp=>hp,wu.start (by show b<e.length; omega),jO.start⟩
   refine wF (ι:={z:FM×FM×(List Nat) // (∀ p∈z.1,p∈mb)∧(wu (cQ ln ri e tms) b z.2.1)∧(jO (cQ ln ri e tms) b mb z.2.1 z.1)}) (fun z=>z.1.2.2.map lT) (fun z=>[(0,(vP gw)),(1,(vP W)),(2,(vI (ln.ae.n:Int))),(12,(vP gq)),(171,(vP B7))]) (fun z=>[(zO eG B7 ga (bS iV mb) (bS iV z.1.1) none),(bB (fJ oq bs bb 0)),(im eG A (bS iV z.1.2.1)),(cm gq 3 [(vI (b:Int))]),(bB (z.1.2.2.map l7)),(cm gw 274 (cu.cells (cu.mk ln ri (bq.mk e_A e.length e_C) (bq.mk t_A tms.length t_C) (bq.mk fA (ln.ae.n+1) (ln.ae.n+1)) (bq.mk bA (ln.ae.n+1) (ln.ae.n+1))))).ro,(cm W 263 [(vP gw)]),(rd e_A e.length 1 (e.map iC)).ro,(rd t_A tms.length 1 (List.zipWith gS tms tb)).ro,(eX (aU sB tms tb)).ro,(own bA (ln.ae.n+1) 278 1 (List.map oC (ib (A::bb) (ln.ae.n+1)))),(bB (aU oq fs fb)),(own fA (ln.ae.n+1) 278 1 (List.map oC (eM fb (ln.ae.n+1))))]) (fun z=>z.1.1.length) ⟨(mb,[((aF.mk 0 0),ri.fZ)],q),C⟩ U (aT U) (aI [0,1,2,3,4,5,6,7,8,9,10,11,12]) ?_
   clear C
   rintro ⟨⟨left,m,V⟩,⟨J,K,L⟩⟩ J80 K8
   try dsimp only at J K L
   try dsimp only
   refine WS fun _ Cp=>tg pd.inj (f:=iV) 0 U U U U (fun Kx=>?_) (fun t v hm Jm=>?_)
   ·refine bo 1 U<|RK Cp<|aj fun _ WT=>bh U<|bD<|ab<|ab<|aA<|aG<|KK Ck<|aj fun _ PP=>WS fun _ Pi=>fG 1 [] (mc 3 U mn) U<|RK Pi<|al<|AL U jv fun J6=>HA U DM U U<|RK PP<|al<|rP 2 [] (mc 0 U mn) ?_
    refine HA U DM U U<|aD<|Mb (C':=[(cm J6 3 [(vI ((b:Int)-1))]),(im eG ga (bS iV mb)),(bB (fJ oq bs bb 0)),(im eG A (bS iV m)),(cm gq 3 [(vI (b:Int))]),(bB (V.map l7)),(cm gw 274 (cu.cells (cu.mk ln ri (bq.mk e_A e.length e_C) (bq.mk t_A tms.length t_C) (bq.mk fA (ln.ae.n+1) (ln.ae.n+1)) (bq.mk bA (ln.ae.n+1) (ln.ae.n+1))))).ro,(cm W 263 [(vP gw)]),(rd e_A e.length 1 (e.map iC)).ro,(rd t_A tms.length 1 (List.zipWith gS tms tb)).ro,(eX (aU sB tms tb)).ro,(own bA (ln.ae.n+1) 278 1 (List.map oC (ib (A::bb) (ln.ae.n+1)))),(bB (aU oq fs fb)),(own fA (ln.ae.n+1) 278 1 (List.map oC (eM fb (ln.ae.n+1))))]) 1 U KD U<|Jx 2 1 N Z U U U ?_
    try dsimp only
    rw [show (b:Int)-1=(ln.ae.n:Int)-(((j+1):Nat):Int) from by omega]
    refine ze (ms:=bs) (m:=m) (a:=A) 0 2 U U U ?_
    try dsimp only
    refine aR (B9 ⟨((j+1),(m::bs),(A::bb),J6,V),⟨I,by simp; omega,by simp; omega,by exact ig.more (b:=b) E I I (by show b<e.length; omega) N K L Kx⟩⟩ _ _ _ U os (aT U) (aI [0,1,3,4,5,6,7,8,9,10,11]))
   try dsimp only
   refine bo 1 U<|RK Cp<|aj fun _ Pl=>aN U<|WK Pl<|ay<|WS fun _ Pn=>rS (SX (sW 0 U U U) U U)<|bo 2 U<|AL U uk fun J7=>AL U jv fun J9=>sj U sO U<|HA U DM U U<|RK Pn<|WS fun _ P5=>rP 2 [0,1] (mc 8 U (mc 5 U mn)) ?_
   refine cX (vg gw b) (aM) U fun WN WW=>?_
   obtain ⟨C0,C3⟩:=WN
   try dsimp only
   refine RK P5<|ay<|kN 11 U (by exact fun _ h=>h)<|kN 13 U (by exact fun _ h=>h)<|kN 15 U (by exact fun _ h=>h)<|kN 12 U (by exact fun _ h=>h) ?_
   refine oc (L0:=[(0,(vP gw)),(1,(vP W)),(2,(vI (ln.ae.n:Int))),(12,(vP gq)),(13,(vP J7)),(14,(vP J9)),(171,(vP B7))]) (F:=[(rd e_A e.length 1 (e.map iC)).ro,(rd t_A tms.length 1 (List.zipWith gS tms tb)).ro,(eX (aU sB tms tb)).ro,(cm gw 274 (cu.cells (cu.mk ln ri (bq.mk e_A e.length e_C) (bq.mk t_A tms.length t_C) (bq.mk fA (ln.ae.n+1) (ln.ae.n+1)) (bq.mk bA (ln.ae.n+1) (ln.ae.n+1))))).ro,(cm C0 263 [(vP gw)]),(cm C3 3 [(vI (b:Int))])]) (fun k (y:FM)=>(oh (cQ ln ri e tms) b mb left y (t,v) k)) (fun k y=>[(cm J9 3 [(vI v)]),(cm J7 280 (aF.cells t)),(zO eG B7 ga (bS iV mb) (bS iV (cJ left t)) (some (t,(vI v)))),(bB (fJ oq bs bb 0)),(im eG A (bS iV y)),(cm gq 3 [(vI (b:Int))]),(bB (V.map l7)),(cm gw 274 (cu.cells (cu.mk ln ri (bq.mk e_A e.length e_C) (bq.mk t_A tms.length t_C) (bq.mk fA (ln.ae.n+1) (ln.ae.n+1)) (bq.mk bA (ln.ae.n+1) (ln.ae.n+1))))).ro,(cm W 263 [(vP gw)]),(rd e_A e.length 1 (e.map iC)).ro,(rd t_A tms.length 1 (List.zipWith gS tms tb)).ro,(eX (aU sB tms tb)).ro,(own bA (ln.ae.n+1) 278 1 (List.map oC (ib (A::bb) (ln.ae.n+1)))),(bB (aU oq fs fb)),(own fA (ln.ae.n+1) 278 1 (List.map oC (eM fb (ln.ae.n+1))))]) (fun _ (_:Unit)=>False) (fun _ _=>[]) [6,7,8,9,10,11,12,13,14,15,16,17,18,19,20] [3,2,1,0,4,5] m rfl rfl (ti ln ri e tms e_A e_C tb t_A t_C fA (ln.ae.n+1) (ln.ae.n+1) bA (ln.ae.n+1) (ln.ae.n+1) gw b C0 C3 I I) rfl rfl rfl (by exact oh.start K L) (by simp only [List.forall_mem_cons,List.not_mem_nil,false_imp_iff,implies_true,and_true]; exact ⟨⟨_,aS (i:=0) rfl,(dV (bU _))⟩,⟨_,aS (i:=1) rfl,(dV (bU _))⟩,⟨_,aS (i:=2) rfl,(dV (bU _))⟩,⟨_,aS (i:=3) rfl,(dV (bU _))⟩,⟨_,aS (i:=4) rfl,(bU _)⟩,⟨_,aS (i:=5) rfl,(bU _)⟩⟩) (by rintro k x k2 ⟨o,_,rfl,_⟩; rfl) rfl (aT rfl) ?_ ?_ (fun _ _ _ h=>h.elim) (fun _ _ h=>h.elim)
   rotate_left 1
   ·rintro S2 k O A3 A7
    have D:=A7
    try dsimp only
    refine aG<|aG<|K6 (X:=V.map l7) 13 0 U U ?_
    try dsimp only
    refine hU 9 U yL U ?_
    refine aR (K8 ⟨((cJ left t),O,(S2::V)),⟨mI J,D.on,D.next Jm hm A3⟩⟩ _ _ _ U (fg hm) (aT U) (aI [9,10,11,12,0,4,14,1,2,3,18,19,20]))
   rintro k x k2 O l ra rb S w1 K95 Qr96 WC hx IO P6 AB WL WP
   obtain ⟨o,ho,rfl,rfl⟩:=hx
   have D:=IO
   try dsimp only
   refine WS fun _ QL=>rP 1 [] mn ?_
   refine RK QL<|al<|AL U dx fun WZ=>fW U cz U<|aD<|jT (fun _ _ h=>h) (aI [1,0,2,3,4,5,6,7,8,9,10,11,12,13,14,15,16])<|aR (P6 _ _ ?_)
   refine ay<|aj fun _ Di=>dJ cv [16,18] [] [] [0,1,2,3,4,5,6,7,8,9,10,11,12,13,14,15,16] [] U U U U U<|eS U (Eg 2 U cb U)<|eS U (FA 1 U fw U)<|eS U (L1 (vI o.2.Hi) 1 U cb U U) ?_
   have hp:=E.U9 (b:=b) I N (J _ hm)
   have U3:=Le hw hp
   have V6:=uX o.1
   have WB:=hw.opt ho
   dsimp only at U3
   refine eS U (MN U)<|eS U (Eg 10 U cb U)<|eS U (SX (bQ U U) U U)<|eS U (FA 10 U fw U)<|eS U (IL (vS e_A e.length e_C) 9 U cb U U)<|eS U (Eg 7 U cb U) ?_
   obtain ⟨y,hy⟩:=aH e b I
   have J2:=bJ iC hy
   refine eS U (IA b U (aB 11 U) cN dc I I)<|eS U (fX b 0 (vI y) U cb (aB 11 U) J2 U dc U) ?_
   have Vf:=hw.least y (aS hy)
   refine eS U (BI U (sJ ⟨I,I⟩))<|eS U (LW 3 U cb U U)<|eS U (MV U)<|eS U (CL (IQ o.1) (aM) U)<|eS U (CL (wQ t (fy o.1) I I) (aM) U)<|eS U (AG U)<|eT U<|cp U fun T101 GE=>AL U uk fun WQ=>aD (GE _ _ (aI [1,2,3,4,5,6,7,8,9,10,11,12,13,14,15,16,17]) ?_)
   refine cp U fun T103 GT=>fW U sO U<|aD (GT _ _ (aI [1,2,3,4,5,6,7,8,9,10,11,12,13,14,15,16,17]) ?_)
   refine fO U<|KK Di<|aj fun _ Do=>dg cv 14 kr<|mw 1 [] (mc 11 U mn) U<|dS (SX (bQ U U) U U)<|dP 3 [0,1] (mr 10 U (mc 8 U mn)) ?_
   have IR:(List.map oC (ib (A::bb) (ln.ae.n+1)))[b]? =some (oC (some A)):=sR (ur (i:=0) rfl (by simp; omega))
   refine dS (IA b U (ag (n:=(ln.ae.n+1)) 15 U sq) oR dc I I) ?_
   refine dS (fX b 0 (Value.map (some A)) U cb (ag (n:=(ib (A::bb) (ln.ae.n+1)).length) 15 U sm) IR U dc U)<|mw 1 [] (mc 0 U mn) U<|dS (SX (j3 (kV:=eG) (x:=(dC t (fy o.1))) (l:=O) (f:=iV) (z:=0) U U U pD pd V5 (by exact aB 7 U)) U U)<|lQ 5 U<|cM<|RK Do<|WS fun _ Y=>fG 3 [0,1] (mc 3 U (mc 2 U mn)) U<|rS (MN U)<|rP 4 [] (mc 2 U mn) ?_
   refine cj (t:=217) U (aO fun T=>?_) (aP fun T=>?_)
   ·refine rP 8 [] mn ?_
    refine RK Y<|bh U<|ck<|aG ?_
    exact AB O _ _ (by exact D.skip (Oe T)) (aI [1,3,4,5,6,7,8,9,10,11,12,13,14,15,16,17])
   refine rP 3 [] mn ?_
   refine cH (t:=220) U (fun AA=>?_) (fun AA=>?_)
   ·rw [Bool.not_eq_true'] at AA
    refine bo 5 U<|RK Y<|aN U<|dg cv 9 kr<|mw 1 [] (mc 11 U mn) U<|dS (SX (bQ U U) U U)<|dP 3 [0,1] (mr 10 U (mc 8 U mn)) ?_
    have Id:(List.map oC (ib (A::bb) (ln.ae.n+1)))[b]? =some (oC (some A)):=sR (ur (i:=0) rfl (by simp; omega))
    refine dS (IA b U (ag (n:=(ln.ae.n+1)) 15 U sq) oR dc I I) ?_
    refine dS (fX b 0 (Value.map (some A)) U cb (ag (n:=(ib (A::bb) (ln.ae.n+1)).length) 15 U sm) Id U dc U)<|dP 2 [] (mc 0 U mn) ?_
    refine cM<|jl (kV:=eG) (x:=(dC t (fy o.1))) (C':=[_,_,_,_,_,_,_,(im eG A (bS iV (eP O (dC t (fy o.1)) ((min v o.2.Hi)-y)))),_,_,_,_,_,_,_,_,_,_]) 7 U U U U pD pd U (gX _ _ _ _).symm U<|aD<|aG ?_
    exact AB (eP O (dC t (fy o.1)) ((min v o.2.Hi)-y)) _ _ (by exact D.set (by show b<e.length; omega) hp ho (Ay hy T) (.inl (by simpa using AA))) (aI [1,3,4,5,6,7,8,9,10,11,12,13,14,15,16,17])
   rw [Bool.not_eq_false'] at AA
   refine rP 5 [] mn ?_
   refine RK Y<|bO U (aO fun AC=>?_) (aP fun AC=>?_)
   ·refine ck<|aG ?_
    exact AB O _ _ (by exact D.oY (Ay hy T) (by simpa using AA) AC) (aI [1,3,4,5,6,7,8,9,10,11,12,13,14,15,16,17])
   refine dg cv 9 kr<|mw 1 [] (mc 11 U mn) U<|dS (SX (bQ U U) U U)<|dP 3 [0,1] (mr 10 U (mc 8 U mn)) ?_
   have If:(List.map oC (ib (A::bb) (ln.ae.n+1)))[b]? =some (oC (some A)):=sR (ur (i:=0) rfl (by simp; omega))
   refine dS (IA b U (ag (n:=(ln.ae.n+1)) 15 U sq) oR dc I I) ?_
   refine dS (fX b 0 (Value.map (some A)) U cb (ag (n:=(ib (A::bb) (ln.ae.n+1)).length) 15 U sm) If U dc U)<|dP 2 [] (mc 0 U mn) ?_
   refine cM<|jl (kV:=eG) (x:=(dC t (fy o.1))) (C':=[_,_,_,_,_,_,_,(im eG A (bS iV (eP O (dC t (fy o.1)) ((min v o.2.Hi)-y)))),_,_,_,_,_,_,_,_,_,_]) 7 U U U U pD pd U (gX _ _ _ _).symm U<|aD<|aG ?_
   exact AB (eP O (dC t (fy o.1)) ((min v o.2.Hi)-y)) _ _ (by exact D.set (by show b<e.length; omega) hp ho (Ay hy T) (.inr AC)) (aI [1,3,4,5,6,7,8,9,10,11,12,13,14,15,16,17])
  refine dJ cv [4,11,12,14] [10] [0,1,2] [0,1,2,3,4,6] [0,1,2,3,4,5,6] U U U U U<|eS U (Eg 1 U cb U)<|eS U (SX (bQ U U) U U)<|eS U (FA 12 U fw U)<|eS U (IL (vS fA (ln.ae.n+1) (ln.ae.n+1)) 0 U cb U U)<|eS U (SX (bu (xs:=[]) (cs:=(aF.cells (aF.mk 0 0))) U U (br Cd U)) U U)<|eS U (Eg 1 U cb U)<|eS U (SX (bQ U U) U U)<|eS U (FA 7 U fw U)<|eS U (FA 7 U fw U)<|eS U (IL (vI ri.Start) 0 U cb U U) ?_
  obtain ⟨x6,WD⟩:=aH (List.replicate (ln.ae.n+1) (none:Option Nat)) 0 I
  have hx7m:(List.map oC (List.replicate (ln.ae.n+1) (none:Option Nat)))[0]? =some (oC x6):=by rw [fP,WD]; rfl
  refine fS U (IA 0 U (ag (n:=(ln.ae.n+1)) 5 U sq) oR dc U I) ?_
  refine eT U<|gP U fun T8 Go=>nR (kV:=eG) U U fun r=>?_
  try dsimp only
  refine aD (Go _ _ (aI [1,2,3,4,5,7]) (aI [1,2,3,4,5,6,7]) ?_)
  refine gP U fun T10 G=>?_
  have Rk:(eP ([]:List (aF×Int)) (aF.mk 0 0) ri.Start)=[((aF.mk 0 0),ri.Start)]:=by rfl
  refine zJ (kV:=eG) (x:=(aF.mk 0 0)) (C':=[(im eG r (bS iV ([((aF.mk 0 0),ri.Start)]))),_,_,_,_,_,_,_]) 0 U U U U pD pd U ((gX _ _ _ _).symm.trans (congrArg _ Rk)) U<|aD (G _ _ (aI [1,2,3,4,5,7]) (aI [1,2,3,4,5,6,7]) ?_)
  refine gP U fun T12 QQ=>rS (MV U)<|aD (QQ _ _ (aI [1,2,3,4,5,7]) (aI [1,2,3,4,5,6,7]) ?_)
  refine cp U fun T13 Qq=>?_
  have R0:((List.replicate (ln.ae.n+1) (none:Option Nat)).set 0 (some r))=(eM [r] (ln.ae.n+1)):=by rw [zT]; exact vv rfl sm
  refine dI (k:=0) (o:=0) (vs:=[(Value.map (some r))]) (es':=(List.map oC (eM [r] (ln.ae.n+1)))) (C':=[_,_,_,_,_,_,(own fA (ln.ae.n+1) 278 1 (List.map oC (eM [r] (ln.ae.n+1)))),_]) 6 U U U Mu U U U U hx7m U dc (by exact (List.map_set (f:=oC) (l:=(List.replicate (ln.ae.n+1) (none:Option Nat))) (i:=0) (a:=(some r))).symm.trans (congrArg _ R0)) U<|aD (Qq _ _ (aI [1,2,3,4,5,7]) ?_)
  refine fO U<|FC<|Ai (X:=[]) (X':=aU oq [[((aF.mk 0 0),ri.Start)]] [r]) 0 1 U U U ?_
  try dsimp only
  refine aR (jT (aT U) (aI [1,2,3,4,5,7,0,6]) (UV ⟨r,trivial⟩))
 refine ow cv [0,1,2,3,5,6,8,9,11,12] [4,7,10,13] [false,false,false,false,false,false,false,false,false,false] [] [(cm W 263 [(vP gw)]),(rd e_A e.length 1 (e.map iC)).ro,(rd t_A tms.length 1 (List.zipWith gS tms tb)).ro,(eX (aU sB tms tb)).ro] [] kr (aI [0,2,3,4]) (aI [])<|eS U (Eg 0 U cb U)<|eS U (Eg 0 U cb U)<|eS U (MV U)<|eS U (BI U (iE ⟨I,I⟩))<|eS U (MV U)<|eS U (BI U (iE ⟨I,I⟩))<|eS U (SX (bQ U U) U U)<|eS U (FA 12 U fw U)<|eS U (SX (bQ U U) U U)<|eS U (FA 13 U fw U)<|eT U<|iJ [4,7] kr (ek ?_<|ek ?_<|j_)
 rotate_left 1
 ·refine NO U U [4,10,13] fun T5 Ge=>?_
  refine xu (n:=(ln.ae.n+1)) (es:=(List.map oC (List.replicate (ln.ae.n+1) (none:Option Nat)))) U U U Dj I I (by simp only [maxLen]; omega) (by rw [List.map_replicate]; rfl) U fun b6=>?_
  try dsimp only
  refine aD (Ge _ _ (aI [1,3,4,5]) ?_)
  refine N1 4<|NO U U [10,13] fun T7 A2=>?_
  refine xu (n:=(ln.ae.n+1)) (es:=(List.map oC (List.replicate (ln.ae.n+1) (none:Option Nat)))) U U U Dj I I (by simp only [maxLen]; omega) (by rw [List.map_replicate]; rfl) U fun b8=>?_
  try dsimp only
  refine aD (A2 _ _ (aI [2,4,5,6]) ?_)
  refine N1 10<|NO U U [13] fun T9 G1=>RC (cu.cells (cu.mk ln ri (bq.mk e_A e.length e_C) (bq.mk t_A tms.length t_C) (bq.mk (some ⟨b8,0,none⟩) (ln.ae.n+1) (ln.ae.n+1)) (bq.mk none 0 0))) U zl U U<|aD (G1 _ _ (aI [2,4,5,6]) ?_)
  refine N1 13<|NO U U [] fun T10 G=>RC (cu.cells (cu.mk ln ri (bq.mk e_A e.length e_C) (bq.mk t_A tms.length t_C) (bq.mk (some ⟨b8,0,none⟩) (ln.ae.n+1) (ln.ae.n+1)) (bq.mk (some ⟨b6,0,none⟩) (ln.ae.n+1) (ln.ae.n+1)))) U zl U U<|aD (G _ _ (aI [2,4,5,6]) ?_)
  refine od ?_
  refine aR (jT (aT U) (aI [2,4,5,6,0,1,3]) (Eq ⟨((some ⟨b8,0,none⟩),(some ⟨b6,0,none⟩)),trivial⟩))
 refine NO U U [7,10,13] fun T5 Ge=>?_
 refine xu (n:=(ln.ae.n+1)) (es:=(List.map oC (List.replicate (ln.ae.n+1) (none:Option Nat)))) U U U Dj I I (by simp only [maxLen]; omega) (by rw [List.map_replicate]; rfl) U fun b6=>?_
 try dsimp only
 refine aD (Ge _ _ (aI [1,3,4,5]) ?_)
 refine iJ [7,10] kr (ek ?_<|ek ?_<|j_)
 rotate_left 1
 ·refine NO U U [7,13] fun T7 A2=>Vi (cu.cells (cu.mk ln ri (bq.mk e_A e.length e_C) (bq.mk t_A tms.length t_C) (bq.mk (some ⟨b6,0,none⟩) (ln.ae.n+1) (ln.ae.n+1)) (bq.mk none 0 0))) U zl U U<|aD (A2 _ _ (aI [1,3,4,5]) ?_)
  refine N1 7<|NO U U [13] fun T8 Go=>?_
  refine xu (n:=(ln.ae.n+1)) (es:=(List.map oC (List.replicate (ln.ae.n+1) (none:Option Nat)))) U U U Dj I I (by simp only [maxLen]; omega) (by rw [List.map_replicate]; rfl) U fun r=>?_
  try dsimp only
  refine aD (Go _ _ (aI [2,4,5,6]) ?_)
  refine N1 13<|NO U U [] fun T10 G=>RC (cu.cells (cu.mk ln ri (bq.mk e_A e.length e_C) (bq.mk t_A tms.length t_C) (bq.mk (some ⟨b6,0,none⟩) (ln.ae.n+1) (ln.ae.n+1)) (bq.mk (some ⟨r,0,none⟩) (ln.ae.n+1) (ln.ae.n+1)))) U zl U U<|aD (G _ _ (aI [2,4,5,6]) ?_)
  refine od ?_
  refine aR (jT (aT U) (aI [2,4,5,6,1,0,3]) (Eq ⟨((some ⟨b6,0,none⟩),(some ⟨r,0,none⟩)),trivial⟩))
 refine NO U U [10,13] fun T7 A2=>?_
 refine xu (n:=(ln.ae.n+1)) (es:=(List.map oC (List.replicate (ln.ae.n+1) (none:Option Nat)))) U U U Dj I I (by simp only [maxLen]; omega) (by rw [List.map_replicate]; rfl) U fun b8=>?_
 try dsimp only
 refine aD (A2 _ _ (aI [2,4,5,6]) ?_)
 refine N1 10<|NO U U [13] fun T9 G1=>RC (cu.cells (cu.mk ln ri (bq.mk e_A e.length e_C) (bq.mk t_A tms.length t_C) (bq.mk (some ⟨b6,0,none⟩) (ln.ae.n+1) (ln.ae.n+1)) (bq.mk none 0 0))) U zl U U<|aD (G1 _ _ (aI [2,4,5,6]) ?_)
 refine N1 13<|NO U U [] fun T10 G=>RC (cu.cells (cu.mk ln ri (bq.mk e_A e.length e_C) (bq.mk t_A tms.length t_C) (bq.mk (some ⟨b6,0,none⟩) (ln.ae.n+1) (ln.ae.n+1)) (bq.mk (some ⟨b8,0,none⟩) (ln.ae.n+1) (ln.ae.n+1)))) U zl U U<|aD (G _ _ (aI [2,4,5,6]) ?_)
 refine od ?_
 refine aR (jT (aT U) (aI [2,4,5,6,1,0,3]) (Eq ⟨((some ⟨b6,0,none⟩),(some ⟨b8,0,none⟩)),trivial⟩))
end
section
open Go.RowKit
theorem EG (l:bf) (kA:OA) (kC:Nat) (az:List RA) (cA:OA) (cC:Nat) (bA:OA) (bC g1:Nat) (bm:Int) (g2:Nat) (hin:ep l az):
 er Tryz.prog 206 [(vP g1),(vP g2)] [(rd kA l.aL.length 9 (l.aL.map ak.cells)),(rd cA l.ah.length 2 (List.zipWith aq.cells l.ah az)),(eX (aU aq.gE l.ah az)),(rd bA l.ae.length 4 (l.ae.map bG.cells)),(cm g1 31 (bV.cells (lq l kA kC cA cC bA bC))),(cm g2 3 [(vI bm)])] (vI (jW l bm)):=by
 have K:=hin.sx
 have J:=hin.sG
 have H:=hin.mW
 have AA:=hin.sk
 refine bI kr Tryz.func206 U U fun L Q hQ hN=>?_
 try dsimp only
 refine WS fun _ B=>bo 1 U<|RK B<|aj fun _ C=>WS fun _ D=>rP 5 [0,1] (mr 4 U (mr 5 U mn)) ?_
 refine du (xs:=[.tmp 7]) (cs:=[(vI bm)]) U cN jv U U U U (by simp [Value.cells]) U U fun G=>?_
 refine rS (CL (er.eq (jf 0 ((l.ae.length:Int)-1) ([bm]) (some ⟨G,0,none⟩) 1 (by (simp; done))) df) (av (bp 0 U U (by simp [bM]) U)<|aM) U) ?_
 refine rP 1 [] mn ?_
 refine RK D<|cE U (aZ fun A=>?_) (a_ fun A=>?_)
 ·refine WS fun _ E=>rP 1 [] mn ?_
  refine RK E<|ar<|Q1 hQ U U U ?_
  exact cI (if_neg I).symm
 refine WK C<|WS fun _ F=>rP 1 [] mn ?_
 refine RK F<|ar<|Q1 hQ U U U ?_
 exact cI (if_pos I).symm
end
section
open Go.RowKit
theorem N9 (l:bf) (kA:OA) (kC:Nat) (az:List RA) (cA:OA) (cC:Nat) (bA:OA) (bC:Nat) (r:cL) (sgA:OA) (sgC:Nat) (f:Value) (X:aw) (me:Int) (gm:Nat) (hf:DY Tryz.prog f [] [X] (.int .i64 me)) (hin:ep l az) (hsl:r.ai.length≤1000000):
 lx Tryz.prog 205 [(vA (bV.cells (lq l kA kC cA cC bA bC))),(vA (dL.cells (lV r sgA sgC))),(vS (some ⟨gm,0,none⟩) 1 1)] [(rd kA l.aL.length 9 (l.aL.map ak.cells)),(rd cA l.ah.length 2 (List.zipWith aq.cells l.ah az)),(eX (aU aq.gE l.ah az)),(rd bA l.ae.length 4 (l.ae.map bG.cells)),(rd sgA r.ai.length 2 (r.ai.map aJ.cells)),X,(cm gm 266 [f])] (fun (x:Bool×Int×Nat×(OA)×Nat×(OA)×Nat×(List Nat)×(List FM)×(List Nat)×(OA)×Nat×(List FM)×(List Nat)×(OA)×Nat)=>bif x.1 then (vT [(Value.pointer (some ⟨x.2.2.1,0,none⟩)),(vI 0)]) else (vT [(Value.pointer none),(vI x.2.1)])) (fun (x:Bool×Int×Nat×(OA)×Nat×(OA)×Nat×(List Nat)×(List FM)×(List Nat)×(OA)×Nat×(List FM)×(List Nat)×(OA)×Nat)=>(x.1=true→(eO l r me=0∧xR (cy l r) x.2.2.2.2.2.2.2.2.1∧uT (cy l r) x.2.2.2.2.2.2.2.2.2.2.2.2.1∧x.2.2.2.2.2.2.2.2.2.1.length=x.2.2.2.2.2.2.2.2.1.length∧x.2.2.2.2.2.2.2.2.2.2.2.2.2.1.length=x.2.2.2.2.2.2.2.2.2.2.2.2.1.length∧x.2.2.2.2.2.2.2.1.length=(ew l r.ai r.ai.length).length))∧(x.1=false→(x.2.1=eO l r me∧ ¬ eO l r me=0))) (fun (x:Bool×Int×Nat×(OA)×Nat×(OA)×Nat×(List Nat)×(List FM)×(List Nat)×(OA)×Nat×(List FM)×(List Nat)×(OA)×Nat)=>bif x.1 then [(cm x.2.2.1 274 (cu.cells (cu.mk (lq l kA kC cA cC bA bC) (lV r sgA sgC) (bq.mk x.2.2.2.1 ((cS l l.ae.length).length) x.2.2.2.2.1) (bq.mk x.2.2.2.2.2.1 ((ew l r.ai r.ai.length).length) x.2.2.2.2.2.2.1) (bq.mk x.2.2.2.2.2.2.2.2.2.2.1 x.2.2.2.2.2.2.2.2.1.length x.2.2.2.2.2.2.2.2.2.2.2.1) (bq.mk x.2.2.2.2.2.2.2.2.2.2.2.2.2.2.1 x.2.2.2.2.2.2.2.2.2.2.2.2.1.length x.2.2.2.2.2.2.2.2.2.2.2.2.2.2.2)))),(own x.2.2.2.1 x.2.2.2.2.1 3 1 ((cS l l.ae.length).map iC)),(own x.2.2.2.2.2.1 x.2.2.2.2.2.2.1 64 1 (List.zipWith gS (ew l r.ai r.ai.length) x.2.2.2.2.2.2.2.1)),(bB (aU sB (ew l r.ai r.ai.length) x.2.2.2.2.2.2.2.1)),(own x.2.2.2.2.2.2.2.2.2.2.1 x.2.2.2.2.2.2.2.2.2.2.2.1 278 1 (List.zipWith gS x.2.2.2.2.2.2.2.2.1 x.2.2.2.2.2.2.2.2.2.1)),(bB (aU oq x.2.2.2.2.2.2.2.2.1 x.2.2.2.2.2.2.2.2.2.1)),(own x.2.2.2.2.2.2.2.2.2.2.2.2.2.2.1 x.2.2.2.2.2.2.2.2.2.2.2.2.2.2.2 278 1 (List.zipWith gS x.2.2.2.2.2.2.2.2.2.2.2.2.1 x.2.2.2.2.2.2.2.2.2.2.2.2.2.1)),(bB (aU oq x.2.2.2.2.2.2.2.2.2.2.2.2.1 x.2.2.2.2.2.2.2.2.2.2.2.2.2.1))] else []):=by
 have S2:=hin.sx
 have Sz:=hin.sG
 have R9:=hin.mW
 have ST:=hin.sk
 have S1:=hin.side
 refine dp kr Tryz.func205 U U fun w0 Q hQ hN=>?_
 try dsimp only
 refine WS fun _ Pl=>fK U fun b2=>fK U fun b3=>bo 2 U<|RK Pl<|aj fun _ Pn=>WS fun _ P5=>fG 1 [] (mc 1 U mn) U<|rS (CL (DA l kA kC az cA cC bA bC hin) (bk [2,3,4,5]) U)<|bo 1 U<|RK P5<|WS fun _ P6=>rP 2 [] mn ?_
 refine RK P6<|cE U (aZ fun h=>?_) (a_ fun h=>?_)
 ·refine WS fun _ QL=>rP 3 [] mn ?_
  refine RK QL<|ar<|LX hQ (false,(dH l),0,none,0,none,0,[],[],[],none,0,[],[],none,0) [] [] mn U (by rfl) U U ?_
  exact sE<|I_ (oy (r:=r) (me:=me) h) h
 refine WK Pn<|aj fun _ QQ=>WS fun _ AO=>?_
 have C:dH l=0:=h
 obtain ⟨Li,d⟩:=gT C
 have Qr:=d.head
 unfold gJ at Qr
 refine rP 2 [] (mc 0 U mn) ?_
 refine du (xs:=[.tmp 24]) (cs:=[(vI r.Start)]) U cN jv U U U U (by simp [Value.cells]) U U fun Ms=>?_
 refine rS (CL (er.eq (jf 0 86400000 ([r.Start]) (some ⟨Ms,0,none⟩) 1 (by (simp; done))) df) (av (bp 0 U U (by simp [bM]) U)<|aM) U) ?_
 refine rP 2 [] mn ?_
 refine cH (t:=28) U (aZ fun Op=>?_) (a_ fun Op=>?_)
 ·refine bo 14 U<|RK AO<|aN U<|WS fun _ A6=>rP 2 [] mn ?_
  refine RK A6<|ar<|LX hQ (false,51,0,none,0,none,0,[],[],[],none,0,[],[],none,0) [] [] mn U (by rfl) U U ?_
  exact sE<|qy (ju (me:=me) C (fun q:fx l r=>by have q1:=q.time; have q2:=q.len; omega))
 refine rP 4 [] (mc 1 U mn) ?_
 refine du (xs:=[.tmp 32]) (cs:=[(vI r.fZ)]) U cN jv U U U U (by simp [Value.cells]) U U fun M2=>?_
 refine rS (CL (er.eq (jf r.Start 86400000 ([r.fZ]) (some ⟨M2,0,none⟩) 1 (by (simp; done))) df) (av (bp 0 U U (by simp [bM]) U)<|aM) U) ?_
 refine rP 3 [] mn ?_
 refine cH (t:=37) U (aZ fun Os=>?_) (a_ fun Os=>?_)
 ·refine bo 5 U<|RK AO<|aN U<|WS fun _ A7=>rP 2 [] mn ?_
  refine RK A7<|ar<|LX hQ (false,51,0,none,0,none,0,[],[],[],none,0,[],[],none,0) [] [] mn U (by rfl) U U ?_
  exact sE<|qy (ju (me:=me) C (fun q:fx l r=>by have q1:=q.time; have q2:=q.len; omega))
 refine rP 5 [] (mc 2 U mn) ?_
 refine RK AO<|cE U (aP fun O8=>?_) (aO fun O8=>?_)
 ·refine WS fun _ A8=>rP 2 [] mn ?_
  refine RK A8<|ar<|LX hQ (false,51,0,none,0,none,0,[],[],[],none,0,[],[],none,0) [] [] mn U (by rfl) U U ?_
  exact sE<|qy (ju (me:=me) C (fun q:fx l r=>by have q1:=q.time; have q2:=q.len; omega))
 refine WK QQ<|WS fun _ A9=>rS (SX (bu (xs:=[(0,.const (vI (-1)))]) (cs:=(aJ.cells (aJ.mk (-1) 0))) U U (br FO U)) U U)<|AL U Gh fun V=>fW U xd U<|RK A9<|aj fun _ BX=>dJ cv [5,6,7,8] [] [] [0,1,2,3,4,5,6,7,8,9,10,11] [] U U U U U<|eS U (LW 4 U cb U U)<|eS U (LW 3 U cb U U)<|eS U (FA 3 U fw U)<|eS U (L1 (vS bA l.ae.length bC) 4 U cb U U)<|eS U (LN U Rj)<|eT U<|cp U fun T18 JR=>?_
 refine xu (n:=l.ae.length) (es:=(List.map oC (List.replicate l.ae.length (none:Option Nat)))) U U U SR I I (by simp only [maxLen]; omega) (by rw [List.map_replicate]; rfl) U fun B=>?_
 try dsimp only
 refine aD (JR _ _ (aI [1,2,3,4,5,6,7,8,9,10,11,12]) ?_)
 refine cp U fun T20 Jm=>rS (SX (bu (xs:=[(0,.tmp 44),(1,.tmp 45),(3,.tmp 49)]) (cs:=(cu.cells (cu.mk (lq l kA kC cA cC bA bC) (lV r sgA sgC) (bq.mk none 0 0) (bq.mk (some ⟨B,0,none⟩) l.ae.length l.ae.length) (bq.mk none 0 0) (bq.mk none 0 0)))) U U (br RV U)) U U)<|aD (Jm _ _ (aI [1,2,3,4,5,6,7,8,9,10,11,12]) ?_)
 refine cp U fun T21 J2=>fK U fun AB=>aD (J2 _ _ (aI [2,3,4,5,6,7,8,9,10,11,12,13]) ?_)
 refine cp U fun T23 J3=>rS (AG U)<|aD (J3 _ _ (aI [2,3,4,5,6,7,8,9,10,11,12,13]) ?_)
 refine fO U<|KK BX<|aj fun _ B3=>WS fun _ B7=>rP 4 [] (mc 6 U mn) ?_
 refine RK B7<|ay ?_
 rw [zT]
 refine gl 3 1<|lY ?_
 have E:(0≤l.ae.length)∧(([]:List Nat).length=0):=by exact ⟨Nat.zero_le _,rfl⟩
 refine bK (ι:={z:Nat×(OA)×Nat×(List Nat) // (z.1≤l.ae.length)∧(z.2.2.2.length=z.1)}) [2,3,4,6,7,9,10,54] [4,7,8,9,10,11,12,13,14,15] U U (fun z=>[(55,(vI (z.1.1:Int)))]) (fun z=>[(bB (aU sB (List.replicate z.1.1 ([]:TM)) z.1.2.2.2)),(own z.1.2.1 z.1.2.2.1 3 1 ((cS l z.1.1).map iC)),(cm AB 274 (cu.cells (cu.mk (lq l kA kC cA cC bA bC) (lV r sgA sgC) (bq.mk z.1.2.1 ((cS l z.1.1).length) z.1.2.2.1) (bq.mk (some ⟨B,0,none⟩) l.ae.length l.ae.length) (bq.mk none 0 0) (bq.mk none 0 0)))),(own (some ⟨B,0,none⟩) l.ae.length 64 1 (List.map oC (eM z.1.2.2.2 l.ae.length)))]) (fun _=>rfl) (fun _=>rfl) (fun z=>l.ae.length-z.1.1) ⟨(0,none,0,([]:List Nat)),E⟩ (aT U) (aI [4,7,8,9,10,11,12,13,14,15,0,1,2,3]) ?_
 clear E
 rintro ⟨⟨b,a,c,fb⟩,⟨An,Y⟩⟩ J26 A5
 try dsimp only at An Y
 try dsimp only
 have Q_:(eM fb l.ae.length).length=l.ae.length:=se I
 refine WS fun _ B9=>rP 1 [] mn ?_
 refine RK B9<|aj fun _ Ci=>cE U (aP fun Or=>?_) (aO fun Or=>?_)
 ·refine WK Ci<|aj fun _ Ck=>ay<|WS fun _ Cp=>rP 2 [] mn ?_
  refine RK Cp<|aj fun _ Cx=>dJ cv [12,13,16] [4] [0] [0,1,2,3,4,5,6,7,8,9,10,13] [0,1,2,3,4,5,6,7,8,9,10,11,12,13] U U U U U<|eS U (MV U)<|eS U (MV U)<|eS U (SX (bQ U U) U U)<|eS U (FA 10 U fw U)<|fS U (L1 (vS a ((cS l b).length) c) 12 U cb U U)<|eS U (LW 2 U cb U U)<|eS U (MV U)<|eS U (CL (PE l kA kC az cA cC bA bC (b:Int) hin asm (by exact d.wx) I) (bk [3,4,5,6]) U) ?_
  have TO:=F1 Li d.wx b
  have Tv:=d.RS b I
  simp only [Int.toNat_natCast]
  refine eS U (BI U (F5 ⟨I,I⟩))<|eS U (FA 1 U fw U)<|eS U (L1 (vI l.f_) 2 U cb U U) ?_
  refine eS U (CL (Pu (1000*(my l (b:Int).toNat)) l.f_ I (by (simp; omega))) (aM) U) ?_
  refine eS U (SX (bQ U U) U U)<|eS U (FA 10 U fw U)<|eT U<|gP U fun T33 J4=>du (xs:=[.tmp 69]) (cs:=[(vI (pI (1000*(my l (b:Int).toNat)) l.f_))]) U cN jv U U U U (by simp [Value.cells]) U U fun R5=>aD (J4 _ _ (aI [1,2,3,4,5,6,7,8,9,10,11,14]) (aI [1,2,3,4,5,6,7,8,9,10,11,12,13,14]) ?_)
  refine cp U fun T35 J5=>?_
  refine cO (es2:=(List.map iC (cS l (b+1)))) (m':=(cS l (b+1)).length) 12 U U U pq U U (by simp [eH]) (bp (es:=List.map iC [(pI (1000*(my l (b:Int).toNat)) l.f_)]) 0 U U (by simp [bM]) U) (jP _) (by have:=eH (l:=l) (n:=b); first|omega|(simp; omega)) (by simp only [maxLen,eH]; omega) (by rw [wb]; simp [eB]) (by simp [eH]) U fun e g=>?_
  try dsimp only
  refine aD (J5 _ _ (aI [1,2,3,4,5,6,7,8,9,10,11,14]) ?_)
  refine cp U fun T38 J6=>jx (vs:=[(vS e ((cS l (b+1)).length) g)]) (cs':=(cu.cells (cu.mk (lq l kA kC cA cC bA bC) (lV r sgA sgC) (bq.mk e ((cS l (b+1)).length) g) (bq.mk (some ⟨B,0,none⟩) l.ae.length l.ae.length) (bq.mk none 0 0) (bq.mk none 0 0)))) (C':=[_,_,_,_,_,_,_,_,_,_,_,_,_,(cm AB 274 (cu.cells (cu.mk (lq l kA kC cA cC bA bC) (lV r sgA sgC) (bq.mk e ((cS l (b+1)).length) g) (bq.mk (some ⟨B,0,none⟩) l.ae.length l.ae.length) (bq.mk none 0 0) (bq.mk none 0 0)))),_]) 13 U U U xn U U U U U U U<|aD (J6 _ _ (aI [1,2,3,4,5,6,7,8,9,10,11,14]) ?_)
  refine fO U<|KK Cx<|al<|bo 1 U<|rS (SX (bQ U U) U U)<|rP 3 [] (mc 13 U mn) ?_
  refine nR (kV:=iV) U U fun J=>?_
  try dsimp only
  obtain ⟨RZ,Lo⟩:=aH (eM fb l.ae.length) b I
  have hx41m:(List.map oC (eM fb l.ae.length))[b]? =some (oC RZ):=by rw [fP,Lo]; rfl
  refine rS (IA b U (ag (n:=l.ae.length) 15 U sq) GK dc I I) ?_
  have J7:((eM fb l.ae.length).set b (some J))=(eM (fb++[J]) l.ae.length):=by exact vv I I
  refine dI (k:=b) (o:=0) (vs:=[(Value.map (some J))]) (es':=(List.map oC (eM (fb++[J]) l.ae.length))) (C':=[_,_,_,_,_,_,_,_,_,_,_,_,_,_,_,(own (some ⟨B,0,none⟩) l.ae.length 64 1 (List.map oC (eM (fb++[J]) l.ae.length)))]) 15 U U U NK U U U U hx41m U dc (by exact (List.map_set (f:=oC) (l:=(eM fb l.ae.length)) (i:=b) (a:=(some J))).symm.trans (congrArg _ J7)) U<|aD<|aG<|KK Ck<|al<|rP 2 [] mn ?_
  refine aD<|Ai (X':=aU sB (List.replicate (b+1) ([]:TM)) (fb++[J])) 12 0 U U (ND Y) ?_
  try dsimp only
  have J8:(vI (((b+1):Nat):Int))=(vI ((b:Int)+1)):=by exact cI I
  refine aR (A5 ⟨((b+1),e,g,(fb++[J])),⟨I,by simp; omega⟩⟩ _ _ _ U os (cR 8<|aY U J8<|dj.nil _) (aI [2,3,4,5,6,7,8,9,10,11,0,12,13,14]))
 refine bD<|ab<|ab<|aA<|KK B3<|aj fun _ C0=>WS fun _ C1=>rP 4 [] (mc 1 U mn) ?_
 refine RK C1<|ay ?_
 rw [show (List.replicate b ([]:TM))=ew l r.ai 0 from by rw [DZ,show b=l.ae.length by omega]]
 rw [show cS l b=cS l l.ae.length from by rw [show b=l.ae.length by omega]]
 have E:(0≤r.ai.length)∧(qQ l r.ai 0):=by exact ⟨Nat.zero_le _,z4⟩
 refine bK (ι:={z:Nat // (z≤r.ai.length)∧(qQ l r.ai z)}) [2,3,4,6,7,9,10,83,84] [1,2,3,4,5,6,7,8,9,11,12,13] U U (fun z=>[(85,(vI (z.1:Int)))]) (fun z=>[(cm V 123 (aJ.cells (m7 r.ai z.1))),(bB (aU sB (ew l r.ai z.1) fb))]) (fun _=>rfl) (fun _=>rfl) (fun z=>r.ai.length-z.1) ⟨0,E⟩ (aT U) (aI [1,2,3,4,5,6,7,8,9,11,12,13,0,10]) ?_
 clear E
 rintro ⟨i,⟨L3,A⟩⟩ J46 T
 try dsimp only
 have RG:(ew l r.ai i).length=l.ae.length:=jF
 have Q_:(eM fb l.ae.length).length=l.ae.length:=se I
 refine WS fun _ C2=>rP 1 [] mn ?_
 refine RK C2<|aj fun _ C3=>bO U (aO fun PP=>?_) (aP fun PP=>?_)
 ·refine bD<|ab<|ab<|aA<|KK C0<|aj fun _ GT=>aj fun _ Ge=>?_
  have j:fx l r:=BG I I A I
  refine al<|bo 3 U<|RK Ge<|ay<|j2 2<|eJ fun R81 In=>WS fun _ Go=>rS (SX (cf (r:= .bool true) U U U hE) U U)<|RK Go<|aj fun _ G1=>aN U<|WK G1<|aj fun _ Hi=>ay<|WS fun _ Hj=>rS (UL 0 0 U PW U dc U)<|fG 2 [] (mr 8 U mn) U<|RK Hj<|WS fun _ H1=>bo 1 U<|rS (SX (sZ U U U (hf) (bk [7])) U U)<|bo 1 U<|RK H1<|WS fun _ IO=>rP 2 [] mn ?_
  refine RK IO<|cE U (aZ fun K=>?_) (a_ fun K=>?_)
  ·refine WS fun _ IR=>rP 3 [] mn ?_
   refine RK IR<|ar<|LX hQ (false,me,0,none,0,none,0,[],[],[],none,0,[],[],none,0) [] [] mn U (by rfl) U U ?_
   exact sE<|I_ (qY C j K) K
  refine ck<|aG<|KK Hi<|al<|rS (SX (cf (r:= .int .i64 1) U U U (iE ⟨dc,dc⟩)) U U)<|rP 1 [] mn ?_
  refine RK In<|eJ fun R89 R1=>WS fun _ Id=>rS (SX (cf (r:= .bool false) U U U hE) U U)<|RK Id<|aj fun _ R0=>bh U<|bD<|ab<|ab<|aA<|KK GT<|aj fun _ If=>?_
  rw [show ew l r.ai i=ew l r.ai r.ai.length from by rw [show i=r.ai.length by omega]]
  have A0:(ew l r.ai r.ai.length).length=l.ae.length:=jF
  rw [show (List.map oC (eM fb l.ae.length))=(List.zipWith gS (ew l r.ai r.ai.length) fb) from Vk I A0]
  rw [show (cm AB 274 (cu.cells (cu.mk (lq l kA kC cA cC bA bC) (lV r sgA sgC) (bq.mk a ((cS l l.ae.length).length) c) (bq.mk (some ⟨B,0,none⟩) l.ae.length l.ae.length) (bq.mk none 0 0) (bq.mk none 0 0))))=(cm AB 274 (cu.cells (cu.mk (lq l kA kC cA cC bA bC) (lV r sgA sgC) (bq.mk a ((cS l l.ae.length).length) c) (bq.mk (some ⟨B,0,none⟩) ((ew l r.ai r.ai.length).length) l.ae.length) (bq.mk none 0 0) (bq.mk none 0 0)))) from by rw [A0]]
  have Lk:=o8 Li d j
  have R2:(cS l l.ae.length).length=l.ae.length:=eH
  refine al<|rP 1 [] mn ?_
  refine je 10 U U U U (Lv (lq l kA kC cA cC bA bC) (lV r sgA sgC) (cS l l.ae.length) (ew l r.ai r.ai.length) a c fb (some ⟨B,0,none⟩) l.ae.length AB (by exact Lk) (by exact eH.symm) (by rw [A0]; omega)) U (eA 9 U U (kq sm) (eA 11 U U (kq (by rw [List.length_zipWith]; omega)) (eA 13 U U um kG))) U (fun L0 Qq=>?_)
  obtain ⟨G,S,P,R,F,O,N,H⟩:=L0
  refine Na (X:=[(cm AB 274 (cu.cells (cu.mk (lq l kA kC cA cC bA bC) (lV r sgA sgC) (bq.mk a ((cS l l.ae.length).length) c) (bq.mk (some ⟨B,0,none⟩) ((ew l r.ai r.ai.length).length) l.ae.length) (bq.mk P G.length R) (bq.mk N F.length H)))),(own P R 278 1 (List.zipWith gS G S)),(bB (aU oq G S)),(own N H 278 1 (List.zipWith gS F O)),(bB (aU oq F O))]) 10 U U ?_
  try dsimp only
  obtain ⟨Av,LT,La,Lf⟩:=Qq
  dsimp only at Av LT La Lf
  refine RK If<|aj fun _ v=>WS fun _ w=>rP 1 [] mn ?_
  refine cX (Hr (lq l kA kC cA cC bA bC) (lV r sgA sgC) (cS l l.ae.length) (ew l r.ai r.ai.length) a c fb (some ⟨B,0,none⟩) l.ae.length G F S P R O N H AB (by exact Lk) (by (simp; omega)) (by exact eH.symm) (by exact Av) asm) (av (ag (n:=(cS l l.ae.length).length) 14 U sm)<|av (ag (n:=(ew l r.ai r.ai.length).length) 15 U (by rw [List.length_zipWith]; omega))<|av (dG 17 U yM)<|av (ag (n:=G.length) 1 U (by rw [List.length_zipWith]; omega))<|av (dG 2 U yM)<|av (ag (n:=F.length) 3 U (by rw [List.length_zipWith]; omega))<|av (dG 4 U yM)<|fM 0 U U<|aM) U fun L2 RP=>?_
  obtain ⟨Rh,Rk⟩:=L2
  try dsimp only
  refine rP 2 [] mn ?_
  refine RK w<|bO U (aO fun W=>?_) (aP fun W=>?_)
  ·refine WK v<|WS fun _ AC=>rP 3 [] mn ?_
   refine RK AC<|ar ?_
   refine LX hQ (true,0,AB,a,c,(some ⟨B,0,none⟩),l.ae.length,fb,G,S,P,R,F,O,N,H) [1,15,16,18,2,3,4,5] [] mn U (by (show List.all _ _=true; simp only [cond_true,fz,List.all_nil,KE,Sk,Bool.and_true]; rfl)) U U ?_
   exact ⟨fun _=>⟨l3 C j (by first|rfl|exact K) (fun q=>W (congrArg (fun z:List Int=>(z.length:Int)) q)),Av,LT,La,Lf,dso⟩,Nc⟩
  refine WS fun _ y=>rP 2 [] mn ?_
  refine RK y<|ar<|LX hQ (false,8,0,none,0,none,0,[],[],[],none,0,[],[],none,0) [] [] mn U (by rfl) U U ?_
  exact sE<|qy (p7 (me:=me) C j (by first|rfl|exact K) (show jU (cy l r)=[] from jS (Int.natCast_eq_zero.1 W)))
 refine WK C3<|aj fun _ AA=>ay<|WS fun _ DV=>rP 1 [] mn ?_
 obtain ⟨x,hx⟩:=aH r.ai i I
 have RH:=bJ aJ.cells hx
 refine rS (IA i U (aB 6 U) wv dc I I)<|rS (lS i 0 (aJ.cells x) U cb (aB 6 U) RH U dc U U)<|AL U Gh fun R6=>bo 1 U<|fW U xd U<|RK DV<|aj fun _ p=>WS fun _ L=>rP 6 [0,1] (mc 2 U (mc 0 U mn)) ?_
 refine du (xs:=[.tmp 95]) (cs:=[(vI x.gk)]) U cN jv U U U U (by simp [Value.cells]) U U fun NE=>?_
 refine rS (CL (er.eq (jf 0 ((l.ae.length:Int)-1) ([x.gk]) (some ⟨NE,0,none⟩) 1 (by (simp; done))) df) (av (bp 0 U U (by simp [bM]) U)<|aM) U) ?_
 refine rP 2 [] mn ?_
 refine cH (t:=99) U (aZ fun Pi=>?_) (a_ fun Pi=>?_)
 ·refine bo 27 U<|RK L<|aN U<|WS fun _ Di=>rP 2 [] mn ?_
  refine RK Di<|ar<|LX hQ (false,51,0,none,0,none,0,[],[],[],none,0,[],[],none,0) [] [] mn U (by rfl) U U ?_
  exact sE<|qy (ju (me:=me) C (wI hx (by unfold kx lE; omega)))
 refine rP 2 [] (mc 1 U mn) ?_
 refine du (xs:=[.tmp 101]) (cs:=[(vI x.Read)]) U cN jv U U U U (by simp [Value.cells]) U U fun Ne=>?_
 refine rS (CL (er.eq (jf 0 86400000 ([x.Read]) (some ⟨Ne,0,none⟩) 1 (by (simp; done))) df) (av (bp 0 U U (by simp [bM]) U)<|aM) U) ?_
 refine rP 3 [] mn ?_
 refine cH (t:=106) U (aZ fun A1=>?_) (a_ fun A1=>?_)
 ·refine bo 20 U<|RK L<|aN U<|WS fun _ Do=>rP 2 [] mn ?_
  refine RK Do<|ar<|LX hQ (false,51,0,none,0,none,0,[],[],[],none,0,[],[],none,0) [] [] mn U (by rfl) U U ?_
  exact sE<|qy (ju (me:=me) C (wI hx (by unfold kx lE; omega)))
 refine rP 7 [0,1] (mc 2 U (mc 15 U mn)) ?_
 refine cH (t:=113) U (aP fun A2=>?_) (aO fun A2=>?_)
 ·refine bo 13 U<|RK L<|aN U<|WS fun _ EQ=>rP 2 [] mn ?_
  refine RK EQ<|ar<|LX hQ (false,51,0,none,0,none,0,[],[],[],none,0,[],[],none,0) [] [] mn U (by rfl) U U ?_
  exact sE<|qy (ju (me:=me) C (wI hx (by unfold kx lE; omega)))
 refine rP 6 [0,1] (mc 2 U (mc 15 U mn)) ?_
 refine cj (t:=119) U (aO fun A3=>?_) (aP fun A3=>?_)
 ·refine bo 7 U<|RK L<|bh U<|WK p<|aj fun _ u=>WS fun _ Fn=>fG 2 [0,1] (mc 4 U (mc 2 U mn)) U<|rS (CL (Ku l kA kC az cA cC bA bC x hin asm I) (bk [5,6,7,8]) U)<|AL U dx fun R8=>fW U cz U<|RK Fn<|WS fun _ GE=>rP 5 [] (mc 0 U mn) ?_
  refine RK GE<|bO U (aO fun D=>?_) (aP fun D=>?_)
  ·refine WK u<|al<|rP 1 [] (mc 3 U mn) ?_
   refine jx (vs:=(aJ.cells x)) (cs':=(aJ.cells x)) (C':=[_,_,_,_,_,_,_,_,_,_,_,_,_,_,_,_,(cm V 123 (aJ.cells x)),_]) 16 U U U xd U U U U U U U<|aD<|aG<|KK AA ?_
   have K5:(aJ.cells x)=(aJ.cells (m7 r.ai (i+1))):=by rw [pS hx]
   rw [K5]
   refine al<|rP 2 [] mn ?_
   refine aD ?_
   rw [show (ew l r.ai i)=(ew l r.ai (i+1)) from (xp hx D).symm]
   have K8:(vI (((i+1):Nat):Int))=(vI ((i:Int)+1)):=by exact cI I
   refine aR (T ⟨(i+1),⟨I,mm A hx (by unfold kx lE; omega)⟩⟩ _ _ _ U os (cR 9<|aY U K8<|dj.nil _) (aI [4,5,6,7,8,9,10,11,12,13,14,15,16,17]))
  obtain ⟨mb,Z⟩:=aH (ew l r.ai i) ((x.gk).toNat) I
  obtain ⟨ga,M⟩:=aH fb ((x.gk).toNat) I
  refine GH 17 Z M U U U ?_
  try dsimp only
  refine dg cv 10 kr<|lQ 1 U<|dS (SX (bQ U U) U U)<|dP 4 [0,1] (mc 16 U (mc 5 U mn)) ?_
  have LE:(List.map oC (eM fb l.ae.length))[(x.gk).toNat]? =some (oC (some ga)):=sR (pz M)
  refine dS (IA ((x.gk).toNat) U (ag (n:=l.ae.length) 17 U sq) GK dc I I) ?_
  refine dS (fX ((x.gk).toNat) 0 (Value.map (some ga)) U cb (ag (n:=(eM fb l.ae.length).length) 17 U sm) LE U dc U)<|mw 2 [] (mc 2 U mn) U<|cM<|jl (kV:=iV) (x:=(i:Int)) (C':=[(im iV ga (bS dE (eP mb (i:Int) (cP l x)))),_,_,_,_,_,_,_,_,_,_,_,_,_,_,_,_,_,_]) 0 U U U U lv (dT mX) U (gX _ _ _ _).symm U<|RK u<|al<|rP 1 [] (mc 5 U mn) ?_
  refine jx (vs:=(aJ.cells x)) (cs':=(aJ.cells x)) (C':=[_,_,_,_,_,_,_,_,_,_,_,_,_,_,_,_,_,_,(cm V 123 (aJ.cells x))]) 18 U U U xd U U U U U U U<|aD<|aG<|KK AA ?_
  have K0:(aJ.cells x)=(aJ.cells (m7 r.ai (i+1))):=by rw [pS hx]
  rw [K0]
  refine al<|rP 2 [] mn ?_
  refine aD ?_
  refine Kb (f:=sB) (ms:=(ew l r.ai i)) (m:=(eP mb (i:Int) (cP l x))) 1 0 (by rw [jF]; omega) M U U U ?_
  rw [zR hx I D Z]
  have K4:(vI (((i+1):Nat):Int))=(vI ((i:Int)+1)):=by exact cI I
  refine aR (T ⟨(i+1),⟨I,mm A hx (by unfold kx lE; omega)⟩⟩ _ _ _ U os (cR 9<|aY U K4<|dj.nil _) (aI [5,6,7,8,9,10,11,12,13,14,15,16,17,0]))
 refine rP 7 [0,1] (mc 2 U (mc 15 U mn)) ?_
 refine RK L<|cE U (aP fun A4=>?_) (aO fun A4=>?_)
 ·refine WS fun _ Eq=>rP 2 [] mn ?_
  refine RK Eq<|ar<|LX hQ (false,51,0,none,0,none,0,[],[],[],none,0,[],[],none,0) [] [] mn U (by rfl) U U ?_
  exact sE<|qy (ju (me:=me) C (wI hx (by unfold kx lE; omega)))
 refine WK p<|aj fun _ s=>WS fun _ FS=>fG 2 [0,1] (mc 4 U (mc 2 U mn)) U<|rS (CL (Ku l kA kC az cA cC bA bC x hin asm I) (bk [5,6,7,8]) U)<|AL U dx fun R7=>fW U cz U<|RK FS<|WS fun _ Fd=>rP 5 [] (mc 0 U mn) ?_
 refine RK Fd<|bO U (aO fun D=>?_) (aP fun D=>?_)
 ·refine WK s<|al<|rP 1 [] (mc 3 U mn) ?_
  refine jx (vs:=(aJ.cells x)) (cs':=(aJ.cells x)) (C':=[_,_,_,_,_,_,_,_,_,_,_,_,_,_,_,_,(cm V 123 (aJ.cells x)),_]) 16 U U U xd U U U U U U U<|aD<|aG<|KK AA ?_
  have Kp:(aJ.cells x)=(aJ.cells (m7 r.ai (i+1))):=by rw [pS hx]
  rw [Kp]
  refine al<|rP 2 [] mn ?_
  refine aD ?_
  rw [show (ew l r.ai i)=(ew l r.ai (i+1)) from (xp hx D).symm]
  have Kx:(vI (((i+1):Nat):Int))=(vI ((i:Int)+1)):=by exact cI I
  refine aR (T ⟨(i+1),⟨I,mm A hx (by unfold kx lE; omega)⟩⟩ _ _ _ U os (cR 9<|aY U Kx<|dj.nil _) (aI [4,5,6,7,8,9,10,11,12,13,14,15,16,17]))
 obtain ⟨mb,Z⟩:=aH (ew l r.ai i) ((x.gk).toNat) I
 obtain ⟨ga,M⟩:=aH fb ((x.gk).toNat) I
 refine GH 17 Z M U U U ?_
 try dsimp only
 refine dg cv 10 kr<|lQ 1 U<|dS (SX (bQ U U) U U)<|dP 4 [0,1] (mc 16 U (mc 5 U mn)) ?_
 have LA:(List.map oC (eM fb l.ae.length))[(x.gk).toNat]? =some (oC (some ga)):=sR (pz M)
 refine dS (IA ((x.gk).toNat) U (ag (n:=l.ae.length) 17 U sq) GK dc I I) ?_
 refine dS (fX ((x.gk).toNat) 0 (Value.map (some ga)) U cb (ag (n:=(eM fb l.ae.length).length) 17 U sm) LA U dc U)<|mw 2 [] (mc 2 U mn) U<|cM<|jl (kV:=iV) (x:=(i:Int)) (C':=[(im iV ga (bS dE (eP mb (i:Int) (cP l x)))),_,_,_,_,_,_,_,_,_,_,_,_,_,_,_,_,_,_]) 0 U U U U lv (dT mX) U (gX _ _ _ _).symm U<|RK s<|al<|rP 1 [] (mc 5 U mn) ?_
 refine jx (vs:=(aJ.cells x)) (cs':=(aJ.cells x)) (C':=[_,_,_,_,_,_,_,_,_,_,_,_,_,_,_,_,_,_,(cm V 123 (aJ.cells x))]) 18 U U U xd U U U U U U U<|aD<|aG<|KK AA ?_
 have J9:(aJ.cells x)=(aJ.cells (m7 r.ai (i+1))):=by rw [pS hx]
 rw [J9]
 refine al<|rP 2 [] mn ?_
 refine aD ?_
 refine Kb (f:=sB) (ms:=(ew l r.ai i)) (m:=(eP mb (i:Int) (cP l x))) 1 0 (by rw [jF]; omega) M U U U ?_
 rw [zR hx I D Z]
 have KY:(vI (((i+1):Nat):Int))=(vI ((i:Int)+1)):=by exact cI I
 refine aR (T ⟨(i+1),⟨I,mm A hx (by unfold kx lE; omega)⟩⟩ _ _ _ U os (cR 9<|aY U KY<|dj.nil _) (aI [5,6,7,8,9,10,11,12,13,14,15,16,17,0]))
end
section
open Go.RowKit
theorem MC (l:bf) (kA:OA) (kC:Nat) (az:List RA) (cA:OA) (cC:Nat) (bA:OA) (bC:Nat) (r:cL) (sgA:OA) (sgC:Nat) (bq_:Int) (hin:ep l az) (hsl:r.ai.length≤1000000):
 er Tryz.prog 204 [(vA (bV.cells (lq l kA kC cA cC bA bC))),(vA (dL.cells (lV r sgA sgC))),(vI bq_)] [(rd kA l.aL.length 9 (l.aL.map ak.cells)),(rd cA l.ah.length 2 (List.zipWith aq.cells l.ah az)),(eX (aU aq.gE l.ah az)),(rd bA l.ae.length 4 (l.ae.map bG.cells)),(rd sgA r.ai.length 2 (r.ai.map aJ.cells))] (vT [(vA (aa.cells (fh l r bq_))),(vI (e8 l r bq_))]):=by
 have J7:=hin.sx
 have JR:=hin.sG
 have IO:=hin.mW
 have If:=hin.sk
 have J5:=hin.side
 refine bI kr Tryz.func204 U U fun w0 Q hQ hN=>?_
 try dsimp only
 refine WS fun _ A1=>fK U fun b2=>fK U fun b3=>uP U U fun b4=>AL U dx fun b5=>bo 1 U<|RK A1<|WS fun _ p=>rP 2 [0,1] (mc 3 U (mc 2 U mn)) ?_
 refine rS (FU U)<|du (xs:=[.tmp 17]) (cs:=[(Value.func (.func 206) [].toArray [(vP b2),(vP b4)].toArray)]) U PW TV U U U U (by simp [Value.cells]) U U fun b7=>cX (N9 l kA kC az cA cC bA bC r sgA sgC (Value.func (.func 206) [].toArray [(vP b2),(vP b4)].toArray) (eX [(rd kA l.aL.length 9 (l.aL.map ak.cells)),(rd cA l.ah.length 2 (List.zipWith aq.cells l.ah az)),(eX (aU aq.gE l.ah az)),(rd bA l.ae.length 4 (l.ae.map bG.cells)),(cm b2 31 (bV.cells (lq l kA kC cA cC bA bC))),(cm b4 3 [(vI bq_)])]) (jW l bq_) b7 (by exact n_ (fi:=[]) (ca:=[(vP b2),(vP b4)]) (mz (EG l kA kC az cA cC bA bC b2 bq_ b4 (by first|assumption|omega)) (bk [0,1,2,3,4,5]))) hin hsl) (l5 [5,6,7,8,9]<|av (mE (bk [5,6,7,8,4,2]))<|fM 0 U U<|aM) U fun y8 Cx=>?_
 obtain ⟨C0,Ge,E,H,AB,g,j,m,B,L,J,K,A,G,d,f⟩:=y8
 cases C0
 ·obtain ⟨B9,he⟩:=Cx.2 rfl
  try dsimp only at B9 he
  subst B9
  try dsimp only [cond_true,cond_false,List.cons_append,List.nil_append]
  refine bo 5 U<|RK p<|aj fun _ Go=>WS fun _ A9=>rP 2 [] mn ?_
  refine RK A9<|bO U (a_ fun A8=>?_) (aZ fun A8=>?_)
  ·exact absurd A8 he
  refine WS fun _ BX=>rS (SX (bu (xs:=[]) (cs:=(aa.cells (aa.mk 0 0))) U U (br gG U)) U U)<|bo 1 U<|sj U cz U<|rP 1 [] mn ?_
  refine RK BX<|ar<|lP hQ [0] (mc 1 U mn) U ?_
  (have e:=oe (b:=bq_) he; rw [e.1,e.2]<;>rfl)
 obtain ⟨he,D,C,DV,C3,EQ⟩:=Cx.1 rfl
 try dsimp only [cond_true,cond_false,List.cons_append,List.nil_append]
 dsimp only at D C DV C3 EQ
 obtain ⟨C2,A5,Do,J2⟩:=kg he
 obtain ⟨Eq,Ck⟩:=gT C2
 have Di:=Ck.head
 unfold gJ at Di
 have FS:=o8 Eq Ck A5
 have J4:=A5.time
 have J3:=A5.len
 have Ci:(cS l l.ae.length).length=l.ae.length:=eH
 have Cp:(ew l r.ai r.ai.length).length=l.ae.length:=jF
 have Jm:B.length=l.ae.length+1:=by have:=D.len; rw [show (cy l r).n=l.ae.length from eH] at this; exact this
 have In:A.length=l.ae.length+1:=by have:=C.len; rw [show (cy l r).n=l.ae.length from eH] at this; exact this
 obtain ⟨IR,Id⟩:=Eo Do
 obtain ⟨b,A2⟩: ∃ b:Nat,bq_=(b:Int):=⟨bq_.toNat,I⟩
 rw [A2]
 refine bo 5 U<|RK p<|aj fun _ N=>WS fun _ O=>bo 1 U<|rS (SX (cf (r:= .bool false) U U U m_) U U)<|RK O<|bh U<|WK N<|WS fun _ P=>rS (SX (bu (xs:=[(0,.const (vI 1))]) (cs:=(aa.cells (aa.mk 1 0))) U U (br gG U)) U U)<|AL U dx fun A6=>fW U cz U<|RK P<|WS fun _ R=>fG 1 [] (mc 0 U mn) U<|AL U dx fun A7=>fW U cz U<|RK R<|aj fun _ T=>WS fun _ AA=>rP 2 [] (mc 12 U mn) ?_
 obtain ⟨mf,Y⟩:=aH B b I
 obtain ⟨mb,Z⟩:=aH A (b+1) I
 refine cX (Kv E b) (aM) U fun Fn G1=>?_
 obtain ⟨AC,AO⟩:=Fn
 try dsimp only
 refine RK AA<|ay ?_
 refine oc (L0:=[(3,(vP b2)),(4,(vP b3)),(5,(vP b4)),(6,(vP b5)),(7,(vI 0)),(10,(vP A6)),(11,(vP A7))]) (F:=[(own H AB 3 1 ((cS l l.ae.length).map iC)),(own g j 64 1 (List.zipWith gS (ew l r.ai r.ai.length) m)),(bB (aU sB (ew l r.ai r.ai.length) m)),(own J K 278 1 (List.zipWith gS B L)),(bB (aU oq B L)),(own d f 278 1 (List.zipWith gS A G)),(bB (aU oq A G)),(cm E 274 (cu.cells (cu.mk (lq l kA kC cA cC bA bC) (lV r sgA sgC) (bq.mk H ((cS l l.ae.length).length) AB) (bq.mk g ((ew l r.ai r.ai.length).length) j) (bq.mk J B.length K) (bq.mk d A.length f)))),(cm AC 263 [(vP E)]),(cm AO 3 [(vI (b:Int))])]) (fun k (y:aa)=>(kD k y)∧(∀ q∈k,q∈qm (cy l r) b mf mb)) (fun k y=>[(cm A7 40 (aa.cells y)),(cm A6 40 (aa.cells (aa.mk 1 0))),(cm b5 40 (aa.cells (aa.mk 0 0))),(cm b4 3 [(vI (b:Int))]),(cm b3 43 (dL.cells (lV r sgA sgC))),(cm b2 31 (bV.cells (lq l kA kC cA cC bA bC))),(rd kA l.aL.length 9 (l.aL.map ak.cells)).ro,(rd cA l.ah.length 2 (List.zipWith aq.cells l.ah az)).ro,(eX (aU aq.gE l.ah az)).ro,(rd bA l.ae.length 4 (l.ae.map bG.cells)).ro,(rd sgA r.ai.length 2 (r.ai.map aJ.cells)).ro]) (fun _ (_:Unit)=>False) (fun _ _=>[]) [2,3,13,14,15,16,17,18,19,20,21] [5,6,7,8,9,10,11,4,0,1] mN rfl rfl (Hm (lq l kA kC cA cC bA bC) (lV r sgA sgC) (cS l l.ae.length) (ew l r.ai r.ai.length) H AB m g j B A L J K G d f E b AC AO mf mb (by rw [Ci]; omega) (by exact FS) (by rw [Cp]; omega) (by exact D) I (by exact C) I (by show r.ai.length≤1000; omega) (by exact Y) (by exact Z)) rfl rfl rfl (by exact ⟨DC,fun q hq=>by cases hq⟩) (by simp only [List.forall_mem_cons,List.not_mem_nil,false_imp_iff,implies_true,and_true]; exact ⟨⟨_,aS (i:=0) rfl,(kq sm)⟩,⟨_,aS (i:=1) rfl,(kq (by rw [List.length_zipWith]; omega))⟩,⟨_,aS (i:=2) rfl,um⟩,⟨_,aS (i:=3) rfl,(kq (by rw [List.length_zipWith]; omega))⟩,⟨_,aS (i:=4) rfl,um⟩,⟨_,aS (i:=5) rfl,(kq (by rw [List.length_zipWith]; omega))⟩,⟨_,aS (i:=6) rfl,um⟩,⟨_,aS (i:=7) rfl,(bU _)⟩,⟨_,aS (i:=8) rfl,(bU _)⟩,⟨_,aS (i:=9) rfl,(bU _)⟩⟩) (by rintro k x k2 ⟨o,_,rfl,_⟩; rfl) rfl (aT rfl) ?_ ?_ (fun _ _ _ h=>h.elim) (fun _ _ h=>h.elim)
 ·rintro k x k2 h lr ra rb S w1 K41 Qr42 J6 hx A3 B3 X Fd GE
  obtain ⟨q,hq,rfl,rfl⟩:=hx
  obtain ⟨a,c⟩:=A3
  try dsimp only
  refine al<|AL U dx fun Hj=>fW U cz U<|aD<|jT (fun _ _ h=>h) (aI [1,0,2,3,4,5,6,7,8,9,10,11,12])<|aR (B3 _ _ ?_)
  refine ay<|aj fun _ s=>WS fun _ B7=>rP 2 [0,1] (mc 2 U (mc 3 U mn)) ?_
  refine rS (BI U (PH _ _ h (aa.mk 1 0)))<|RK B7<|bO U (a_ fun M=>?_) (aZ fun M=>?_)
  ·refine WK s<|al<|rP 1 [] (mc 1 U mn) ?_
   refine Gx U cz U<|aD<|aG ?_
   exact X q.2 _ _ (by refine ⟨zy a (nq hq) ?_,fun z hz=>?_⟩; (first|exact if_neg M|exact if_pos M); (rcases dQ.1 hz with hz|hz; exact c z hz; (rw [bP.1 hz]; exact hq))) (aI [0,2,3,4,5,6,7,8,9,10,11,12])
  refine al<|fG 4 [0,1] (mc 1 U (mc 2 U mn)) U<|rS (MN U)<|fG 4 [0,1] (mc 1 U (mc 2 U mn)) U<|rS (MX U)<|rS (SX (bu (xs:=[(0,.tmp 40),(1,.tmp 45)]) (cs:=(aa.cells (aa.mk (min q.2.Lo h.Lo) (max q.2.Hi h.Hi)))) U U (br gG U)) U U)<|sj U cz U<|RK s<|al<|rP 1 [] (mc 1 U mn) ?_
  refine Gx U cz U<|aD<|aG ?_
  exact X (aa.mk (min q.2.Lo h.Lo) (max q.2.Hi h.Hi)) _ _ (by refine ⟨zy a (nq hq) ?_,fun z hz=>?_⟩; (first|exact if_neg M|exact if_pos M); (rcases dQ.1 hz with hz|hz; exact c z hz; (rw [bP.1 hz]; exact hq))) (aI [0,2,3,4,5,6,7,8,9,10,11,12])
 rintro J9 k h v A4
 obtain ⟨a,c⟩:=A4
 try dsimp only
 refine aG<|KK T<|aj fun _ V=>WS fun _ W=>rP 2 [0,1] (mc 11 U (mc 12 U mn)) ?_
 refine rS (BI U (sS _ _ h (aa.mk 1 0)))<|RK W<|bO U (aO fun A0=>?_) (aP fun A0=>?_)
 ·refine WK V<|WS fun _ u=>fG 1 [] (mc 11 U mn) U<|jx (vs:=(aa.cells h)) (cs':=(aa.cells h)) (C':=[_,_,_,_,_,_,_,_,_,_,_,_,_,(cm b5 40 (aa.cells h)),_,_,_,_,_,_,_,_]) 13 U U U cz U U U U U U U<|rP 1 [] mn ?_
  refine RK u<|ar<|hQ _ _ _ (oW 0 U U<|ic (vs:=[(vA (aa.cells h)),(vI 0)]) ⟨⟨_,U,.inl ⟨_,_,cb,qh (vs:=(aa.cells h)) 13 U U,U,U⟩⟩,U,trivial⟩ fun w hs=>Fe ?_ hs)
  show (vT [(vA (aa.cells h)),(vI 0)])=(vT [(vA (aa.cells (fh l r bq_))),(vI (e8 l r bq_))])
  clear hs w hQ hN u W V AA T R P O N p A1
  (rw [A2] at he ⊢; have hh:h=mT l r b:=zc (D.min _ _ Y) (C.max _ _ Z) (D.keys _ _ Y) (C.keys _ _ Z) c v a; (have e:=ox he (fun q=>A0 (hh.trans q)); rw [e.1,e.2,hh]<;>rfl))
 refine WS fun _ t=>rS (SX (bu (xs:=[]) (cs:=(aa.cells (aa.mk 0 0))) U U (br gG U)) U U)<|jx (vs:=(aa.cells (aa.mk 0 0))) (cs':=(aa.cells (aa.mk 0 0))) (C':=[_,_,_,_,_,_,_,_,_,_,_,_,_,(cm b5 40 (aa.cells (aa.mk 0 0))),_,_,_,_,_,_,_,_]) 13 U U U cz U U U U U U U<|rP 1 [] mn ?_
 refine RK t<|ar<|hQ _ _ _ (oW 0 U U<|ic (vs:=[(vA (aa.cells (aa.mk 0 0))),(vI 6)]) ⟨⟨_,U,.inl ⟨_,_,cb,qh (vs:=(aa.cells (aa.mk 0 0))) 13 U U,U,U⟩⟩,U,trivial⟩ fun w hs=>Fe ?_ hs)
 show (vT [(vA (aa.cells (aa.mk 0 0))),(vI 6)])=(vT [(vA (aa.cells (fh l r bq_))),(vI (e8 l r bq_))])
 clear hs w hQ hN t W V AA T R P O N p A1
 (rw [A2] at he ⊢; have hh:h=mT l r b:=zc (D.min _ _ Y) (C.max _ _ Z) (D.keys _ _ Y) (C.keys _ _ Z) c v a; (have e:=rh he (hh.symm.trans A0); rw [e.1,e.2]<;>rfl))
theorem Sj (l:bf) (kA:OA) (kC:Nat) (az:List RA) (cA:OA) (cC:Nat) (bA:OA) (bC:Nat) (r:cL) (sgA:OA) (sgC:Nat) (hin:ep l az) (hsl:r.ai.length≤1000000):
 er Tryz.prog 203 [(vA (bV.cells (lq l kA kC cA cC bA bC))),(vA (dL.cells (lV r sgA sgC)))] [(rd kA l.aL.length 9 (l.aL.map ak.cells)),(rd cA l.ah.length 2 (List.zipWith aq.cells l.ah az)),(eX (aU aq.gE l.ah az)),(rd bA l.ae.length 4 (l.ae.map bG.cells)),(rd sgA r.ai.length 2 (r.ai.map aJ.cells))] (vT [(vA (aa.cells (AA l r))),(vI (e8 l r l.cq))]):=by
 have N:=hin.sx
 have J:=hin.sG
 have H:=hin.mW
 have AB:=hin.sk
 have M:=hin.side
 refine bI kr Tryz.func203 U U fun T Q hQ hN=>?_
 try dsimp only
 refine WS fun _ C=>fK U fun O=>fK U fun P=>AL U dx fun R=>bo 1 U<|RK C<|WS fun _ D=>fG 4 [0,1] (mc 2 U (mc 1 U mn)) U<|rS (CL (MC l kA kC az cA cC bA bC r sgA sgC l.cq hin hsl) (bk [3,4,5,6,7]) U)<|bo 3 U<|AL U dx fun S=>fW U cz U<|bo 1 U<|RK D<|aj fun _ E=>WS fun _ F=>rP 2 [] mn ?_
 refine RK F<|cE U (aZ fun A=>?_) (a_ fun A=>?_)
 ·refine WS fun _ G=>rS (SX (bu (xs:=[]) (cs:=(aa.cells (aa.mk 0 0))) U U (br gG U)) U U)<|bo 1 U<|sj U cz U<|rP 1 [] mn ?_
  refine RK G<|ar<|lP hQ [0] (mc 1 U mn) U ?_
  (rw [E0 A]<;>rfl)
 refine WK E<|WS fun _ B=>rP 4 [0,1] (mc 0 U (mc 2 U mn)) ?_
 have K:=w8 A
 have L:=(we A).time
 refine fG 6 [0,1] (mc 0 U (mc 2 U mn)) U<|rS (SX (bu (xs:=[(0,.tmp 24),(1,.tmp 29)]) (cs:=(aa.cells (aa.mk (((fh l r l.cq).Lo)-r.Start) (((fh l r l.cq).Hi)-r.Start)))) U U (br gG U)) U U)<|sj U cz U<|rP 1 [] mn ?_
 refine RK B<|ar<|lP hQ [0] (mc 1 U mn) U ?_
 (rw [Bi A,A]<;>rfl)
end
section
open Go.RowKit
theorem NF (l:bf) (kA:OA) (kC:Nat) (az:List RA) (cA:OA) (cC:Nat) (bA:OA) (bC:Nat) (d:au) (sgA:OA) (sgC:Nat) (hin:ep l az):
 er Tryz.prog 197 [(vA (bV.cells (lq l kA kC cA cC bA bC))),(vA (bg.cells (bg.mk d.Out d.dZ d.Time (lV d.b_ sgA sgC))))] [(rd kA l.aL.length 9 (l.aL.map ak.cells)),(rd cA l.ah.length 2 (List.zipWith aq.cells l.ah az)),(eX (aU aq.gE l.ah az)),(rd bA l.ae.length 4 (l.ae.map bG.cells)),(rd sgA d.b_.ai.length 2 (d.b_.ai.map aJ.cells))] (vT [(vA (aa.cells d.Time)),(vB (decide (d.dZ=false∧d.Time=dN∧mG d.b_)))]):=by
 refine bI kr Tryz.func197 U U fun K Q hQ hN=>?_
 try dsimp only
 refine WS fun _ B=>fK U fun H=>fK U fun AA=>AL U dx fun J=>rP 1 [] mn ?_
 refine RK B<|aj fun _ A=>dJ cv [15] [] [] [1,2,3,4,5,6,7] [] U U U U U<|eS U (FA 2 U fw U)<|eS U (LP (aa.cells d.Time) 0 U cb U U U)<|eS U (FA 1 U fw U)<|eS U (L1 (vB d.dZ) 0 U cb U U)<|eS U (NT U)<|eS U (MV U)<|rO (t:=11) U (fun G=>?_) (fun G=>?_)
 rotate_left 1
 ·rw [Bool.not_eq_false'] at G
  refine eS U (OX U)<|eS U (OX U)<|eS U (OX U)<|eS U (OX U)<|eS U (PK U)<|eS U (MV U)<|eS U (OX U)<|eS U (OX U)<|eS U (PK U)<|eS U (AG U)<|eT U<|cp U fun T10 C=>fW U cz U<|aD (C _ _ (aI [1,2,3,4,5,6,7]) ?_)
  refine fO U<|KK A<|ar<|lP hQ [0] (mc 0 U mn) U ?_
  clear hQ hN C T10 A B
  refine congrArg (fun z=>Value.tuple #[_,vB z]) ?_
  first|rfl|(simp_all [dN]; done)
 rw [Bool.not_eq_true'] at G
 refine eS U (FA 2 U fw U)<|eS U (LP (aa.cells d.Time) 0 U cb U U U)<|eS U (SX (bu (xs:=[]) (cs:=(aa.cells (aa.mk 0 0))) U U (br gG U)) U U)<|eS U (BI U (sS _ _ d.Time (aa.mk 0 0)))<|eS U (PK U)<|eS U (MV U)<|rO (t:=17) U (fun D=>?_) (fun D=>?_)
 rotate_left 1
 ·replace D:=DF D
  refine eS U (OX U)<|eS U (OX U)<|eS U (PK U)<|eS U (AG U)<|eT U<|cp U fun T9 F=>fW U cz U<|aD (F _ _ (aI [1,2,3,4,5,6,7]) ?_)
  refine fO U<|KK A<|ar<|lP hQ [0] (mc 0 U mn) U ?_
  clear hQ hN F T9 A B
  refine congrArg (fun z=>Value.tuple #[_,vB z]) ?_
  first|rfl|(simp_all [dN]; done)
 replace D:=DT D
 refine eS U (LW 0 U cb U U)<|eS U (CL (JK d sgA sgC) (bk [6]) U)<|eS U (PK U)<|eS U (AG U)<|eT U<|cp U fun T8 E=>fW U cz U<|aD (E _ _ (aI [1,2,3,4,5,6,7]) ?_)
 refine fO U<|KK A<|ar<|lP hQ [0] (mc 0 U mn) U ?_
 clear hQ hN E T8 A B
 refine congrArg (fun z=>Value.tuple #[_,vB z]) ?_
 first|rfl|(simp_all [dN]; done)
theorem Ny (l:bf) (kA:OA) (kC:Nat) (az:List RA) (cA:OA) (cC:Nat) (bA:OA) (bC:Nat) (d:au) (sgA:OA) (sgC:Nat) (hin:ep l az):
 er Tryz.prog 200 [(vA (bV.cells (lq l kA kC cA cC bA bC))),(vA (bg.cells (bg.mk d.Out d.dZ d.Time (lV d.b_ sgA sgC))))] [(rd kA l.aL.length 9 (l.aL.map ak.cells)),(rd cA l.ah.length 2 (List.zipWith aq.cells l.ah az)),(eX (aU aq.gE l.ah az)),(rd bA l.ae.length 4 (l.ae.map bG.cells)),(rd sgA d.b_.ai.length 2 (d.b_.ai.map aJ.cells))] (vT [(vA (aa.cells d.Time)),(vB (decide (iP d.Time∧mG d.b_)))]):=by
 refine bI kr Tryz.func200 U U fun AA Q hQ hN=>?_
 try dsimp only
 refine WS fun _ B=>fK U fun F=>fK U fun G=>AL U dx fun H=>rP 1 [] mn ?_
 refine RK B<|aj fun _ A=>dJ cv [9] [] [] [1,2,3,4,5,6,7] [] U U U U U<|eS U (FA 2 U fw U)<|eS U (LP (aa.cells d.Time) 0 U cb U U U)<|eS U (FA 2 U fw U)<|eS U (LP (aa.cells d.Time) 0 U cb U U U)<|eS U (CL (F3 d.Time) (aM) U)<|eS U (MV U)<|rO (t:=11) U (fun C=>?_) (fun C=>?_)
 rotate_left 1
 ·replace C:=DF C
  refine eS U (OX U)<|eS U (OX U)<|eS U (PK U)<|eS U (AG U)<|eT U<|cp U fun T8 E=>fW U cz U<|aD (E _ _ (aI [1,2,3,4,5,6,7]) ?_)
  refine fO U<|KK A<|ar<|lP hQ [0] (mc 0 U mn) U ?_
  clear hQ hN E T8 A B
  refine congrArg (fun z=>Value.tuple #[_,vB z]) ?_
  first|rfl|(simp_all; done)
 replace C:=DT C
 refine eS U (LW 0 U cb U U)<|eS U (CL (JK d sgA sgC) (bk [6]) U)<|eS U (PK U)<|eS U (AG U)<|eT U<|cp U fun T7 D=>fW U cz U<|aD (D _ _ (aI [1,2,3,4,5,6,7]) ?_)
 refine fO U<|KK A<|ar<|lP hQ [0] (mc 0 U mn) U ?_
 clear hQ hN D T7 A B
 refine congrArg (fun z=>Value.tuple #[_,vB z]) ?_
 first|rfl|(simp_all; done)
theorem OS (l:bf) (kA:OA) (kC:Nat) (az:List RA) (cA:OA) (cC:Nat) (bA:OA) (bC:Nat) (d:au) (sgA:OA) (sgC:Nat) (hin:ep l az) (hsl:d.b_.ai.length≤1000000):
 er Tryz.prog 202 [(vA (bV.cells (lq l kA kC cA cC bA bC))),(vA (bg.cells (bg.mk d.Out d.dZ d.Time (lV d.b_ sgA sgC))))] [(rd kA l.aL.length 9 (l.aL.map ak.cells)),(rd cA l.ah.length 2 (List.zipWith aq.cells l.ah az)),(eX (aU aq.gE l.ah az)),(rd bA l.ae.length 4 (l.ae.map bG.cells)),(rd sgA d.b_.ai.length 2 (d.b_.ai.map aJ.cells))] (vT [(vA (aa.cells (AA l d.b_))),(vB (decide (e8 l d.b_ l.cq=0∧d.Time=dN)))]):=by
 have K:=hin.sx
 have AB:=hin.sG
 have G:=hin.mW
 have H:=hin.sk
 have J:=hin.side
 refine bI kr Tryz.func202 U U fun P Q hQ hN=>?_
 try dsimp only
 refine WS fun _ C=>fK U fun L=>fK U fun M=>AL U dx fun N=>bo 1 U<|RK C<|WS fun _ D=>fG 2 [] (mc 2 U mn) U<|rS (LP (dL.cells (lV d.b_ sgA sgC)) 1 U cb U U U)<|rS (CL (Sj l kA kC az cA cC bA bC d.b_ sgA sgC hin hsl) (bk [3,4,5,6,7]) U)<|bo 3 U<|AL U dx fun O=>fW U cz U<|rP 1 [] mn ?_
 refine RK D<|aj fun _ A=>dJ cv [9] [] [] [0,2,3,4,5,6,7,8] [] U U U U U<|eS U (LW 0 U cb U U)<|eS U (MV U)<|eS U (BI U mO)<|eS U (MV U)<|rO (t:=18) U (fun E=>?_) (fun E=>?_)
 rotate_left 1
 ·replace E:=DF E
  refine eS U (OX U)<|eS U (OX U)<|eS U (OX U)<|eS U (OX U)<|eS U (PK U)<|eS U (AG U)<|eT U<|cp U fun T10 B=>sj U cz U<|aD (B _ _ (aI [0,2,3,4,5,6,7,8]) ?_)
  refine fO U<|KK A<|ar<|lP hQ [0] (mc 1 U mn) U ?_
  clear hQ hN B T10 A D C
  refine congrArg (fun z=>Value.tuple #[_,vB z]) ?_
  first|rfl|(simp_all [dN]; done)
 replace E:=DT E
 refine eS U (FA 2 U fw U)<|eS U (LP (aa.cells d.Time) 1 U cb U U U)<|eS U (SX (bu (xs:=[]) (cs:=(aa.cells (aa.mk 0 0))) U U (br gG U)) U U)<|eS U (BI U (sS _ _ d.Time (aa.mk 0 0)))<|eS U (PK U)<|eS U (AG U)<|eT U<|cp U fun T9 F=>sj U cz U<|aD (F _ _ (aI [0,2,3,4,5,6,7,8]) ?_)
 refine fO U<|KK A<|ar<|lP hQ [0] (mc 1 U mn) U ?_
 clear hQ hN F T9 A D C
 refine congrArg (fun z=>Value.tuple #[_,vB z]) ?_
 first|rfl|(simp_all [dN]; done)
theorem Iz (d:au) (sgA:OA) (sgC g1:Nat):
 er Tryz.prog 85 [(vA (m6.cells (m6.mk (Value.func (.func 196) [].toArray [].toArray) (Value.func (.func 197) [].toArray [].toArray)))),(vP g1)] [(rd sgA d.b_.ai.length 2 (d.b_.ai.map aJ.cells)),(cm g1 45 (bg.cells (bg.mk d.Out d.dZ d.Time (lV d.b_ sgA sgC))))] (vB d.Out):=by
 refine bI kr Tryz.func85 U U fun D Q hQ hN=>?_
 try dsimp only
 refine WS fun _ A=>fK U fun C=>bo 1 U<|RK A<|WS fun _ B=>fG 3 [0,1] (mc 0 U (mr 2 U mn)) U<|rS (CL (TI d sgA sgC) (bk [1]) U)<|rP 1 [] mn ?_
 refine RK B<|ar<|Q1 hQ U U U ?_
 rfl
theorem H3 (d:au) (sgA:OA) (sgC g1:Nat):
 er Tryz.prog 85 [(vA (m6.cells (m6.mk (Value.func (.func 199) [].toArray [].toArray) (Value.func (.func 200) [].toArray [].toArray)))),(vP g1)] [(rd sgA d.b_.ai.length 2 (d.b_.ai.map aJ.cells)),(cm g1 45 (bg.cells (bg.mk d.Out d.dZ d.Time (lV d.b_ sgA sgC))))] (vB d.dZ):=by
 refine bI kr Tryz.func85 U U fun D Q hQ hN=>?_
 try dsimp only
 refine WS fun _ A=>fK U fun C=>bo 1 U<|RK A<|WS fun _ B=>fG 3 [0,1] (mc 0 U (mr 2 U mn)) U<|rS (CL (SZ d sgA sgC) (bk [1]) U)<|rP 1 [] mn ?_
 refine RK B<|ar<|Q1 hQ U U U ?_
 rfl
theorem H6 (d:au) (sgA:OA) (sgC g1:Nat):
 er Tryz.prog 85 [(vA (m6.cells (m6.mk (Value.func (.func 201) [].toArray [].toArray) (Value.func (.func 202) [].toArray [].toArray)))),(vP g1)] [(rd sgA d.b_.ai.length 2 (d.b_.ai.map aJ.cells)),(cm g1 45 (bg.cells (bg.mk d.Out d.dZ d.Time (lV d.b_ sgA sgC))))] (vB true):=by
 refine bI kr Tryz.func85 U U fun D Q hQ hN=>?_
 try dsimp only
 refine WS fun _ A=>fK U fun C=>bo 1 U<|RK A<|WS fun _ B=>fG 3 [0,1] (mc 0 U (mr 2 U mn)) U<|rS (CL (Tz d sgA sgC) (bk [1]) U)<|rP 1 [] mn ?_
 refine RK B<|ar<|Q1 hQ U U U ?_
 rfl
end
section
open Go.RowKit
theorem wX (d:au) (sgA:OA) (sgC g1:Nat):
 er Tryz.prog 84 [(vS ff 3 3),(Value.func (.func 85) [].toArray [(vP g1)].toArray)] [(rd ff 3 2 eu),(rd sgA d.b_.ai.length 2 (d.b_.ai.map aJ.cells)),(cm g1 45 (bg.cells (bg.mk d.Out d.dZ d.Time (lV d.b_ sgA sgC))))] (vI (oZ d)):=by
 refine bI kr Tryz.func84 U U fun b Q hQ hN=>?_
 try dsimp only
 refine WS fun _ F=>bo 1 U<|RK F<|aj fun _ AA=>WS fun _ G=>bo 3 U<|RK G<|ay<|j2 4<|eJ fun R4 Z=>WS fun _ H=>rS (SX (cf (r:= .bool true) U U U hE) U U)<|RK H<|aj fun _ AB=>aN U<|WK AB<|aj fun _ J=>ay<|WS fun _ K=>bo 2 U<|RK K<|WS fun _ L=>rP 3 [] mn ?_
 refine rS (IA 0 U (aB 0 U) K3 dc U I)<|rS (lS 0 0 (m6.cells (m6.mk (Value.func (.func 196) [].toArray [].toArray) (Value.func (.func 197) [].toArray [].toArray))) U cb (aB 0 U) (show eu[0]? =some [(Value.func (.func 196) [].toArray [].toArray),(Value.func (.func 197) [].toArray [].toArray)] from U) U dc U U)<|rS (CL (Iz d sgA sgC g1) (bk [1,2]) U)<|RK L<|cE U (fun X=>?_) (fun X=>?_)
 ·refine WS fun _ M=>rP 2 [] mn ?_
  refine RK M<|ar<|Q1 hQ U U U ?_
  clear hQ hN M L K J AB H G AA F
  refine cI ?_
  simp [oZ, *]
 refine ck<|aG<|KK J<|al<|rS (SX (cf (r:= .int .i64 1) U U U (iE ⟨dc,dc⟩)) U U)<|bo 1 U<|RK Z<|eJ fun R12 W=>WS fun _ A=>rS (SX (cf (r:= .bool true) U U U hE) U U)<|RK A<|aj fun _ B=>aN U<|WK B<|aj fun _ C=>ay<|WS fun _ D=>bo 2 U<|RK D<|WS fun _ E=>rP 3 [] mn ?_
 refine rS (IA 1 U (aB 0 U) K3 dc U I)<|rS (lS 1 0 (m6.cells (m6.mk (Value.func (.func 199) [].toArray [].toArray) (Value.func (.func 200) [].toArray [].toArray))) U cb (aB 0 U) (show eu[1]? =some [(Value.func (.func 199) [].toArray [].toArray),(Value.func (.func 200) [].toArray [].toArray)] from U) U dc U U)<|rS (CL (H3 d sgA sgC g1) (bk [1,2]) U)<|RK E<|cE U (fun Y=>?_) (fun Y=>?_)
 ·refine WS fun _ N=>rP 2 [] mn ?_
  refine RK N<|ar<|Q1 hQ U U U ?_
  clear hQ hN N E D C B A L K J AB H G AA F
  refine cI ?_
  simp [oZ, *]
 refine ck<|aG<|KK C<|al<|rS (SX (cf (r:= .int .i64 2) U U U (iE ⟨dc,dc⟩)) U U)<|bo 1 U<|RK W<|eJ fun R20 a=>WS fun _ O=>rS (SX (cf (r:= .bool true) U U U hE) U U)<|RK O<|aj fun _ P=>aN U<|WK P<|aj fun _ V=>ay<|WS fun _ R=>bo 2 U<|RK R<|WS fun _ S=>bo 3 U<|rS (IA 2 U (aB 0 U) K3 dc U I)<|rS (lS 2 0 (m6.cells (m6.mk (Value.func (.func 201) [].toArray [].toArray) (Value.func (.func 202) [].toArray [].toArray))) U cb (aB 0 U) (show eu[2]? =some [(Value.func (.func 201) [].toArray [].toArray),(Value.func (.func 202) [].toArray [].toArray)] from U) U dc U U)<|rS (CL (H6 d sgA sgC g1) (bk [1,2]) U)<|RK S<|aN U<|WS fun _ T=>rP 2 [] mn ?_
 refine RK T<|ar<|Q1 hQ U U U ?_
 clear hQ hN T S R V P O E D C B A L K J AB H G AA F
 refine cI ?_
 simp [oZ, *]
end
section
open Go.RowKit
theorem Tw (d:au) (sgA:OA) (sgC g1:Nat) (hk:d.Out=true):
 er Tryz.prog 84 [(vS ff 3 3),(Value.func (.func 85) [].toArray [(vP g1)].toArray)] [(rd ff 3 2 eu),(rd sgA d.b_.ai.length 2 (d.b_.ai.map aJ.cells)),(cm g1 45 (bg.cells (bg.mk d.Out d.dZ d.Time (lV d.b_ sgA sgC))))] (vI 0):=by
 have h:=wX d sgA sgC g1
 have e:oZ d=0:=by simp [oZ,hk]
 rw [e] at h
 exact h
theorem R_ (d:au) (sgA:OA) (sgC g1:Nat) (hk:d.Out=false∧d.dZ=true):
 er Tryz.prog 84 [(vS ff 3 3),(Value.func (.func 85) [].toArray [(vP g1)].toArray)] [(rd ff 3 2 eu),(rd sgA d.b_.ai.length 2 (d.b_.ai.map aJ.cells)),(cm g1 45 (bg.cells (bg.mk d.Out d.dZ d.Time (lV d.b_ sgA sgC))))] (vI 1):=by
 have h:=wX d sgA sgC g1
 have e:oZ d=1:=by simp [oZ,hk]
 rw [e] at h
 exact h
theorem SA (d:au) (sgA:OA) (sgC g1:Nat) (hk:d.Out=false∧d.dZ=false):
 er Tryz.prog 84 [(vS ff 3 3),(Value.func (.func 85) [].toArray [(vP g1)].toArray)] [(rd ff 3 2 eu),(rd sgA d.b_.ai.length 2 (d.b_.ai.map aJ.cells)),(cm g1 45 (bg.cells (bg.mk d.Out d.dZ d.Time (lV d.b_ sgA sgC))))] (vI 2):=by
 have h:=wX d sgA sgC g1
 have e:oZ d=2:=by simp [oZ,hk]
 rw [e] at h
 exact h
theorem DH (l:bf) (kA:OA) (kC:Nat) (az:List RA) (cA:OA) (cC:Nat) (bA:OA) (bC:Nat) (d:au) (sgA:OA) (sgC:Nat) (hin:ep l az) (hsl:d.b_.ai.length≤1000000) (hk:d.Out=true):
 er Tryz.prog 62 [(vA (bV.cells (lq l kA kC cA cC bA bC))),(vA (bg.cells (bg.mk d.Out d.dZ d.Time (lV d.b_ sgA sgC))))] [(rd ff 3 2 eu),(rd kA l.aL.length 9 (l.aL.map ak.cells)),(rd cA l.ah.length 2 (List.zipWith aq.cells l.ah az)),(eX (aU aq.gE l.ah az)),(rd bA l.ae.length 4 (l.ae.map bG.cells)),(rd sgA d.b_.ai.length 2 (d.b_.ai.map aJ.cells))] (vT [(vA (aa.cells (dF l d))),(vB (decide (iy l d)))]):=by
 refine bI kr Tryz.func62 U U fun AA Q hQ hN=>?_
 try dsimp only
 refine WS fun _ A=>fK U fun G=>fK U fun D=>AL U dx fun H=>bo 1 U<|RK A<|WS fun _ B=>rS (SX (D8 U U zZ) U U)<|rS (FU U)<|rS (CL (Tw d sgA sgC D hk) (NC 3 8 1 U U U U U U) U)<|bo 1 U<|RK B<|aj fun _ C=>dg cv 9 kr<|lQ 1 U<|dS (SX (EP (k:=0) U U U zZ U I) U U)<|dS (mV ((0*2)+1) U (aB 3 U) (Nat.mul_pos I dc) fw U)<|dS (fX 0 1 (Value.func (.func 197) [].toArray [].toArray) U cb (aB 3 U) (show eu[0]? =some [(Value.func (.func 196) [].toArray [].toArray),(Value.func (.func 197) [].toArray [].toArray)] from U) U dc U)<|mw 2 [0,1] (mc 2 U (mc 1 U mn)) U<|dS (CL (NF l kA kC az cA cC bA bC d sgA sgC hin) (bk [4,5,6,7,8]) U)<|lQ 2 U<|cM<|fW U cz U<|rP 1 [] mn ?_
 refine RK C<|ar<|lP hQ [0] (mc 0 U mn) U ?_
 have E:=FR (l:=l) hk
 have F:=q_ (l:=l) hk
 simp only [E,F]
theorem Cb (l:bf) (kA:OA) (kC:Nat) (az:List RA) (cA:OA) (cC:Nat) (bA:OA) (bC:Nat) (d:au) (sgA:OA) (sgC:Nat) (hin:ep l az) (hsl:d.b_.ai.length≤1000000) (hk:d.Out=false∧d.dZ=true):
 er Tryz.prog 62 [(vA (bV.cells (lq l kA kC cA cC bA bC))),(vA (bg.cells (bg.mk d.Out d.dZ d.Time (lV d.b_ sgA sgC))))] [(rd ff 3 2 eu),(rd kA l.aL.length 9 (l.aL.map ak.cells)),(rd cA l.ah.length 2 (List.zipWith aq.cells l.ah az)),(eX (aU aq.gE l.ah az)),(rd bA l.ae.length 4 (l.ae.map bG.cells)),(rd sgA d.b_.ai.length 2 (d.b_.ai.map aJ.cells))] (vT [(vA (aa.cells (dF l d))),(vB (decide (iy l d)))]):=by
 refine bI kr Tryz.func62 U U fun AA Q hQ hN=>?_
 try dsimp only
 refine WS fun _ A=>fK U fun G=>fK U fun D=>AL U dx fun H=>bo 1 U<|RK A<|WS fun _ B=>rS (SX (D8 U U zZ) U U)<|rS (FU U)<|rS (CL (R_ d sgA sgC D hk) (NC 3 8 1 U U U U U U) U)<|bo 1 U<|RK B<|aj fun _ C=>dg cv 9 kr<|lQ 1 U<|dS (SX (EP (k:=1) U U U zZ U I) U U)<|dS (mV ((1*2)+1) U (aB 3 U) (Nat.mul_pos I dc) fw U)<|dS (fX 1 1 (Value.func (.func 200) [].toArray [].toArray) U cb (aB 3 U) (show eu[1]? =some [(Value.func (.func 199) [].toArray [].toArray),(Value.func (.func 200) [].toArray [].toArray)] from U) U dc U)<|mw 2 [0,1] (mc 2 U (mc 1 U mn)) U<|dS (CL (Ny l kA kC az cA cC bA bC d sgA sgC hin) (bk [4,5,6,7,8]) U)<|lQ 2 U<|cM<|fW U cz U<|rP 1 [] mn ?_
 refine RK C<|ar<|lP hQ [0] (mc 0 U mn) U ?_
 have E:=Bg (l:=l) hk
 have F:=tT (l:=l) hk
 simp only [E,F]
theorem BR (l:bf) (kA:OA) (kC:Nat) (az:List RA) (cA:OA) (cC:Nat) (bA:OA) (bC:Nat) (d:au) (sgA:OA) (sgC:Nat) (hin:ep l az) (hsl:d.b_.ai.length≤1000000) (hk:d.Out=false∧d.dZ=false):
 er Tryz.prog 62 [(vA (bV.cells (lq l kA kC cA cC bA bC))),(vA (bg.cells (bg.mk d.Out d.dZ d.Time (lV d.b_ sgA sgC))))] [(rd ff 3 2 eu),(rd kA l.aL.length 9 (l.aL.map ak.cells)),(rd cA l.ah.length 2 (List.zipWith aq.cells l.ah az)),(eX (aU aq.gE l.ah az)),(rd bA l.ae.length 4 (l.ae.map bG.cells)),(rd sgA d.b_.ai.length 2 (d.b_.ai.map aJ.cells))] (vT [(vA (aa.cells (dF l d))),(vB (decide (iy l d)))]):=by
 refine bI kr Tryz.func62 U U fun AA Q hQ hN=>?_
 try dsimp only
 refine WS fun _ A=>fK U fun G=>fK U fun D=>AL U dx fun H=>bo 1 U<|RK A<|WS fun _ B=>rS (SX (D8 U U zZ) U U)<|rS (FU U)<|rS (CL (SA d sgA sgC D hk) (NC 3 8 1 U U U U U U) U)<|bo 1 U<|RK B<|aj fun _ C=>dg cv 9 kr<|lQ 1 U<|dS (SX (EP (k:=2) U U U zZ U I) U U)<|dS (mV ((2*2)+1) U (aB 3 U) (Nat.mul_pos I dc) fw U)<|dS (fX 2 1 (Value.func (.func 202) [].toArray [].toArray) U cb (aB 3 U) (show eu[2]? =some [(Value.func (.func 201) [].toArray [].toArray),(Value.func (.func 202) [].toArray [].toArray)] from U) U dc U)<|mw 2 [0,1] (mc 2 U (mc 1 U mn)) U<|dS (CL (OS l kA kC az cA cC bA bC d sgA sgC hin hsl) (bk [4,5,6,7,8]) U)<|lQ 2 U<|cM<|fW U cz U<|rP 1 [] mn ?_
 refine RK C<|ar<|lP hQ [0] (mc 0 U mn) U ?_
 have E:=wG (l:=l) hk
 have F:=uH (l:=l) hk
 simp only [E,F]
theorem Fc (l:bf) (kA:OA) (kC:Nat) (az:List RA) (cA:OA) (cC:Nat) (bA:OA) (bC:Nat) (d:au) (sgA:OA) (sgC:Nat) (hin:ep l az) (hsl:d.b_.ai.length≤1000000):
 er Tryz.prog 62 [(vA (bV.cells (lq l kA kC cA cC bA bC))),(vA (bg.cells (bg.mk d.Out d.dZ d.Time (lV d.b_ sgA sgC))))] [(rd ff 3 2 eu),(rd kA l.aL.length 9 (l.aL.map ak.cells)),(rd cA l.ah.length 2 (List.zipWith aq.cells l.ah az)),(eX (aU aq.gE l.ah az)),(rd bA l.ae.length 4 (l.ae.map bG.cells)),(rd sgA d.b_.ai.length 2 (d.b_.ai.map aJ.cells))] (vT [(vA (aa.cells (dF l d))),(vB (decide (iy l d)))]):=by
 by_cases ho:d.Out=true
 ·exact DH l kA kC az cA cC bA bC d sgA sgC hin hsl ho
 by_cases hf:d.dZ=true
 ·exact Cb l kA kC az cA cC bA bC d sgA sgC hin hsl ⟨by simpa using ho,hf⟩
 ·exact BR l kA kC az cA cC bA bC d sgA sgC hin hsl ⟨by simpa using ho,by simpa using hf⟩
end
section
open Go.RowKit
theorem Jz (r:bY) (kA:OA) (kC:Nat) (az:List RA) (cA:OA) (cC:Nat) (bA:OA) (bC:Nat) (slA:OA) (slC:Nat) (drA:OA) (drC:Nat) (ha:List cG) (heA:OA) (heC:Nat) (tz:List RA) (tA:OA) (tC:Nat) (ms:Value) (gw h:Nat) (gm g1 g2:Nat) (hin:ej r az ha) (htz:tz.length=r.ao.length) (hh:h<r.ao.length) (hok:kl r (h+1)):
 DS Tryz.prog 72 [(vI (h:Int)),(vP g1),(vP g2)] [(rd kA r.an.aL.length 9 (r.an.aL.map ak.cells)),(rd cA r.an.ah.length 2 (List.zipWith aq.cells r.an.ah az)),(eX (aU aq.gE r.an.ah az)),(rd bA r.an.ae.length 4 (r.an.ae.map bG.cells)),(rd slA r.aK.length 1 (r.aK.map iC)),(rd drA r.bL.length 1 (r.bL.map iC)),(rd heA r.ao.length 1 (List.zipWith ct r.ao ha)),(eX (aU hO r.ao ha)),(rd tA ((cU r).length) 1 (List.zipWith Ew (cU r) tz)),(eX (aU M3 (cU r) tz)),(cm gw 91 (gd.cells (gd.mk (ou r kA kC cA cC bA bC slA slC drA drC heA heC) (bq.mk tA ((cU r).length) tC) ms))),(cm g1 81 [(vP gw)]),(cm g2 64 [(Value.map (some gm))])] (im iV gm (bS dE (eE r.an r.ao r.aK.length h 0))) (fun (x:Unit)=>(vT [])) (fun (x:Unit)=>True) (fun (x:Unit)=>(im iV gm (bS dE (eE r.an r.ao r.aK.length (h+1) 0)))):=by
 have v:=hin.line
 have A4:=hin.iv
 have A5:=hin.has
 have An:=hin.iA
 have AC:=hin.draw
 have Av:=dB (r:=r)
 refine mZ kr Tryz.func72 U U fun w0 Q hQ hN=>?_
 try dsimp only
 refine WS fun _ g=>fG 1 [] (mr 12 U mn) U<|rS (SX (bQ U U) U U)<|rP 3 [] (mr 11 U mn) ?_
 obtain ⟨ht,B⟩:=aH r.ao h I
 obtain ⟨A,C⟩:=aH ha h I
 have Z:(List.zipWith ct r.ao ha)[h]? =some (ct ht A):=cT B C
 have s:=hin.kb _ _ _ B C
 have AO:=s.mW
 have N:=hok h ht I B
 obtain ⟨tr,G⟩:=aH (cU r) h I
 obtain ⟨tra,F⟩:=aH tz h I
 have c:(List.zipWith Ew (cU r) tz)[h]? =some (Ew tr tra):=cT G F
 refine rS (IA h U (aB 9 U) Od dc I I)<|rS (fX h 0 (vS tra.1 tr.length tra.2) U cb (aB 9 U) c U dc U) ?_
 have AB:=zA B G
 have A1:tr.length=r.aK.length:=by rw [AB,List.length_map]; exact N.1
 have A0:=N.1
 refine rP 2 [] mn ?_
 refine RK g<|ay ?_
 have E:(0≤r.aK.length):=by exact Nat.zero_le _
 refine bK (ι:={z:Nat // (z≤r.aK.length)}) [0,1,2,14,15] [1,2,3,4,5,6,7,8,9,10,11,12,13] U U (fun z=>[(16,(vI (z.1:Int)))]) (fun z=>[(im iV gm (bS dE (eE r.an r.ao r.aK.length h z.1)))]) (fun _=>rfl) (fun _=>rfl) (fun z=>r.aK.length-z.1) ⟨0,E⟩ (aT U) (aI [1,2,3,4,5,6,7,8,9,10,11,12,13,0]) ?_
 clear E
 rintro ⟨i,u⟩ J2 K
 try dsimp only
 have a:i<r.aK.length→(eE r.an r.ao r.aK.length h i).lookup (i:Int)=fm r.an r.ao i h:=Kw
 refine WS fun _ k=>rP 1 [] mn ?_
 refine RK k<|aj fun _ m=>bO U (aO fun h5=>?_) (aP fun h5=>?_)
 ·refine bD<|ab<|ab<|aA ?_
  rw [show (eE r.an r.ao r.aK.length h i)=(eE r.an r.ao r.aK.length (h+1) 0) from by rw [show i=r.aK.length by omega]; exact Oo]
  refine LM hN () 13 [] mn U U U U ?_
  trivial
 refine WK m<|aj fun _ L=>ay<|WS fun _ n=>rP 1 [] mn ?_
 obtain ⟨x,hx⟩:=aH tr i I
 have y:=bJ aa.cells hx
 refine rS (IA i U (show g9 _ (rd tra.1 tr.length 2 (tr.map aa.cells)).holds from (cw 9 U (bH G F (by simp [M3])))) jY dc I I)<|rS (lS i 0 (aa.cells x) U cb (show g9 _ (rd tra.1 tr.length 2 (tr.map aa.cells)).holds from (cw 9 U (bH G F (by simp [M3])))) y U dc U U)<|AL U dx fun b8=>bo 1 U<|fW U cz U<|RK n<|WS fun _ o=>fG 2 [] (mr 13 U mn) U<|rS (SX (j3 (kV:=iV) (x:=(i:Int)) (l:=(eE r.an r.ao r.aK.length h i)) (f:=dE) (z:=(aa.mk 0 0)) U U U lv (dT mX) tm (by exact aB 14 U)) U U)<|bo 3 U<|AL U dx fun A2=>fW U cz U<|bo 1 U<|RK o<|aj fun _ P=>WS fun _ H=>fG 1 [] (mr 13 U mn) U<|rS (SX (bQ U U) U U)<|fG 4 [] (mr 12 U mn) U<|rS (IA h U (aB 8 U) lu dc I I)<|rS (fX h 0 (vS A.1.1 ht.length A.1.2) U cb (aB 8 U) Z U dc U)<|rP 1 [] mn ?_
 obtain ⟨d,hd⟩:=aH ht i I
 obtain ⟨da,p⟩:=aH A.2 i I
 have q:(List.zipWith au.cells ht A.2)[i]? =some (au.cells d da):=cT hd p
 refine rS (IA i U (show g9 _ (rd A.1.1 ht.length 7 (List.zipWith au.cells ht A.2)).holds from (cw 9 U (bH B C bZ))) pN dc I I)<|rS (mV (i*7) U (show g9 _ (rd A.1.1 ht.length 7 (List.zipWith au.cells ht A.2)).holds from (cw 9 U (bH B C bZ))) (Nat.mul_pos I dc) fw U)<|rS (fX i 0 (vB d.Out) U cb (show g9 _ (rd A.1.1 ht.length 7 (List.zipWith au.cells ht A.2)).holds from (cw 9 U (bH B C bZ))) q U dc U)<|rP 1 [] mn ?_
 refine cH (t:=39) U (fun J=>?_) (fun J=>?_)
 ·refine bo 3 U<|RK H<|aN U<|WS fun _ R=>rP 2 [] (mr 14 U mn) ?_
  have T:(cJ (eE r.an r.ao r.aK.length h i) (i:Int))=(eE r.an r.ao r.aK.length h (i+1)):=by exact FT (by exact Hf B hd J)
  refine qj (kV:=iV) (x:=(i:Int)) (C':=[_,_,_,_,_,_,_,_,_,_,_,_,_,_,_,(im iV gm (bS dE (eE r.an r.ao r.aK.length h (i+1))))]) 15 U U U U lv (dT mX) U ((l6 _ _ _).symm.trans (congrArg _ T)) U<|RK R<|bD<|ab<|aA<|KK L<|al<|rP 2 [] mn ?_
  refine aD ?_
  have AA:(vI (((i+1):Nat):Int))=(vI ((i:Int)+1)):=by exact cI I
  refine aR (K ⟨(i+1),(by first|omega|(simp only []; omega))⟩ _ _ _ U os (cR 5<|aY U AA<|dj.nil _) (aI [2,3,4,5,6,7,8,9,10,11,12,13,14,15]))
 refine rP 3 [] mn ?_
 refine RK H<|cE U (fun D=>?_) (fun D=>?_)
 ·rw [Bool.not_eq_true'] at D
  refine WS fun _ S=>rP 2 [] (mr 14 U mn) ?_
  have V:(cJ (eE r.an r.ao r.aK.length h i) (i:Int))=(eE r.an r.ao r.aK.length h (i+1)):=by exact FT (by exact D6 ((a I).symm.trans (Option.not_isSome_iff_eq_none.1 (by rw [D]; decide))))
  refine qj (kV:=iV) (x:=(i:Int)) (C':=[_,_,_,_,_,_,_,_,_,_,_,_,_,_,_,(im iV gm (bS dE (eE r.an r.ao r.aK.length h (i+1))))]) 15 U U U U lv (dT mX) U ((l6 _ _ _).symm.trans (congrArg _ V)) U<|RK S<|bD<|ab<|aA<|KK L<|al<|rP 2 [] mn ?_
  refine aD ?_
  have W:(vI (((i+1):Nat):Int))=(vI ((i:Int)+1)):=by exact cI I
  refine aR (K ⟨(i+1),(by first|omega|(simp only []; omega))⟩ _ _ _ U os (cR 5<|aY U W<|dj.nil _) (aI [2,3,4,5,6,7,8,9,10,11,12,13,14,15]))
 rw [Bool.not_eq_false'] at D
 refine WK P<|al ?_
 obtain ⟨O,b⟩:=Option.isSome_iff_exists.1 D
 have M:fm r.an r.ao i h=some O:=(a I).symm.trans b
 have e:=ME AB hx hd
 have A6:=AP (fun j x hj hx=>hok j x I hx) I M
 have w:=GL (N.2 d (aS hd))
 rw [← e] at w
 rw [show ((List.lookup (i:Int) (eE r.an r.ao r.aK.length h i)).getD (aa.mk 0 0))=O from by rw [b]; rfl]
 refine fG 6 [0,1,2] (mr 14 U (mc 0 U (mc 1 U mn))) U<|rS (BI U (uu I I I))<|fG 5 [0,1] (mc 0 U (mc 1 U mn)) U<|rS (BI U (uu I I I))<|rP 1 [] mn ?_
 refine rS (SX (bu (xs:=[(0,.tmp 52),(1,.tmp 58)]) (cs:=(aa.cells (aa.mk (O.Lo+(x.Lo/10)) (O.Hi+(x.Hi/10))))) U U (br gG U)) U U) ?_
 have X:(eP (eE r.an r.ao r.aK.length h i) (i:Int) (aa.mk (O.Lo+(x.Lo/10)) (O.Hi+(x.Hi/10))))=(eE r.an r.ao r.aK.length h (i+1)):=by exact Om I (by rw [M]; rfl) (by rw [e]; exact Ea B hd (by rw [J]; decide) M)
 refine jl (kV:=iV) (x:=(i:Int)) (C':=[_,_,_,_,_,_,_,_,_,_,_,_,_,_,_,(im iV gm (bS dE (eE r.an r.ao r.aK.length h (i+1))))]) 15 U U U U lv (dT mX) U ((gX _ _ _ _).symm.trans (congrArg _ X)) U<|aD<|aG<|KK L<|al<|rP 2 [] mn ?_
 refine aD ?_
 have Y:(vI (((i+1):Nat):Int))=(vI ((i:Int)+1)):=by exact cI I
 refine aR (K ⟨(i+1),(by first|omega|(simp only []; omega))⟩ _ _ _ U os (cR 5<|aY U Y<|dj.nil _) (aI [2,3,4,5,6,7,8,9,10,11,12,13,14,15]))
theorem PB (r:bY) (kA:OA) (kC:Nat) (az:List RA) (cA:OA) (cC:Nat) (bA:OA) (bC:Nat) (slA:OA) (slC:Nat) (drA:OA) (drC:Nat) (ha:List cG) (heA:OA) (heC:Nat) (tz:List RA) (tA:OA) (tC:Nat) (ms:Value) (gw n:Nat) (hin:ej r az ha) (htz:tz.length=r.ao.length) (hn:n≤r.ao.length) (hok:kl r n):
 lx Tryz.prog 46 [(vP gw),(vI (n:Int))] [(rd kA r.an.aL.length 9 (r.an.aL.map ak.cells)),(rd cA r.an.ah.length 2 (List.zipWith aq.cells r.an.ah az)),(eX (aU aq.gE r.an.ah az)),(rd bA r.an.ae.length 4 (r.an.ae.map bG.cells)),(rd slA r.aK.length 1 (r.aK.map iC)),(rd drA r.bL.length 1 (r.bL.map iC)),(rd heA r.ao.length 1 (List.zipWith ct r.ao ha)),(eX (aU hO r.ao ha)),(rd tA ((cU r).length) 1 (List.zipWith Ew (cU r) tz)),(eX (aU M3 (cU r) tz)),(cm gw 91 (gd.cells (gd.mk (ou r kA kC cA cC bA bC slA slC drA drC heA heC) (bq.mk tA ((cU r).length) tC) ms)))] (fun (x:Nat)=>(Value.map (some x))) (fun (x:Nat)=>True) (fun (x:Nat)=>[(im iV x (bS dE (eL r n)))]):=by
 have c:=hin.line
 have m:=hin.iv
 have o:=hin.has
 have e:=hin.iA
 have d:=hin.draw
 have f:=dB (r:=r)
 refine dp kr Tryz.func46 U U fun q Q hQ hN=>?_
 try dsimp only
 refine WS fun _ V=>uP U U fun k=>rP 1 [] mn ?_
 refine RK V<|WS fun _ W=>nR (kV:=iV) U U fun B=>?_
 try dsimp only
 refine AL U Uw fun l=>HA U NK U U<|RK W<|aj fun _ X=>WS fun _ Y=>fG 1 [] (mc 2 U mn) U<|rS (SX (bQ U U) U U)<|rP 5 [] (mr 13 U mn) ?_
 refine RK Y<|ay ?_
 skip
 have A:(0≤r.aK.length):=by exact Nat.zero_le _
 refine bK (ι:={z:Nat // (z≤r.aK.length)}) [1,2,5,15] [0,2,3,4,5,6,7,8,9,10,11,12,13] U U (fun z=>[(16,(vI (z.1:Int)))]) (fun z=>[(im iV B (bS dE (eE r.an r.ao z.1 0 0)))]) (fun _=>rfl) (fun _=>rfl) (fun z=>r.aK.length-z.1) ⟨0,A⟩ (aT U) (aI [0,2,3,4,5,6,7,8,9,10,11,12,13,1]) ?_
 clear A
 rintro ⟨i,a⟩ J8 AA
 try dsimp only
 refine WS fun _ Z=>rP 1 [] mn ?_
 refine RK Z<|aj fun _ D=>cE U (aP fun S=>?_) (aO fun S=>?_)
 ·refine WK D<|aj fun _ E=>ay<|WS fun _ F=>bo 2 U<|RK F<|al<|rP 2 [] (mc 0 U mn) ?_
  refine rS (SX (bu (xs:=[]) (cs:=(aa.cells (aa.mk 0 0))) U U (br gG U)) U U) ?_
  have O:(eP (eE r.an r.ao i 0 0) (i:Int) (aa.mk 0 0))=(eE r.an r.ao (i+1) 0 0):=by exact NU
  refine jl (kV:=iV) (x:=(i:Int)) (C':=[_,_,_,_,_,_,_,_,_,_,_,_,_,(im iV B (bS dE (eE r.an r.ao (i+1) 0 0)))]) 13 U U U U lv (dT mX) U ((gX _ _ _ _).symm.trans (congrArg _ O)) U<|aD<|aG<|KK E<|al<|rP 2 [] mn ?_
  refine aD ?_
  have P:(vI (((i+1):Nat):Int))=(vI ((i:Int)+1)):=by exact cI I
  refine aR (AA ⟨(i+1),(by first|omega|(simp only []; omega))⟩ _ _ _ U os (cR 4<|aY U P<|dj.nil _) (aI [0,1,2,3,4,5,6,7,8,9,10,11,12,13]))
 refine bD<|ab<|ab<|aA<|KK X<|WS fun _ G=>rS (FU U)<|bo 1 U<|RK G<|aj fun _ H=>WS fun _ AB=>rP 2 [] mn ?_
 refine RK AB<|ay ?_
 rw [show (eE r.an r.ao i 0 0)=(eE r.an r.ao r.aK.length 0 0) from by rw [show i=r.aK.length by omega]]
 have A:(0≤n):=by exact Nat.zero_le _
 refine bK (ι:={z:Nat // (z≤n)}) [2,5,7,24] [0,1,2,3,4,5,6,7,8,9,10,11,12] U U (fun z=>[(25,(vI (z.1:Int)))]) (fun z=>[(im iV B (bS dE (eE r.an r.ao r.aK.length z.1 0)))]) (fun _=>rfl) (fun _=>rfl) (fun z=>n-z.1) ⟨0,A⟩ (aT U) (aI [0,1,2,3,4,5,6,7,8,9,10,11,12,13]) ?_
 clear A
 rintro ⟨h,b⟩ J19 C
 try dsimp only
 refine WS fun _ J=>rP 1 [] mn ?_
 refine RK J<|aj fun _ K=>bO U (aO fun T=>?_) (aP fun T=>?_)
 ·refine bD<|ab<|ab<|aA<|KK H<|aj fun _ N=>?_
  rw [show (eE r.an r.ao r.aK.length h 0)=(eL r n) from by rw [show h=n by omega]; exact Ow]
  refine al<|rP 2 [] (mc 0 U mn) ?_
  refine RK N<|ar<|LX hQ B [13] [] mn U U U U ?_
  trivial
 refine WK K<|aj fun _ L=>ay<|WS fun _ M=>bo 2 U<|RK M<|al<|rP 2 [] mn ?_
 refine je 13 U U U U (Jz r kA kC az cA cC bA bC slA slC drA drC ha heA heC tz tA tC ms gw h B k l hin htz I (by exact fun j x hj hx=>hok j x I hx)) U (eA 2 U U (dV (bU _)) (eA 3 U U (dV (bU _)) (eA 4 U U (dV (bU _)) (eA 5 U U (dV (bU _)) (eA 6 U U (dV (bU _)) (eA 7 U U (dV (bU _)) (eA 8 U U (dV (bU _)) (eA 9 U U (dV (bU _)) (eA 10 U U (dV (bU _)) (eA 11 U U (dV (bU _)) (eA 12 U U (dV (bU _)) (eA 1 U U (bU _) (eA 0 U U (bU _) kG))))))))))))) U (fun p g=>?_)
 try dsimp only
 refine aD<|aG<|KK L<|al<|rP 2 [] mn ?_
 refine aD ?_
 have R:(vI (((h+1):Nat):Int))=(vI ((h:Int)+1)):=by exact cI I
 refine aR (C ⟨(h+1),(by first|omega|(simp only []; omega))⟩ _ _ _ U os (cR 4<|aY U R<|dj.nil _) (aI [0,1,2,3,4,5,6,7,8,9,10,11,12,13]))
end
section
open Go.RowKit
theorem oD (r:bY) (kA:OA) (kC:Nat) (az:List RA) (cA:OA) (cC:Nat) (bA:OA) (bC:Nat) (slA:OA) (slC:Nat) (drA:OA) (drC:Nat) (ha:List cG) (heA:OA) (heC:Nat) (hin:ej r az ha):
 lx Tryz.prog 36 [(vA (cr.cells (ou r kA kC cA cC bA bC slA slC drA drC heA heC)))] [(rd ff 3 2 eu),(rd kA r.an.aL.length 9 (r.an.aL.map ak.cells)),(rd cA r.an.ah.length 2 (List.zipWith aq.cells r.an.ah az)),(eX (aU aq.gE r.an.ah az)),(rd bA r.an.ae.length 4 (r.an.ae.map bG.cells)),(rd slA r.aK.length 1 (r.aK.map iC)),(rd drA r.bL.length 1 (r.bL.map iC)),(rd heA r.ao.length 1 (List.zipWith ct r.ao ha)),(eX (aU hO r.ao ha))] (fun (x:Bool×Int×Nat×Nat×(OA)×Nat×(List RA))=>bif x.1 then (vT [(Value.pointer (some ⟨x.2.2.1,0,none⟩)),(vI 0)]) else (vT [(Value.pointer none),(vI x.2.1)])) (fun (x:Bool×Int×Nat×Nat×(OA)×Nat×(List RA))=>(x.1=true→(cV r=0∧x.2.2.2.2.2.2.length=r.ao.length))∧(x.1=false→(x.2.1=cV r∧ ¬ cV r=0))) (fun (x:Bool×Int×Nat×Nat×(OA)×Nat×(List RA))=>bif x.1 then [(cm x.2.2.1 91 (gd.cells (gd.mk (ou r kA kC cA cC bA bC slA slC drA drC heA heC) (bq.mk x.2.2.2.2.1 ((cU r).length) x.2.2.2.2.2.1) (Value.map (some x.2.2.2.1))))),(own x.2.2.2.2.1 x.2.2.2.2.2.1 82 1 (List.zipWith Ew (cU r) x.2.2.2.2.2.2)),(bB (aU DU (cU r) x.2.2.2.2.2.2)),(im iV x.2.2.2.1 (bS dE (ax r)))] else []):=by
 have K5:=hin.line
 have O8:=hin.iv
 have PP:=hin.has
 have L0:=hin.iA
 have Lk:=hin.draw
 have GE:=dB (r:=r)
 refine dp kr Tryz.func36 U U fun w0 Q hQ hN=>?_
 try dsimp only
 refine WS fun _ J5=>fK U fun b2=>bo 2 U<|RK J5<|aj fun _ J6=>WS fun _ J7=>bo 1 U<|rS (LP (bV.cells (lq r.an kA kC cA cC bA bC)) 0 U cb U U U)<|rS (CL (DA r.an kA kC az cA cC bA bC asm) (bk [2,3,4,5]) U)<|bo 1 U<|RK J7<|WS fun _ J8=>rP 2 [] mn ?_
 refine RK J8<|cE U (aZ fun B=>?_) (a_ fun B=>?_)
 ·refine WS fun _ J9=>rP 3 [] mn ?_
  refine RK J9<|ar<|LX hQ (false,(dH r.an),0,0,none,0,[]) [] [] mn U (by rfl) U U ?_
  exact sE<|I_ (zM B) B
 refine WK J6<|WS fun _ KY=>fG 4 [] (mc 0 U mn) U<|RK KY<|WS fun _ Kp=>rP 2 [] (mc 0 U mn) ?_
 refine cX (w5 drA r.bL.length drC) (aM) U fun G1 L2=>?_
 try dsimp only
 refine cX (x8 r.bL drA drC G1 asm) (bk [8,0]) U fun Li L3=>?_
 obtain ⟨M2,Os⟩:=Li
 try dsimp only
 refine bo 1 U<|RK Kp<|aj fun _ e=>WS fun _ H=>rP 1 [] mn ?_
 refine du (xs:=[.tmp 29]) (cs:=[(vI (r.aK.length:Int))]) U cN jv U U U U (by simp [Value.cells]) U U fun Hi=>?_
 refine rS (CL (er.eq (kp 1 5 ([(r.aK.length:Int)]) (some ⟨Hi,0,none⟩) 1 (by (simp; done))) df) (av (bp 0 U U (by simp [bM]) U)<|aM) U) ?_
 refine rP 2 [] mn ?_
 refine cH (t:=33) U (aZ fun IR=>?_) (a_ fun IR=>?_)
 ·refine bo 26 U<|RK H<|aN U<|WS fun _ f=>rP 2 [] mn ?_
  refine RK f<|ar<|LX hQ (false,60,0,0,none,0,[]) [] [] mn U (by rfl) U U ?_
  exact sE<|qy (kH B (fun q:fc r=>by have q1:=q.num; have q2:=q.wZ; have q3:=q.nh; have q4:=q.yX; omega))
 refine rP 6 [] mn ?_
 refine cH (t:=39) U (aZ fun Id=>?_) (a_ fun Id=>?_)
 ·refine bo 20 U<|RK H<|aN U<|WS fun _ g=>rP 2 [] mn ?_
  refine RK g<|ar<|LX hQ (false,60,0,0,none,0,[]) [] [] mn U (by rfl) U U ?_
  exact sE<|qy (kH B (fun q:fc r=>by have q1:=q.num; have q2:=q.wZ; have q3:=q.nh; have q4:=q.yX; omega))
 refine rP 2 [] (mc 3 U mn) ?_
 refine du (xs:=[.tmp 41]) (cs:=[(vI r.gZ)]) U cN jv U U U U (by simp [Value.cells]) U U fun Hj=>?_
 refine rS (CL (er.eq (kp 0 5 ([r.gZ]) (some ⟨Hj,0,none⟩) 1 (by (simp; done))) df) (av (bp 0 U U (by simp [bM]) U)<|aM) U) ?_
 refine rP 3 [] mn ?_
 refine cH (t:=46) U (aZ fun If=>?_) (a_ fun If=>?_)
 ·refine bo 13 U<|RK H<|aN U<|WS fun _ k=>rP 2 [] mn ?_
  refine RK k<|ar<|LX hQ (false,60,0,0,none,0,[]) [] [] mn U (by rfl) U U ?_
  exact sE<|qy (kH B (fun q:fc r=>by have q1:=q.num; have q2:=q.wZ; have q3:=q.nh; have q4:=q.yX; omega))
 refine rP 3 [] (mc 4 U mn) ?_
 refine du (xs:=[.tmp 49]) (cs:=[(vI (r.ao.length:Int))]) U cN jv U U U U (by simp [Value.cells]) U U fun H1=>?_
 refine rS (CL (er.eq (kp 1 3 ([(r.ao.length:Int)]) (some ⟨H1,0,none⟩) 1 (by (simp; done))) df) (av (bp 0 U U (by simp [bM]) U)<|aM) U) ?_
 refine rP 3 [] mn ?_
 refine cH (t:=54) U (aZ fun In=>?_) (a_ fun In=>?_)
 ·refine bo 5 U<|RK H<|aN U<|WS fun _ l=>rP 2 [] mn ?_
  refine RK l<|ar<|LX hQ (false,60,0,0,none,0,[]) [] [] mn U (by rfl) U U ?_
  exact sE<|qy (kH B (fun q:fc r=>by have q1:=q.num; have q2:=q.wZ; have q3:=q.nh; have q4:=q.yX; omega))
 refine fG 2 [] (mc 5 U mn) U<|rS (CL (kp 0 9999 r.aK slA slC asm) (bk [11]) U)<|rP 2 [] mn ?_
 refine RK H<|cE U (fun N=>?_) (fun N=>?_)
 ·rw [Bool.not_eq_true'] at N
  refine WS fun _ m=>rP 2 [] mn ?_
  refine RK m<|ar<|LX hQ (false,60,0,0,none,0,[]) [] [] mn U (by rfl) U U ?_
  exact sE<|qy (kH B (fun q:fc r=>by exact absurd (q.ins.symm.trans N) dc))
 rw [Bool.not_eq_false'] at N
 refine WK e<|aj fun _ o=>WS fun _ p=>?_
 have Pi:(dA r.bL).length=r.aK.length:=by rw [gF]; omega
 refine rP 2 [] mn ?_
 refine RK p<|ay ?_
 have A:(0≤r.aK.length)∧(rV r 0):=by exact ⟨Nat.zero_le _,Eb⟩
 refine bK (ι:={z:Nat // (z≤r.aK.length)∧(rV r z)}) [1,5,6,60] [3,5,6,7,8,9,10,11,12,13,14] U U (fun z=>[(61,(vI (z.1:Int)))]) (fun z=>[]) (fun _=>rfl) (fun _=>rfl) (fun z=>r.aK.length-z.1) ⟨0,A⟩ (aT U) (aI [3,5,6,7,8,9,10,11,12,13,14]) ?_
 clear A
 rintro ⟨i,⟨K4,J⟩⟩ J28 V
 try dsimp only
 refine WS fun _ s=>rP 1 [] mn ?_
 refine RK s<|aj fun _ w=>cE U (aP fun Jm=>?_) (aO fun Jm=>?_)
 ·refine WK w<|aj fun _ W=>ay<|WS fun _ AC=>bo 2 U<|RK AC<|aj fun _ O=>dg cv 24 kr<|dP 2 [] mn ?_
  obtain ⟨x,hx⟩:=aH (dA r.bL) i I
  have K8:=bJ iC hx
  refine dS (IA i U (ag (n:=r.bL.length) 0 U sq) cN dc I I) ?_
  refine dS (fX i 0 (vI x) U cb (ag (n:=(dA r.bL).length) 0 U sm) K8 U dc U)<|dP 3 [] mn ?_
  refine jh (t:=70) U (aZ fun S=>?_) (a_ fun S=>?_)
  ·refine lQ 17 U<|cM<|RK O<|aN U<|WS fun _ AO=>rP 2 [] mn ?_
   refine RK AO<|ar<|LX hQ (false,60,0,0,none,0,[]) [] [] mn U (by rfl) U U ?_
   exact sE<|qy (kH B (fun q:fc r=>by exact absurd (q.drawn hx) S))
  refine dP 3 [] mn ?_
  refine jA (t:=73) U (aO fun J2=>?_) (aP fun J2=>?_)
  ·refine lQ 14 U<|cM<|RK O<|bh U<|ck<|aG<|KK W<|al<|rP 2 [] mn ?_
   refine aD ?_
   have Do:(vI (((i+1):Nat):Int))=(vI ((i:Int)+1)):=by exact cI I
   refine aR (V ⟨(i+1),⟨I,xX J hx S (fun u v hu hv hw=>by omega)⟩⟩ _ _ _ U os (cR 4<|aY U Do<|dj.nil _) (aI [0,1,2,3,4,5,6,7,8,9,10]))
  refine dP 3 [] (mc 1 U mn) ?_
  obtain ⟨y,hy⟩:=aH r.aK i I
  have LA:=bJ iC hy
  refine dS (IA i U (aB 7 U) cN dc I I)<|dS (fX i 0 (vI y) U cb (aB 7 U) LA U dc U)<|dP 4 [] (mc 1 U mn) ?_
  obtain ⟨z,hz⟩:=aH r.aK (i-1) I
  have LE:=bJ iC hz
  refine dS (IA (i-1) U (aB 7 U) cN dc I I)<|dS (fX (i-1) 0 (vI z) U cb (aB 7 U) LE U dc U)<|dP 3 [] mn ?_
  refine cM<|RK O<|bO U (aO fun J3=>?_) (aP fun J3=>?_)
  ·refine ck<|aG<|KK W<|al<|rP 2 [] mn ?_
   refine aD ?_
   have Di:(vI (((i+1):Nat):Int))=(vI ((i:Int)+1)):=by exact cI I
   refine aR (V ⟨(i+1),⟨I,xX J hx S (fun u v hu hv hw=>by (rw [hy] at hu; cases hu; rw [hz] at hw; cases hw; omega))⟩⟩ _ _ _ rfl os (cR 4<|aY rfl Di<|dj.nil _) (aI [0,1,2,3,4,5,6,7,8,9,10]))
  refine WS fun _ An=>rP 2 [] mn ?_
  refine RK An<|ar<|LX hQ (false,60,0,0,none,0,[]) [] [] mn U (by rfl) U U ?_
  exact sE<|qy (kH B (fun q:fc r=>by have q1:=(q.ids i y hy).2 z I hz; omega))
 refine bD<|ab<|ab<|aA<|KK o<|WS fun _ A0=>fG 1 [] (mc 1 U mn) U<|rS (SX (bu (xs:=[(0,.tmp 89)]) (cs:=(gd.cells (gd.mk (ou r kA kC cA cC bA bC slA slC drA drC heA heC) (bq.mk none 0 0) (Value.map none)))) U U (br U7 U)) U U)<|fK U fun L=>bo 1 U<|RK A0<|aj fun _ A1=>WS fun _ A2=>rP 4 [] (mc 2 U mn) ?_
 refine RK A2<|ay<|gl 82 1<|lY ?_
 have A:(0≤r.ao.length)∧(([]:List RA).length=0)∧(kl r 0):=by exact ⟨Nat.zero_le _,rfl,yi⟩
 refine bK (ι:={z:Nat×(List RA)×(OA)×Nat // (z.1≤r.ao.length)∧(z.2.1.length=z.1)∧(kl r z.1)}) [1,5,8,93,94] [3,4,5,6,7,8,9,10,11,12,13] U U (fun z=>[(95,(vI (z.1.1:Int)))]) (fun z=>[(bB (aU DU (gN r z.1.1) z.1.2.1)),(own z.1.2.2.1 z.1.2.2.2 82 1 (List.map sC (List.zipWith CQ (gN r z.1.1) z.1.2.1))),(cm L 91 (gd.cells (gd.mk (ou r kA kC cA cC bA bC slA slC drA drC heA heC) (bq.mk z.1.2.2.1 ((List.zipWith CQ (gN r z.1.1) z.1.2.1).length) z.1.2.2.2) (Value.map none))))]) (fun _=>rfl) (fun _=>rfl) (fun z=>r.ao.length-z.1.1) ⟨(0,([]:List RA),none,0),A⟩ (aT U) (aI [3,4,5,6,7,8,9,10,11,12,13,0,1,2]) ?_
 clear A
 rintro ⟨⟨h,tz,a,c⟩,⟨T,C,E⟩⟩ J42 Z
 try dsimp only at T C E
 try dsimp only
 refine WS fun _ A3=>rP 1 [] mn ?_
 refine RK A3<|aj fun _ A4=>bO U (aO fun J4=>?_) (aP fun J4=>?_)
 ·refine bD<|ab<|ab<|aA<|KK A1<|aj fun _ C3=>?_
  have K0:gN r h=cU r:=by unfold cU; rw [show h=r.ao.length by omega]
  have GT:tz.length=r.ao.length:=by omega
  rw [K0,zq,show (List.zipWith CQ (cU r) tz).length=(cU r).length from by rw [List.length_zipWith]; omega]
  have X:fc r:=I4 (n:=i) I I I I I N J E I
  refine al<|rP 5 [] (mc 1 U mn) ?_
  refine cX (PB r kA kC az cA cC bA bC slA slC drA drC ha heA heC tz a c (Value.map none) L r.ao.length hin asm I (by exact X.Av)) (l5 [3,4,5,6,7,8,9,10]<|av (ag (n:=(cU r).length) 12 U (nm (by rw [GE]; exact GT)))<|av (dG 11 U ua)<|fM 13 U U<|aM) U fun K Ms=>?_
  try dsimp only
  refine rS (SX (bQ U U) U U)<|rP 1 [] mn ?_
  refine jx (vs:=[(Value.map (some K))]) (cs':=(gd.cells (gd.mk (ou r kA kC cA cC bA bC slA slC drA drC heA heC) (bq.mk a ((cU r).length) c) (Value.map (some K))))) (C':=[_,_,_,_,_,_,_,_,_,_,_,_,_,_,(cm L 91 (gd.cells (gd.mk (ou r kA kC cA cC bA bC slA slC drA drC heA heC) (bq.mk a ((cU r).length) c) (Value.map (some K)))))]) 14 U U U NK U U U U U U U<|RK C3<|aj fun _ DV=>?_
  rw [show eL r r.ao.length=ax r from rfl]
  refine al<|rP 3 [] mn ?_
  refine RK DV<|ar ?_
  refine LX hQ (true,0,L,K,a,c,tz) [14,13,12,0] [] mn U (by (show List.all _ _=true; simp only [cond_true,fz,List.all_nil,xN,Bool.and_true]; rfl)) U U ?_
  exact ⟨fun _=>⟨CW B X,GT⟩,Nc⟩
 refine WK A4<|aj fun _ A5=>ay<|WS fun _ A6=>?_
 obtain ⟨ht,D⟩:=aH r.ao h I
 obtain ⟨G,AB⟩:=aH ha h I
 have Fn:(List.zipWith ct r.ao ha)[h]? =some (ct ht G):=cT D AB
 refine rS (IA h U (aB 9 U) lu dc I I)<|rS (fX h 0 (vS G.1.1 ht.length G.1.2) U cb (aB 9 U) Fn U dc U)<|rP 1 [] mn ?_
 refine RK A6<|aj fun _ A7=>WS fun _ A8=>?_
 have Fd:=hin.kb _ _ _ D AB
 have Lo:=Fd.mW
 refine rP 4 [] mn ?_
 refine RK A8<|cE U (aZ fun Y=>?_) (a_ fun Y=>?_)
 ·refine WS fun _ A9=>rP 2 [] mn ?_
  refine RK A9<|ar<|LX hQ (false,60,0,0,none,0,[]) [] [] mn U (by rfl) U U ?_
  exact sE<|qy (kH B (fun q:fc r=>by have q1:=(q.kb ht (aS D)).1; omega))
 refine WK A7<|WS fun _ BX=>bo 1 U<|RK BX<|aj fun _ B3=>WS fun _ B7=>rP 3 [] mn ?_
 refine RK B7<|ay<|gl 40 2 ?_
 have A:(0≤ht.length)∧(oJ r.an ht 0):=by exact ⟨Nat.zero_le _,vK⟩
 refine bK (ι:={z:Nat×(OA)×Nat // (z.1≤ht.length)∧(oJ r.an ht z.1)}) [1,5,8,10,93,94,95,103,104] [1,2,3,4,5,6,7,8,9,10,11,12,13,14] U U (fun z=>[(11,(vS z.1.2.1 (((ht.take z.1.1).map (dF r.an)).length) z.1.2.2)),(105,(vI (z.1.1:Int)))]) (fun z=>[(own z.1.2.1 z.1.2.2 40 2 (((ht.take z.1.1).map (dF r.an)).map aa.cells))]) (fun _=>rfl) (fun _=>rfl) (fun z=>ht.length-z.1.1) ⟨(0,none,0),A⟩ (aT U) (aI [1,2,3,4,5,6,7,8,9,10,11,12,13,14,0]) ?_
 clear A
 rintro ⟨⟨j,la,lc⟩,⟨AA,F⟩⟩ J53 b
 try dsimp only at AA F
 try dsimp only
 refine WS fun _ B9=>rP 1 [] mn ?_
 refine RK B9<|aj fun _ Ci=>bO U (aO fun JR=>?_) (aP fun JR=>?_)
 ·refine bD<|ab<|ab<|aA<|KK B3<|al<|bo 2 U<|rS (SX (bQ U U) U U)<|rP 2 [] (mc 13 U mn) ?_
  rw [show ((ht.take j).map (dF r.an))=ht.map (dF r.an) from by rw [List.take_of_length_le I]]
  refine rP 1 [] mn ?_
  refine du (xs:=[.tmp 128]) (cs:=[(vS la ((ht.map (dF r.an)).length) lc)]) U Od SV U U U U (by simp [Value.cells]) U U fun Or=>?_
  refine cO (es2:=(List.map sC (List.zipWith CQ (gN r (h+1)) (tz++[(la,lc)])))) (m':=(List.zipWith CQ (gN r (h+1)) (tz++[(la,lc)])).length) 13 U U U TS U U sm (bp (es:=List.map sC [(bq.mk la ((ht.map (dF r.an)).length) lc)]) 0 U U (by simp [zp]) U) (JT _) (by rw [List.length_zipWith,kU I]; omega) (by rw [List.length_zipWith,kU I]; simp only [maxLen]; omega) (by rw [uL D C,List.map_append]; rfl) (by rw [uL D C]; simp) U fun P R=>?_
  try dsimp only
  refine rS (SX (bQ U U) U U)<|bo 1 U<|jx (vs:=[(vS P ((List.zipWith CQ (gN r (h+1)) (tz++[(la,lc)])).length) R)]) (cs':=(gd.cells (gd.mk (ou r kA kC cA cC bA bC slA slC drA drC heA heC) (bq.mk P ((List.zipWith CQ (gN r (h+1)) (tz++[(la,lc)])).length) R) (Value.map none)))) (C':=[_,_,_,_,_,_,_,_,_,_,_,_,_,_,(cm L 91 (gd.cells (gd.mk (ou r kA kC cA cC bA bC slA slC drA drC heA heC) (bq.mk P ((List.zipWith CQ (gN r (h+1)) (tz++[(la,lc)])).length) R) (Value.map none)))),_]) 14 U U U VP U U U U U U U<|aD<|aG<|KK A5<|al<|rP 2 [] mn ?_
  refine aD<|Ai (X':=aU DU (gN r (h+1)) (tz++[(la,lc)])) 12 15 U U (CK (a:=(la,lc)) D C) ?_
  have Eq:(vI (((h+1):Nat):Int))=(vI ((h:Int)+1)):=by exact cI I
  refine aR (Z ⟨((h+1),(tz++[(la,lc)]),P,R),⟨I,by simp; omega,w9 E D (Gq I F I)⟩⟩ _ _ _ U os (cR 5<|aY U Eq<|dj.nil _) (aI [2,3,4,5,6,7,8,9,10,11,12,0,13,14]))
 refine WK Ci<|aj fun _ Ck=>ay<|WS fun _ Cp=>?_
 obtain ⟨d,hd⟩:=aH ht j I
 obtain ⟨da,FS⟩:=aH G.2 j I
 have Kx:(List.zipWith au.cells ht G.2)[j]? =some (au.cells d da):=cT hd FS
 refine rS (IA j U (show g9 _ (rd G.1.1 ht.length 7 (List.zipWith au.cells ht G.2)).holds from (cw 10 U (bH D AB bZ))) pN dc I I)<|rS (lS j 0 (bg.cells (bg.mk d.Out d.dZ d.Time (dL.mk d.b_.Start d.b_.fZ (bq.mk da.1 d.b_.ai.length da.2)))) U cb (show g9 _ (rd G.1.1 ht.length 7 (List.zipWith au.cells ht G.2)).holds from (cw 10 U (bH D AB bZ))) Kx U dc U U)<|AL U NI fun NE=>fW U O5 U<|RK Cp<|WS fun _ Cx=>bo 1 U<|rS (LP (bV.cells (lq r.an kA kC cA cC bA bC)) 2 U cb U U U)<|rP 1 [] (mc 0 U mn) ?_
 have Pl:=Fd.sig d (aS hd)
 refine rS (CL (Fc r.an kA kC az cA cC bA bC d da.1 da.2 asm asm) (l5 [3,4,5,6,7]<|av (show g9 _ (rd da.1 d.b_.ai.length 2 (d.b_.ai.map aJ.cells)).holds from (cw 11 U (bH D AB (c_ _ (bH hd FS (by simp [au.gE]))))))<|aM) U)<|bo 3 U<|AL U dx fun Ne=>fW U cz U<|bo 1 U<|RK Cx<|aj fun _ C0=>WS fun _ C1=>rP 2 [] mn ?_
 refine RK C1<|bO U (a_ fun M=>?_) (aZ fun M=>?_)
 ·refine WK C0<|al<|rP 2 [] (mc 0 U mn) ?_
  refine du (xs:=[.tmp 119]) (cs:=(aa.cells (dF r.an d))) U jY dx U U U U (by simp [Value.cells,aa.aW]) U U fun Op=>?_
  refine cO (es2:=(List.map aa.cells ((ht.take (j+1)).map (dF r.an)))) (m':=((ht.take (j+1)).map (dF r.an)).length) 17 U U U Et U U sm (bp (es:=List.map aa.cells [(dF r.an d)]) 0 U U (by simp [aa.aW]) U) (hP _) (by simp only [List.length_map,List.length_take]; omega) (by simp only [maxLen,List.length_map,List.length_take]; omega) (by rw [List.take_add_one,hd]; simp) sq U fun Go IO=>?_
  try dsimp only
  refine bo 1 U<|aD<|aG<|KK Ck<|al<|rP 2 [] mn ?_
  refine aD ?_
  have EQ:(vI (((j+1):Nat):Int))=(vI ((j:Int)+1)):=by exact cI I
  refine aR (b ⟨((j+1),Go,IO),⟨I,vZ F hd M⟩⟩ _ _ _ U os (cR 10<|aY U EQ<|dj.nil _) (aI [3,4,5,6,7,8,9,10,11,12,13,14,15,16,17]))
 refine WS fun _ C2=>rP 2 [] mn ?_
 refine RK C2<|ar<|LX hQ (false,60,0,0,none,0,[]) [] [] mn U (by rfl) U U ?_
 exact sE<|qy (kH B (fun q:fc r=>by exact M ((q.kb ht (aS D)).2 d (aS hd))))
end
section
open Go.RowKit
theorem D1 (l:List Int) (lA:OA) (lC:Nat) (hlen:l.length=1):
 DS Tryz.prog 59 [(vS lA 1 lC)] [] (own lA lC 3 1 (l.map iC)) (fun (x:Unit)=>(vS lA 1 lC)) (fun (x:Unit)=>True) (fun (x:Unit)=>(own lA lC 3 1 (l.map iC))):=by
 refine mZ kr Tryz.func59 U U fun E Q hQ hN=>?_
 try dsimp only
 refine WS fun _ A=>bo 1 U<|RK A<|aj fun _ D=>WS fun _ B=>bo 2 U<|rS (SX (cf (r:= .bool true) U U U hE) U U)<|RK B<|aN U<|WS fun _ C=>rP 2 [] mn ?_
 refine RK C<|ar<|LM hQ () 0 [] mn U U U U ?_
 trivial
theorem EU (l:List Int) (lA:OA) (lC:Nat) (hlen:l.length=2):
 DS Tryz.prog 59 [(vS lA 2 lC)] [] (own lA lC 3 1 (l.map iC)) (fun (x:(List Int))=>(vS lA (Jo l) lC)) (fun (x:(List Int))=>True) (fun (x:(List Int))=>(own lA lC 3 1 (x.map iC))):=by
 refine mZ kr Tryz.func59 U U fun c Q hQ hN=>?_
 try dsimp only
 refine WS fun _ M=>bo 1 U<|RK M<|aj fun _ N=>WS fun _ O=>bo 2 U<|rS (SX (cf (r:= .bool false) U U U hE) U U)<|RK O<|bh U<|WK N<|aj fun _ P=>WS fun _ R=>bo 1 U<|RK R<|ay<|j2 3<|eJ fun R6 V=>aj fun _ S=>WS fun _ T=>bo 3 U<|rS (SX (cf (r:= .bool true) U U U hE) U U)<|RK T<|aN U<|WK S<|aj fun _ AA=>ay<|aj fun _ B=>dg cv 10 kr<|dP 2 [] mn ?_
 obtain ⟨x,hx⟩:=aH l 1 I
 have W:=bJ iC hx
 refine dS (IA 1 U (ag (n:=2) 0 U sq) cN dc U I) ?_
 refine dS (fX 1 0 (vI x) U cb (ag (n:=l.length) 0 U sm) W U dc U)<|dP 2 [] mn ?_
 refine dS (SX (cf (r:= .int .i64 0) U U U (sJ ⟨dc,dc⟩)) U U) ?_
 obtain ⟨y,hy⟩:=aH l 0 I
 have X:=bJ iC hy
 refine dS (IA 0 U (ag (n:=2) 0 U sq) cN dc U I) ?_
 refine dS (fX 0 0 (vI y) U cb (ag (n:=l.length) 0 U sm) X U dc U)<|dP 1 [] mn ?_
 refine cM<|RK B<|bO U (aO fun A=>?_) (aP fun A=>?_)
 ·refine ck<|aG<|KK AA<|al<|bo 1 U<|rS (SX (cf (r:= .int .i64 2) U U U (iE ⟨dc,dc⟩)) U U)<|bo 1 U<|RK V<|eJ fun R19 b=>aj fun _ Z=>WS fun _ AB=>bo 3 U<|rS (SX (cf (r:= .bool false) U U U hE) U U)<|RK AB<|bh U<|bD<|ab<|ab<|aA<|KK P<|WS fun _ J=>rP 2 [] mn ?_
  refine RK J<|ar ?_
  refine LM hQ l 0 [] mn U U U ?_ ?_
  ·(rw [CC hlen hy hx A,hlen]; rfl)
  ·trivial
 refine WS fun _ C=>rP 2 [] mn ?_
 refine rS (V9 1 U cN U os) ?_
 refine bo 1 U<|RK C<|aj fun _ D=>WS fun _ E=>bo 1 U<|RK E<|ay<|j2 2<|eJ fun R14 a=>aj fun _ Y=>WS fun _ F=>rP 4 [] mn ?_
 refine RK F<|cE U (aP fun L=>?_) (aO fun L=>?_)
 ·exfalso; omega
 refine bD<|ab<|ab<|aA<|KK D<|WS fun _ G=>rP 2 [] mn ?_
 refine rS (V9 1 U cN U os) ?_
 refine Oz (k:=1) 0 rfl rfl pq (by intro v hv; simp [Value.cells] at hv; subst hv; rfl) rfl os I ?_
 try dsimp only
 rw [show (own lA lC 3 1 ((l.map iC).take 1))=(own lA lC 3 1 ((l.take 1).map iC)) from by rw [List.map_take]]
 refine RK G<|WS fun _ H=>Mc 0 U fun K=>?_
 simp only [List.length_map,List.length_take] at K
 refine bo 2 U<|rS (Vl 1 U cN U I)<|rP 1 [] mn ?_
 refine RK H<|ar ?_
 refine LM hQ (l.take 1) 0 [] mn U U U ?_ ?_
 ·(rw [zF hlen hy hx A]; rfl)
 ·trivial
end
section
open Go.RowKit
theorem zN (r:bY) (kA:OA) (kC:Nat) (az:List RA) (cA:OA) (cC:Nat) (bA:OA) (bC:Nat) (slA:OA) (slC:Nat) (drA:OA) (drC:Nat) (ha:List cG) (heA:OA) (heC:Nat) (a:Int) (gq:Nat) (hin:ej r az ha):
 lx Tryz.prog 35 [(vA (cr.cells (ou r kA kC cA cC bA bC slA slC drA drC heA heC))),(vS (some ⟨gq,0,none⟩) 1 1)] [(rd ff 3 2 eu),(rd kA r.an.aL.length 9 (r.an.aL.map ak.cells)),(rd cA r.an.ah.length 2 (List.zipWith aq.cells r.an.ah az)),(eX (aU aq.gE r.an.ah az)),(rd bA r.an.ae.length 4 (r.an.ae.map bG.cells)),(rd slA r.aK.length 1 (r.aK.map iC)),(rd drA r.bL.length 1 (r.bL.map iC)),(rd heA r.ao.length 1 (List.zipWith ct r.ao ha)),(eX (aU hO r.ao ha)),(cm gq 3 [(vI a)])] (fun (x:Bool×Int×Nat×Nat×(OA)×Nat×(List RA)×(OA)×Nat)=>bif x.1 then (vT [(Value.pointer (some ⟨x.2.2.1,0,none⟩)),(vS x.2.2.2.2.2.2.2.1 1 x.2.2.2.2.2.2.2.2),(vI 0)]) else (vT [(Value.pointer none),(vS none 0 0),(vI x.2.1)])) (fun (x:Bool×Int×Nat×Nat×(OA)×Nat×(List RA)×(OA)×Nat)=>(x.1=true→(j7 r a=0∧x.2.2.2.2.2.2.1.length=r.ao.length))∧(x.1=false→(x.2.1=j7 r a∧ ¬ j7 r a=0))) (fun (x:Bool×Int×Nat×Nat×(OA)×Nat×(List RA)×(OA)×Nat)=>bif x.1 then [(cm x.2.2.1 91 (gd.cells (gd.mk (ou r kA kC cA cC bA bC slA slC drA drC heA heC) (bq.mk x.2.2.2.2.1 ((cU r).length) x.2.2.2.2.2.1) (Value.map (some x.2.2.2.1))))),(own x.2.2.2.2.1 x.2.2.2.2.2.1 82 1 (List.zipWith Ew (cU r) x.2.2.2.2.2.2.1)),(bB (aU DU (cU r) x.2.2.2.2.2.2.1)),(im iV x.2.2.2.1 (bS dE (ax r))),(own x.2.2.2.2.2.2.2.1 x.2.2.2.2.2.2.2.2 40 2 ([(aC (ax r) a)].map aa.cells))] else []):=by
 have y:=hin.line
 have A8:=hin.iv
 have A9:=hin.has
 have A1:=hin.iA
 have A0:=hin.draw
 have g:=dB (r:=r)
 refine dp kr Tryz.func35 U U fun w0 Q hQ hN=>?_
 try dsimp only
 refine WS fun _ w=>fK U fun b2=>bo 3 U<|RK w<|WS fun _ N=>rP 1 [] (mc 0 U mn) ?_
 refine cX (oD r kA kC az cA cC bA bC slA slC drA drC ha heA heC hin) (bk [1,2,3,4,5,6,7,8,9]) U fun y4 j=>?_
 obtain ⟨k,A7,F,E,m,B,C⟩:=y4
 cases k
 ·obtain ⟨e,he⟩:=j.2 rfl
  try dsimp only at e he
  subst e
  try dsimp only [cond_true,cond_false,List.cons_append,List.nil_append]
  refine bo 5 U<|RK N<|aj fun _ AO=>WS fun _ H=>rP 2 [] mn ?_
  refine RK H<|bO U (a_ fun G=>?_) (aZ fun G=>?_)
  ·exact absurd G he
  refine WS fun _ AB=>rP 4 [] mn ?_
  refine RK AB<|ar<|LX hQ (false,(cV r),0,0,none,0,[],none,0) [] [] mn U (by rfl) U U ?_
  exact sE<|I_ (J0 (i:=a) he) he
 obtain ⟨he,h⟩:=j.1 rfl
 try dsimp only [cond_true,cond_false,List.cons_append,List.nil_append]
 refine bo 5 U<|RK N<|aj fun _ J=>WS fun _ K=>bo 1 U<|rS (SX (cf (r:= .bool false) U U U m_) U U)<|RK K<|bh U<|WK J<|aj fun _ L=>WS fun _ A=>rP 2 [] mn ?_
 refine rS (CL (er.eq (Bh r kA kC az cA cC bA bC slA slC drA drC ha heA heC C m B (Value.map (some E)) F ([a]) (some ⟨gq,0,none⟩) 1 hin (by (simp; done))) df) (l5 [6,7,8,9,10,11,12,13]<|av (ag (n:=(cU r).length) 1 U (nm (by rw [g]; exact h)))<|av (dG 2 U ua)<|fM 0 U U<|av (oM 14 U U (by simp [bM]) U)<|aM) U) ?_
 refine rP 2 [] mn ?_
 refine cH (t:=26) U (aZ fun v=>?_) (a_ fun v=>?_)
 ·refine bo 3 U<|bo 4 U<|bo 2 U<|RK A<|aN U<|WS fun _ M=>rP 3 [] mn ?_
  refine RK M<|ar<|LX hQ (false,2,0,0,none,0,[],none,0) [] [] mn U (by rfl) U U ?_
  exact sE<|qy (I8 (i:=a) he I)
 refine rP 1 [] mn ?_
 refine cX (w5 (some ⟨gq,0,none⟩) 1 1) (aM) U fun q A2=>?_
 try dsimp only
 refine cX (x8 ([a]) (some ⟨gq,0,none⟩) 1 q (by (simp; done))) (av (oM 15 U U (by simp [bM]) U)<|fM 0 U U<|aM) U fun AC A3=>?_
 obtain ⟨o,s⟩:=AC
 try dsimp only
 try dsimp only
 refine je 0 U U U U (D1 (dA ([a])) o s (by (simp; done))) U kG U (fun BX A4=>?_)
 try dsimp only
 refine bo 3 U<|rS (SX (cf (r:= .bool false) U U U hE) U U)<|bo 1 U<|RK A<|bh U<|WK L<|WS fun _ O=>bo 1 U<|RK O<|aj fun _ P=>WS fun _ R=>bo 3 U<|RK R<|ay<|j2 2<|eJ fun R33 d=>WS fun _ S=>rS (SX (cf (r:= .bool true) U U U hE) U U)<|RK S<|aj fun _ T=>aN U<|WK T<|aj fun _ AA=>ay<|WS fun _ V=>rS (UL 0 0 U cN U dc U)<|fG 2 [] (mr 16 U mn) U<|RK V<|WS fun _ W=>bo 1 U<|rS (SX (bQ U U) U U)<|fG 3 [] (mc 2 U mn) U<|rS (SX (j3 (kV:=iV) (x:=a) (l:=(ax r)) (f:=dE) (z:=(aa.mk 0 0)) U U U lv (dT mX) tm (by exact aB 5 U)) U U)<|bo 3 U<|AL U dx fun A5=>fW U cz U<|rP 1 [] mn ?_
 refine RK W<|aj fun _ X=>WS fun _ Y=>?_
 rw [show ((List.lookup a (ax r)).getD (aa.mk 0 0))=(aC (ax r) a) from rfl]
 refine rP 2 [] mn ?_
 refine RK Y<|cE U (fun D=>?_) (fun D=>?_)
 ·rw [Bool.not_eq_true'] at D
  refine WS fun _ Z=>rP 3 [] mn ?_
  refine RK Z<|ar<|LX hQ (false,6,0,0,none,0,[],none,0) [] [] mn U (by rfl) U U ?_
  exact sE<|qy (zi (i:=a) he I asm)
 rw [Bool.not_eq_false'] at D
 refine WK X<|al<|rP 2 [] (mc 0 U mn) ?_
 refine du (xs:=[.tmp 54]) (cs:=(aa.cells (aC (ax r) a))) U jY dx U U U U (by simp [Value.cells,aa.aW]) U U fun A6=>eg 40 2<|cO (es2:=(List.map aa.cells ([(aC (ax r) a)]))) (m':=([(aC (ax r) a)]).length) 0 U U U Et U U sm (bp (es:=List.map aa.cells [(aC (ax r) a)]) 1 U U (by simp [aa.aW]) U) (hP _) sm (by simp [maxLen]) sm sm U fun p u=>?_
 try dsimp only
 refine bo 1 U<|aD<|aG<|KK AA<|al<|rS (SX (cf (r:= .int .i64 1) U U U (iE ⟨dc,dc⟩)) U U)<|bo 1 U<|RK d<|eJ fun R46 Av=>WS fun _ b=>rS (SX (cf (r:= .bool false) U U U hE) U U)<|RK b<|aj fun _ An=>bh U<|bD<|ab<|ab<|aA<|KK P<|WS fun _ c=>rP 5 [] mn ?_
 refine RK c<|ar ?_
 refine LX hQ (true,0,F,E,m,B,C,p,u) [5,6,7,8,0] [] mn U (by (show List.all _ _=true; simp only [cond_true,fz,List.all_nil,xN,Bool.and_true]; rfl)) U U ?_
 exact ⟨fun _=>⟨GI he I asm,h⟩,Nc⟩
end
section
open Go.RowKit
theorem z_ (r:bY) (kA:OA) (kC:Nat) (az:List RA) (cA:OA) (cC:Nat) (bA:OA) (bC:Nat) (slA:OA) (slC:Nat) (drA:OA) (drC:Nat) (ha:List cG) (heA:OA) (heC:Nat) (a b:Int) (gq:Nat) (hin:ej r az ha):
 lx Tryz.prog 35 [(vA (cr.cells (ou r kA kC cA cC bA bC slA slC drA drC heA heC))),(vS (some ⟨gq,0,none⟩) 2 2)] [(rd ff 3 2 eu),(rd kA r.an.aL.length 9 (r.an.aL.map ak.cells)),(rd cA r.an.ah.length 2 (List.zipWith aq.cells r.an.ah az)),(eX (aU aq.gE r.an.ah az)),(rd bA r.an.ae.length 4 (r.an.ae.map bG.cells)),(rd slA r.aK.length 1 (r.aK.map iC)),(rd drA r.bL.length 1 (r.bL.map iC)),(rd heA r.ao.length 1 (List.zipWith ct r.ao ha)),(eX (aU hO r.ao ha)),(cm gq 3 [(vI a),(vI b)])] (fun (x:Bool×Int×Nat×Nat×(OA)×Nat×(List RA)×(OA)×Nat)=>bif x.1 then (vT [(Value.pointer (some ⟨x.2.2.1,0,none⟩)),(vS x.2.2.2.2.2.2.2.1 2 x.2.2.2.2.2.2.2.2),(vI 0)]) else (vT [(Value.pointer none),(vS none 0 0),(vI x.2.1)])) (fun (x:Bool×Int×Nat×Nat×(OA)×Nat×(List RA)×(OA)×Nat)=>(x.1=true→(nY r a b=0∧x.2.2.2.2.2.2.1.length=r.ao.length))∧(x.1=false→(x.2.1=nY r a b∧ ¬ nY r a b=0))) (fun (x:Bool×Int×Nat×Nat×(OA)×Nat×(List RA)×(OA)×Nat)=>bif x.1 then [(cm x.2.2.1 91 (gd.cells (gd.mk (ou r kA kC cA cC bA bC slA slC drA drC heA heC) (bq.mk x.2.2.2.2.1 ((cU r).length) x.2.2.2.2.2.1) (Value.map (some x.2.2.2.1))))),(own x.2.2.2.2.1 x.2.2.2.2.2.1 82 1 (List.zipWith Ew (cU r) x.2.2.2.2.2.2.1)),(bB (aU DU (cU r) x.2.2.2.2.2.2.1)),(im iV x.2.2.2.1 (bS dE (ax r))),(own x.2.2.2.2.2.2.2.1 x.2.2.2.2.2.2.2.2 40 2 ([(aC (ax r) a),(aC (ax r) b)].map aa.cells))] else []):=by
 have A6:=hin.line
 have Do:=hin.iv
 have EQ:=hin.has
 have B7:=hin.iA
 have B3:=hin.draw
 have v:=dB (r:=r)
 refine dp kr Tryz.func35 U U fun w0 Q hQ hN=>?_
 try dsimp only
 refine WS fun _ A5=>fK U fun b2=>bo 3 U<|RK A5<|WS fun _ N=>rP 1 [] (mc 0 U mn) ?_
 refine cX (oD r kA kC az cA cC bA bC slA slC drA drC ha heA heC hin) (bk [1,2,3,4,5,6,7,8,9]) U fun y4 y=>?_
 obtain ⟨AC,DV,F,E,AO,C,D⟩:=y4
 cases AC
 ·obtain ⟨u,he⟩:=y.2 rfl
  try dsimp only at u he
  subst u
  try dsimp only [cond_true,cond_false,List.cons_append,List.nil_append]
  refine bo 5 U<|RK N<|aj fun _ A8=>WS fun _ H=>rP 2 [] mn ?_
  refine RK H<|bO U (a_ fun G=>?_) (aZ fun G=>?_)
  ·exact absurd G he
  refine WS fun _ AB=>rP 4 [] mn ?_
  refine RK AB<|ar<|LX hQ (false,(cV r),0,0,none,0,[],none,0) [] [] mn U (by rfl) U U ?_
  exact sE<|I_ (Mf (a:=a) (b:=b) he) he
 obtain ⟨he,w⟩:=y.1 rfl
 try dsimp only [cond_true,cond_false,List.cons_append,List.nil_append]
 refine bo 5 U<|RK N<|aj fun _ J=>WS fun _ K=>bo 1 U<|rS (SX (cf (r:= .bool false) U U U m_) U U)<|RK K<|bh U<|WK J<|aj fun _ L=>WS fun _ B=>rP 2 [] mn ?_
 refine rS (CL (er.eq (Bh r kA kC az cA cC bA bC slA slC drA drC ha heA heC D AO C (Value.map (some E)) F ([a,b]) (some ⟨gq,0,none⟩) 2 hin (by (simp; done))) r_) (l5 [6,7,8,9,10,11,12,13]<|av (ag (n:=(cU r).length) 1 U (nm (by rw [v]; exact w)))<|av (dG 2 U ua)<|fM 0 U U<|av (oM 14 U U (by simp [bM]) U)<|aM) U) ?_
 refine rP 2 [] mn ?_
 refine cH (t:=26) U (aZ fun A3=>?_) (a_ fun A3=>?_)
 ·refine bo 3 U<|bo 4 U<|bo 2 U<|RK B<|aN U<|WS fun _ M=>rP 3 [] mn ?_
  refine RK M<|ar<|LX hQ (false,2,0,0,none,0,[],none,0) [] [] mn U (by rfl) U U ?_
  exact sE<|qy (B5 (a:=a) (b:=b) he I)
 refine rP 1 [] mn ?_
 refine cX (w5 (some ⟨gq,0,none⟩) 2 2) (aM) U fun A0 B9=>?_
 try dsimp only
 refine cX (x8 ([a,b]) (some ⟨gq,0,none⟩) 2 A0 (by (simp; done))) (av (oM 15 U U (by simp [bM]) U)<|fM 0 U U<|aM) U fun A7 Ci=>?_
 obtain ⟨An,A1⟩:=A7
 try dsimp only
 try dsimp only
 refine je 0 U U U U (EU (dA ([a,b])) An A1 (by (simp; done))) U kG U (fun Eq Ck=>?_)
 try dsimp only
 refine rP 3 [] mn ?_
 have Di:=Kz a b
 refine rP 2 [] mn ?_
 refine RK B<|cE U (aP fun A4=>?_) (aO fun A4=>?_)
 ·refine WS fun _ O=>rP 3 [] mn ?_
  refine RK O<|ar<|LX hQ (false,2,0,0,none,0,[],none,0) [] [] mn U (by rfl) U U ?_
  exact sE<|qy (B5 (a:=a) (b:=b) he I)
 refine WK L<|WS fun _ P=>bo 1 U<|RK P<|aj fun _ R=>WS fun _ S=>bo 3 U<|RK S<|ay<|j2 3<|eJ fun R35 q=>WS fun _ T=>rS (SX (cf (r:= .bool true) U U U hE) U U)<|RK T<|aj fun _ AA=>aN U<|WK AA<|aj fun _ V=>ay<|WS fun _ W=>rS (UL 0 0 U cN U dc U)<|fG 2 [] (mr 16 U mn) U<|RK W<|WS fun _ X=>bo 1 U<|rS (SX (bQ U U) U U)<|fG 3 [] (mc 2 U mn) U<|rS (SX (j3 (kV:=iV) (x:=a) (l:=(ax r)) (f:=dE) (z:=(aa.mk 0 0)) U U U lv (dT mX) tm (by exact aB 5 U)) U U)<|bo 3 U<|AL U dx fun Cx=>fW U cz U<|rP 1 [] mn ?_
 refine RK X<|aj fun _ Y=>WS fun _ Z=>?_
 rw [show ((List.lookup a (ax r)).getD (aa.mk 0 0))=(aC (ax r) a) from rfl]
 refine rP 2 [] mn ?_
 refine RK Z<|cE U (fun A=>?_) (fun A=>?_)
 ·rw [Bool.not_eq_true'] at A
  refine WS fun _ c=>rP 3 [] mn ?_
  refine RK c<|ar<|LX hQ (false,6,0,0,none,0,[],none,0) [] [] mn U (by rfl) U U ?_
  exact sE<|qy (zE (a:=a) (b:=b) he I (by exact .inl asm))
 rw [Bool.not_eq_false'] at A
 refine WK Y<|al<|rP 2 [] (mc 0 U mn) ?_
 refine du (xs:=[.tmp 54]) (cs:=(aa.cells (aC (ax r) a))) U jY dx U U U U (by simp [Value.cells,aa.aW]) U U fun C0=>eg 40 2<|cO (es2:=(List.map aa.cells ([(aC (ax r) a)]))) (m':=([(aC (ax r) a)]).length) 0 U U U Et U U sm (bp (es:=List.map aa.cells [(aC (ax r) a)]) 1 U U (by simp [aa.aW]) U) (hP _) sm (by simp [maxLen]) sm sm U fun Cp C3=>?_
 try dsimp only
 refine bo 1 U<|aD<|aG<|KK V<|al<|rS (SX (cf (r:= .int .i64 1) U U U (iE ⟨dc,dc⟩)) U U)<|bo 1 U<|RK q<|eJ fun R48 s=>WS fun _ d=>rS (SX (cf (r:= .bool true) U U U hE) U U)<|RK d<|aj fun _ e=>aN U<|WK e<|aj fun _ g=>ay<|WS fun _ h=>rS (UL 1 1 U cN U dc U)<|fG 2 [] (mr 19 U mn) U<|RK h<|WS fun _ i=>bo 1 U<|rS (SX (bQ U U) U U)<|fG 3 [] (mc 5 U mn) U<|rS (SX (j3 (kV:=iV) (x:=b) (l:=(ax r)) (f:=dE) (z:=(aa.mk 0 0)) U U U lv (dT mX) tm (by exact aB 8 U)) U U)<|bo 3 U<|AL U dx fun C1=>fW U cz U<|rP 1 [] mn ?_
 refine RK i<|aj fun _ j=>WS fun _ k=>?_
 rw [show ((List.lookup b (ax r)).getD (aa.mk 0 0))=(aC (ax r) b) from rfl]
 refine rP 2 [] mn ?_
 refine RK k<|cE U (fun A=>?_) (fun A=>?_)
 ·rw [Bool.not_eq_true'] at A
  refine WS fun _ m=>rP 3 [] mn ?_
  refine RK m<|ar<|LX hQ (false,6,0,0,none,0,[],none,0) [] [] mn U (by rfl) U U ?_
  exact sE<|qy (zE (a:=a) (b:=b) he I (by exact .inr asm))
 rw [Bool.not_eq_false'] at A
 refine WK j<|al<|rP 2 [] (mc 0 U mn) ?_
 refine du (xs:=[.tmp 54]) (cs:=(aa.cells (aC (ax r) b))) U jY dx U U U U (by simp [Value.cells,aa.aW]) U U fun C2=>cO (es2:=(List.map aa.cells ([(aC (ax r) a),(aC (ax r) b)]))) (m':=([(aC (ax r) a),(aC (ax r) b)]).length) 2 U U U Et U U sm (bp (es:=List.map aa.cells [(aC (ax r) b)]) 0 U U (by simp [aa.aW]) U) (hP _) sm (by simp [maxLen]) sm sm U fun Av A2=>?_
 try dsimp only
 refine bo 1 U<|aD<|aG<|KK g<|al<|rS (SX (cf (r:= .int .i64 2) U U U (iE ⟨dc,dc⟩)) U U)<|bo 1 U<|RK s<|eJ fun R61 BX=>WS fun _ o=>rS (SX (cf (r:= .bool false) U U U hE) U U)<|RK o<|aj fun _ A9=>bh U<|bD<|ab<|ab<|aA<|KK R<|WS fun _ p=>rP 5 [] mn ?_
 refine RK p<|ar ?_
 refine LX hQ (true,0,F,E,AO,C,D,Av,A2) [7,8,9,10,2] [] mn U (by (show List.all _ _=true; simp only [cond_true,fz,List.all_nil,xN,Bool.and_true]; rfl)) U U ?_
 exact ⟨fun _=>⟨O1 he I asm asm,w⟩,Nc⟩
end
section
open Go.RowKit
theorem Kd (m:rm) (gm g1:Nat):
 Ev Tryz.prog 97 [] [(vP g1)] [(im iV gm (bS vB m)),(cm g1 67 [(Value.map (some gm))])] ([]:List Int) (fun ys x ys'=> ∃ n zs,(ys++[n]++zs).Perm (m.map (·.1))∧x=[vI n]∧ys'=ys++[n]) (fun ys=>ys.Perm (m.map (·.1))):=by
 refine uE kr Tryz.func97 U U fun l J Z A0 S Q hY M L hQ hN=>?_
 try dsimp only
 refine WS fun _ O=>rP 1 [] (mr 2 U mn) ?_
 refine j1 (kV:=iV) (m:=bS vB m) 1 U U B6 U ⟨U,fun h=>h⟩ (by exact ly 1 U) U fun V=>?_
 try dsimp only
 refine RK O<|ay ?_
 have G:(o0 m m ([]:List Int))∧(∀ p∈m,p∈m)∧(J ([]:List Int) A0)∧(Fo A0 S A0):=by exact ⟨wg,fun p hp=>hp,M,L⟩
 refine bK (ι:={z:rm×(List Int)×aw // (o0 m z.1 z.2.1)∧(∀ p∈z.1,p∈m)∧(J z.2.1 z.2.2)∧(Fo A0 S z.2.2)}) [0,1,5] [2,3] U U (fun z=>[]) (fun z=>[(zh iV V gm (bS vB m) (bS vB z.1.1) none),z.1.2.2]) (fun _=>rfl) (fun _=>rfl) (fun z=>z.1.1.length) ⟨(m,([]:List Int),A0),G⟩ (dj.nil _) (aI [2,3,0,1]) ?_
 clear G
 rintro ⟨⟨left,ys,A⟩,⟨B,H,C,D⟩⟩ J3 N
 try dsimp only at B H C D
 try dsimp only
 refine WS fun _ AB=>jw (dT mX).inj (f:=Value.bool) 2 U U U U (fun T=>?_) (fun x y hm hn=>?_)
 ·refine rP 1 [] mn ?_
  refine RK AB<|aj fun _ AA=>bh U<|bD<|ab<|ab<|aA ?_
  refine hN _ _ _ (ic (vs:=[]) trivial fun w hs=>KI 3 U (by rw [T] at B; exact wV B) C D hs)
 try dsimp only
 refine bo 1 U<|RK AB<|aj fun _ P=>aN U<|WK P<|ay<|WS fun _ R=>rS (SX (js 2 U U U) U U)<|bo 2 U<|RK R<|WS fun _ K=>rP 2 [] mn ?_
 refine kO (k:=ys) (k':=(ys++[(x)])) 3 (by first|exact hsz|exact Nat.le_refl _) hY C D U U U (by exact ⟨x,_,oE hn hm B,U,U⟩) U U (fun B9 F E=>?_) (fun B9 F E=>?_)
 rotate_left 1
 ·refine rP 1 [] mn ?_
  refine RK K<|aN U<|ar ?_
  refine hQ _ _ _ (ic (vs:=[]) trivial fun w hs=>sP 3 U F E hs)
 refine rP 1 [] mn ?_
 refine RK K<|bh U<|ck<|aG<|hU 2 U fT U ?_
 refine aR (N ⟨((cJ left x),(ys++[(x)]),B9),⟨oE hn hm B,gh H,F,E⟩⟩ _ _ _ U (fg hm) (aT U) (aI [0,1,2,3]))
theorem ON (gm:Nat):
 lx Tryz.prog 71 [(Value.map (some gm))] [] (fun (x:Nat)=>(Value.func (.func 97) [].toArray [(vP x)].toArray)) (fun (x:Nat)=>True) (fun (x:Nat)=>[(cm x 67 [(Value.map (some gm))])]):=by
 refine dp kr Tryz.func71 U U fun D Q hQ hN=>?_
 try dsimp only
 refine WS fun _ A=>uP U U fun C=>bo 1 U<|RK A<|WS fun _ B=>rS (FU U)<|rP 1 [] mn ?_
 refine RK B<|ar<|LX hQ C [0] [] mn U U U U ?_
 trivial
end
section
open Go.RowKit
theorem IC (m:rm) (gm g1:Nat) (hlen:m.length≤12):
 lx Tryz.prog 94 [(vS none 0 0),(Value.func (.func 97) [].toArray [(vP g1)].toArray)] [(im iV gm (bS vB m)),(cm g1 67 [(Value.map (some gm))])] (fun (x:(List Int)×(OA)×Nat)=>(vS x.2.1 x.1.length x.2.2)) (fun (x:(List Int)×(OA)×Nat)=>x.1.Perm (m.map (·.1))) (fun (x:(List Int)×(OA)×Nat)=>[(own x.2.1 x.2.2 3 1 (x.1.map iC))]):=by
 refine dp kr Tryz.func94 U U fun X Q hQ hN=>?_
 try dsimp only
 refine WS fun _ AB=>uP U U fun N=>bo 1 U<|RK AB<|aj fun _ J=>WS fun _ K=>rP 1 [] mn ?_
 refine RK K<|ay<|kN 1 U (by exact fun _ h=>h)<|kN 3 U (by exact fun _ h=>h)<|gl 3 1 ?_
 refine oc (L0:=[(2,(vP N))]) (F:=[(im iV gm (bS vB m)).ro,(cm g1 67 [(Value.map (some gm))]).ro]) (fun k (y:(OA)×Nat)=>(∃ zs,(k++zs).Perm (m.map (·.1)))) (fun k y=>[(own y.1 y.2 3 1 (k.map iC)),(cm N 32 [(vS y.1 k.length y.2)]),(im iV gm (bS vB m)).ro]) (fun _ (_:Unit)=>False) (fun _ _=>[]) [0,3,4] [2,1] (none,0) rfl rfl (Kd m gm g1) rfl rfl rfl (by exact ⟨_,List.Perm.refl _⟩) (by simp only [List.forall_mem_cons,List.not_mem_nil,false_imp_iff,implies_true,and_true]; exact ⟨⟨_,sm,(dV (bU _))⟩,⟨_,sm,(dV (bU _))⟩⟩) (by rintro k x AA ⟨n,zs,_,rfl,_⟩; rfl) rfl (aT rfl) ?_ ?_ (fun _ _ _ h=>h.elim) (fun _ _ h=>h.elim)
 rotate_left 1
 ·rintro V k ⟨a,c⟩ E A
  have B:=A
  try dsimp only at B
  try dsimp only
  refine aG<|KK J<|WS fun _ C=>rP 2 [] (mc 4 U mn) ?_
  refine RK C<|ar<|hQ _ _ _ (oW 0 U U<|ic (vs:=[(vS a k.length c)]) ⟨U,trivial⟩ fun w hs=>Ki (k,a,c) [3] ?_ ?_ U U U hs)
  ·rfl
  ·first|exact E|exact hys
 rintro k x AA ⟨a,c⟩ l ra rb S Y K5 Qr6 T hx G L D O P
 obtain ⟨n,zs,hn,rfl,rfl⟩:=hx; have M:=hn.length_eq; simp only [List.length_append,List.length_map,List.length_singleton] at M
 have B:=G
 try dsimp only at B
 try dsimp only
 refine al<|rP 1 [] mn ?_
 refine aD<|aR (L _ _ ?_)
 refine ay<|al<|rP 2 [] (mc 2 U mn) ?_
 refine du (xs:=[.tmp 9]) (cs:=[(vI n)]) U cN jv U U U U (by simp [Value.cells]) U U fun W=>?_
 refine cO (es2:=(List.map iC (k++[n]))) (m':=(k++[n]).length) 2 U U U pq U U sm (bp (es:=List.map iC [n]) 0 U U (by simp [bM]) U) (jP _) os (by simp only [maxLen]; omega) sm sm U fun R H=>?_
 try dsimp only
 refine UY U xn U U<|aD<|aG ?_
 exact D (R,H) _ _ (by exact ⟨_,hn⟩) (aI [1,2,3,4])
end
section
open Go.RowKit
theorem Ej (m:rm) (gm g1:Nat) (hlen:m.length≤12):
 lx Tryz.prog 67 [(Value.func (.func 97) [].toArray [(vP g1)].toArray)] [(im iV gm (bS vB m)),(cm g1 67 [(Value.map (some gm))])] (fun (x:(List Int)×(OA)×Nat)=>(vS x.2.1 x.1.length x.2.2)) (fun (x:(List Int)×(OA)×Nat)=>x.1.Perm (m.map (·.1))) (fun (x:(List Int)×(OA)×Nat)=>[(own x.2.1 x.2.2 3 1 (x.1.map iC))]):=by
 refine dp kr Tryz.func67 U U fun AA Q hQ hN=>?_
 try dsimp only
 refine WS fun _ A=>bo 1 U<|RK A<|WS fun _ B=>rP 1 [] mn ?_
 refine cX (IC m gm g1 hlen) (bk [0,1]) U fun H C=>?_
 obtain ⟨E,F,G⟩:=H
 try dsimp only
 have D:=C
 refine rP 1 [] mn ?_
 refine RK B<|ar<|LX hQ (E,F,G) [0] [] mn U U U U ?_
 first|exact hfin|exact D
theorem Ht (m:rm) (gm g1:Nat) (hlen:m.length≤12):
 lx Tryz.prog 41 [(Value.func (.func 97) [].toArray [(vP g1)].toArray)] [(im iV gm (bS vB m)),(cm g1 67 [(Value.map (some gm))])] (fun (x:(OA)×Nat)=>(vS x.1 m.length x.2)) (fun (x:(OA)×Nat)=>True) (fun (x:(OA)×Nat)=>[(own x.1 x.2 3 1 ((dA (m.map (·.1))).map iC))]):=by
 refine dp kr Tryz.func41 U U fun M Q hQ hN=>?_
 try dsimp only
 refine WS fun _ E=>bo 1 U<|RK E<|WS fun _ F=>rP 1 [] mn ?_
 refine cX (Ej m gm g1 hlen) (bk [0,1]) U fun L H=>?_
 obtain ⟨AA,J,K⟩:=L
 try dsimp only
 have D:=H
 refine bo 1 U<|RK F<|WS fun _ G=>rP 1 [] mn ?_
 have B:=D.length_eq
 simp only [List.length_map] at B
 refine je 0 U U U U (Aq AA J K I) U kG U (fun ms C=>?_)
 try dsimp only
 refine RK G<|WS fun _ A=>?_
 obtain rfl:=q8 (C.1.trans D) C.2
 skip
 refine rP 2 [] mn ?_
 refine RK A<|ar ?_
 refine LX hQ (J,K) [0] [] mn U U U ?_ ?_
 ·first|rfl|(rw [B]; rfl)
 ·trivial
end
section
open Go.RowKit
theorem Ka (m:rm) (gm:Nat):
 lx Tryz.prog 69 [(Value.map (some gm))] [(im iV gm (bS vB m))] (fun (x:Nat)=>(Value.map (some x))) (fun (x:Nat)=>True) (fun (x:Nat)=>[(im iV x (bS vB m))]):=by
 refine dp VC Tryz.func69 U U fun F Q hQ hN=>?_
 try dsimp only
 refine WS fun _ A=>bo 1 U<|RK A<|aj fun _ B=>WS fun _ C=>bo 1 U<|rS (SX (cf (r:= .bool false) U U U (Qc B6)) U U)<|RK C<|bh U<|WK B<|WS fun _ D=>rP 1 [] mn ?_
 refine rS (SX (OE U U B6) U U)<|KC (kV:=iV) (fn:=Tryz.f95) U U Tryz.func95 U U U kr (by exact ly 0 U) U fun E=>?_
 try dsimp only
 refine rS (SX (SJ U U B6) U U)<|rP 1 [] mn ?_
 refine RK D<|ar<|LX hQ E [0] [] mn U U U U ?_
 trivial
end
section
open Go.RowKit
theorem H9 (r:bY) (kA:OA) (kC:Nat) (cA:OA) (cC:Nat) (bA:OA) (bC:Nat) (slA:OA) (slC:Nat) (drA:OA) (drC:Nat) (heA:OA) (heC:Nat) (tA:OA) (tN tC:Nat) (gs gw:Nat) (m:g0) (i:Int) (g1 g2:Nat) (hb: ∀ p∈m,0≤p.2.Lo∧p.2.Lo≤p.2.Hi∧p.2.Hi≤30000000):
 Ev Tryz.prog 96 [] [(vP g1),(vP g2)] [(cm gw 91 (gd.cells (gd.mk (ou r kA kC cA cC bA bC slA slC drA drC heA heC) (bq.mk tA tN tC) (Value.map (some gs))))),(im iV gs (bS dE m)),(cm g1 81 [(vP gw)]),(cm g2 3 [(vI i)])] ([]:List Int) (fun ys x ys'=> ∃ n,n∈(jQ m i (aC m i))∧x=[vI n]∧ys'=ys++[n]) (fun ys=> ∀ n,n∈ys↔n∈(jQ m i (aC m i))):=by
 have Li:=g6 (i:=i) hb
 refine uE kr Tryz.func96 U U fun l J Z A0 w0 Q hY H1 Hj hQ hN=>?_
 try dsimp only
 refine aj fun _ IO=>dJ cv [6,7] [] [] [0,1,2,3,4] [] U U U U U<|eS U (UQ 3 U cb U)<|eS U (SX (bQ U U) U U)<|eS U (FA 12 U fw U)<|eS U (IL (Value.map (some gs)) 1 U cb U U)<|eS U (UQ 4 U cb U)<|eS U (SX (iT (kV:=iV) (x:=i) (l:=m) (f:=dE) (z:=(aa.mk 0 0)) U U U lv (dT mX) tm (by exact ly 2 U)) U U)<|eT U<|cp U fun T2 Id=>AL U dx fun b3=>aD (Id _ _ (aI [1,2,3,4,5]) ?_)
 refine cp U fun T4 If=>fW U cz U<|aD (If _ _ (aI [1,2,3,4,5]) ?_)
 refine fO U<|KK IO<|aj fun _ IR=>WS fun _ Ci=>?_
 rw [show ((List.lookup i m).getD (aa.mk 0 0))=(aC m i) from rfl]
 refine rP 3 [] (mc 0 U mn) ?_
 refine kO (k:=([]:List Int)) (k':=(([]:List Int)++[((aC m i).Lo)])) 1 (by first|exact hsz|exact Nat.le_refl _) hY H1 Hj U U U (by exact ⟨_,bZ ..,U,U⟩) U U (fun B7 u s=>?_) (fun B7 u s=>?_)
 rotate_left 1
 ·refine rP 1 [] mn ?_
  refine RK Ci<|aN U<|ar ?_
  refine hQ _ _ _ (ic (vs:=[]) trivial fun w hs=>sP 1 U u s hs)
 refine bo 1 U<|RK Ci<|bh U<|WK IR<|WS fun _ AC=>fG 1 [] (mr 4 U mn) U<|rS (SX (bQ U U) U U)<|rP 2 [] (mr 2 U mn) ?_
 refine j1 (kV:=iV) (m:=bS dE m) 3 U U lv U ⟨U,fun h=>h⟩ (by exact ly 3 U) U fun JR=>?_
 try dsimp only
 refine RK AC<|ay ?_
 have j:(zd m i (aC m i) m (([]:List Int)++[((aC m i).Lo)]))∧(∀ p∈m,p∈m)∧(J (([]:List Int)++[((aC m i).Lo)]) B7)∧(Fo A0 w0 B7):=by exact ⟨JN,fun p hp=>hp,asm,asm⟩
 refine bK (ι:={z:g0×(List Int)×aw // (zd m i (aC m i) z.1 z.2.1)∧(∀ p∈z.1,p∈m)∧(J z.2.1 z.2.2)∧(Fo A0 w0 z.2.2)}) [0,1,2,4,24] [1,3,4,5,6] U U (fun z=>[]) (fun z=>[(zh iV JR gs (bS dE m) (bS dE z.1.1) none),z.1.2.2]) (fun _=>rfl) (fun _=>rfl) (fun z=>z.1.1.length) ⟨(m,(([]:List Int)++[((aC m i).Lo)]),B7),j⟩ (dj.nil _) (aI [1,3,4,5,6,0,2]) ?_
 clear j
 rintro ⟨⟨left,ys,A⟩,⟨D,B,E,F⟩⟩ J12 G
 try dsimp only at D B E F
 try dsimp only
 refine WS fun _ o=>jw (dT mX).inj (f:=dE) 5 U U U U (fun q=>?_) (fun x y hm hn=>?_)
 ·refine rP 1 [] mn ?_
  refine RK o<|aj fun _ Jm=>bh U<|bD<|ab<|ab<|aA ?_
  refine hN _ _ _ (ic (vs:=[]) trivial fun w hs=>KI 6 U (by rw [q] at D; exact Nz D) E F hs)
 try dsimp only
 refine bo 1 U<|RK o<|aj fun _ AO=>aN U<|WK AO<|ay<|WS fun _ An=>rS (SX (js 5 U U U) U U)<|bo 2 U<|AL U dx fun Lf=>bo 1 U<|fW U cz U<|RK An<|WS fun _ Av=>rP 1 [] mn ?_
 have In:=hb _ (B _ hm)
 dsimp only at In
 refine fG 5 [] (mc 0 U mn) U<|rS (SX (bu (xs:=[(0,.tmp 32),(1,.tmp 35)]) (cs:=[(vI (y.Lo+1)),(vI (y.Hi+1))]) U U (br Tk U)) U U)<|bo 1 U<|RK Av<|ay<|j2 3<|eJ fun R19 c=>WS fun _ A1=>rS (SX (cf (r:= .bool true) U U U hE) U U)<|RK A1<|aj fun _ A2=>aN U<|WK A2<|aj fun _ X=>ay<|WS fun _ A3=>rS (SX (rM (v:=(vI (y.Lo+1))) 0 U U U G2 cb U dc U) U U)<|bo 1 U<|RK A3<|WS fun _ M=>rP 4 [] (mr 5 U mn) ?_
 refine cj (t:=43) U (a_ fun q=>?_) (aZ fun q=>?_)
 ·refine bo 14 U<|RK M<|bh U<|ck<|aG<|KK X<|al<|rS (SX (cf (r:= .int .i64 1) U U U (iE ⟨dc,dc⟩)) U U)<|bo 1 U<|RK c<|eJ fun R73 g=>WS fun _ C0=>rS (SX (cf (r:= .bool true) U U U hE) U U)<|RK C0<|aj fun _ C1=>aN U<|WK C1<|aj fun _ b=>ay<|WS fun _ C2=>rS (SX (rM (v:=(vI (y.Hi+1))) 1 U U U G2 cb U dc U) U U)<|bo 1 U<|RK C2<|WS fun _ P=>rP 4 [] (mr 5 U mn) ?_
  refine cj (t:=43) U (a_ fun Go=>?_) (aZ fun Go=>?_)
  ·refine bo 14 U<|RK P<|bh U<|ck<|aG<|KK b<|al<|rS (SX (cf (r:= .int .i64 2) U U U (iE ⟨dc,dc⟩)) U U)<|rP 1 [] mn ?_
   refine RK g<|eJ fun R91 LT=>WS fun _ Di=>rS (SX (cf (r:= .bool false) U U U hE) U U)<|RK Di<|aj fun _ KY=>bh U<|bD<|ab<|ab<|aA<|aG<|hU 6 U fT U ?_
   refine aR (G ⟨((cJ left x),ys,A),⟨lK hn hm B D (fun n C=>by first|exact C|(simp [C]; done)) (fun n C=>by exact .inl C) (fun L n C K=>by simp only [bE,List.not_mem_nil,or_false] at C; rcases C with rfl|rfl<;>first|(simp; done)|(exfalso; omega)),gh B,E,F⟩⟩ _ _ _ rfl (fg hm) (aT rfl) (aI [1,2,3,4,5,6,7]))
  refine fG 5 [] (mc 1 U mn) U<|du (xs:=[.tmp 48]) (cs:=[(vI (y.Hi+1))]) U cN jv U U U U (by simp [Value.cells]) U U fun FS=>rS (CL (er.eq (kp ((aC m i).Lo) ((aC m i).Hi) ([(y.Hi+1)]) (some ⟨FS,0,none⟩) 1 I) df) (av (bp 0 U U (by simp [bM]) U)<|aM) U)<|rP 2 [] mn ?_
  refine cj (t:=52) U (aO fun G1=>?_) (aP fun G1=>?_)
  ·refine bo 5 U<|RK P<|bh U<|ck<|aG<|KK b<|al<|rS (SX (cf (r:= .int .i64 2) U U U (iE ⟨dc,dc⟩)) U U)<|rP 1 [] mn ?_
   refine RK g<|eJ fun R88 LE=>WS fun _ DV=>rS (SX (cf (r:= .bool false) U U U hE) U U)<|RK DV<|aj fun _ J9=>bh U<|bD<|ab<|ab<|aA<|aG<|hU 7 U fT U ?_
   refine aR (G ⟨((cJ left x),ys,A),⟨lK hn hm B D (fun n C=>by first|exact C|(simp [C]; done)) (fun n C=>by exact .inl C) (fun L n C K=>by simp only [bE,List.not_mem_nil,or_false] at C; rcases C with rfl|rfl<;>first|(simp; done)|(exfalso; omega)),gh B,E,F⟩⟩ _ _ _ rfl (fg hm) (aT rfl) (aI [2,3,4,5,6,7,8]))
  refine rP 2 [] mn ?_
  refine kO (k:=ys) (k':=(ys++[((y.Hi+1))])) 8 (by first|exact hsz|exact Nat.le_refl _) hY E F U U U (by exact ⟨_,nx (B _ hm) dso (by first|exact .inl rfl|exact .inr U) I,U,U⟩) U U (fun B82 W T=>?_) (fun B82 W T=>?_)
  rotate_left 1
  ·refine rP 2 [] mn ?_
   refine RK P<|aN U<|ar ?_
   refine hQ _ _ _ (ic (vs:=[]) trivial fun w hs=>sP 8 U W T hs)
  refine bo 2 U<|RK P<|bh U<|ck<|aG<|KK b<|al<|rS (SX (cf (r:= .int .i64 2) U U U (iE ⟨dc,dc⟩)) U U)<|rP 1 [] mn ?_
  refine RK g<|eJ fun R85 LA=>WS fun _ C3=>rS (SX (cf (r:= .bool false) U U U hE) U U)<|RK C3<|aj fun _ J8=>bh U<|bD<|ab<|ab<|aA<|aG<|hU 7 U fT U ?_
  refine aR (G ⟨((cJ left x),(ys++[((y.Hi+1))]),B82),⟨lK hn hm B D (fun n C=>by first|exact C|(simp [C]; done)) (fun n C=>by (simp only [dQ,bP] at C; rcases C with C|rfl<;>first|exact .inl C|exact .inr (nx (B _ hm) dso sm I))) (fun L n C K=>by simp only [bE,List.not_mem_nil,or_false] at C; rcases C with rfl|rfl<;>first|(simp; done)|(exfalso; omega)),gh B,W,T⟩⟩ _ _ _ rfl (fg hm) (aT rfl) (aI [2,3,4,5,6,7,8]))
 refine rP 5 [] (mc 1 U mn) ?_
 refine du (xs:=[.tmp 48]) (cs:=[(vI (y.Lo+1))]) U cN jv U U U U (by simp [Value.cells]) U U fun Do=>?_
 refine rS (CL (er.eq (kp ((aC m i).Lo) ((aC m i).Hi) ([(y.Lo+1)]) (some ⟨Do,0,none⟩) 1 (by (simp; done))) df) (av (bp 0 U U (by simp [bM]) U)<|aM) U) ?_
 refine rP 2 [] mn ?_
 refine cj (t:=52) U (aO fun Fd=>?_) (aP fun Fd=>?_)
 ·refine bo 5 U<|RK M<|bh U<|ck<|aG<|KK X<|al<|rS (SX (cf (r:= .int .i64 1) U U U (iE ⟨dc,dc⟩)) U U)<|bo 1 U<|RK c<|eJ fun R52 e=>WS fun _ BX=>rS (SX (cf (r:= .bool true) U U U hE) U U)<|RK BX<|aj fun _ B3=>aN U<|WK B3<|aj fun _ a=>ay<|WS fun _ B9=>rS (SX (rM (v:=(vI (y.Hi+1))) 1 U U U G2 cb U dc U) U U)<|bo 1 U<|RK B9<|WS fun _ O=>rP 4 [] (mr 6 U mn) ?_
  refine cj (t:=43) U (a_ fun GT=>?_) (aZ fun GT=>?_)
  ·refine bo 14 U<|RK O<|bh U<|ck<|aG<|KK a<|al<|rS (SX (cf (r:= .int .i64 2) U U U (iE ⟨dc,dc⟩)) U U)<|rP 1 [] mn ?_
   refine RK e<|eJ fun R70 K8=>WS fun _ Cx=>rS (SX (cf (r:= .bool false) U U U hE) U U)<|RK Cx<|aj fun _ J7=>bh U<|bD<|ab<|ab<|aA<|aG<|hU 7 U fT U ?_
   refine aR (G ⟨((cJ left x),ys,A),⟨lK hn hm B D (fun n C=>by first|exact C|(simp [C]; done)) (fun n C=>by exact .inl C) (fun L n C K=>by simp only [bE,List.not_mem_nil,or_false] at C; rcases C with rfl|rfl<;>first|(simp; done)|(exfalso; omega)),gh B,E,F⟩⟩ _ _ _ rfl (fg hm) (aT rfl) (aI [2,3,4,5,6,7,8]))
  refine rP 5 [] (mc 2 U mn) ?_
  refine du (xs:=[.tmp 48]) (cs:=[(vI (y.Hi+1))]) U cN jv U U U U (by simp [Value.cells]) U U fun Eq=>?_
  refine rS (CL (er.eq (kp ((aC m i).Lo) ((aC m i).Hi) ([(y.Hi+1)]) (some ⟨Eq,0,none⟩) 1 (by (simp; done))) df) (av (bp 0 U U (by simp [bM]) U)<|aM) U) ?_
  refine rP 2 [] mn ?_
  refine cj (t:=52) U (aO fun Ge=>?_) (aP fun Ge=>?_)
  ·refine bo 5 U<|RK O<|bh U<|ck<|aG<|KK a<|al<|rS (SX (cf (r:= .int .i64 2) U U U (iE ⟨dc,dc⟩)) U U)<|rP 1 [] mn ?_
   refine RK e<|eJ fun R67 K5=>WS fun _ Cp=>rS (SX (cf (r:= .bool false) U U U hE) U U)<|RK Cp<|aj fun _ J6=>bh U<|bD<|ab<|ab<|aA<|aG<|hU 8 U fT U ?_
   refine aR (G ⟨((cJ left x),ys,A),⟨lK hn hm B D (fun n C=>by first|exact C|(simp [C]; done)) (fun n C=>by exact .inl C) (fun L n C K=>by simp only [bE,List.not_mem_nil,or_false] at C; rcases C with rfl|rfl<;>first|(simp; done)|(exfalso; omega)),gh B,E,F⟩⟩ _ _ _ rfl (fg hm) (aT rfl) (aI [3,4,5,6,7,8,9]))
  refine rP 2 [] mn ?_
  refine kO (k:=ys) (k':=(ys++[((y.Hi+1))])) 9 (by first|exact hsz|exact Nat.le_refl _) hY E F U U U (by exact ⟨_,nx (B _ hm) dso (by first|exact .inl rfl|exact .inr U) I,U,U⟩) U U (fun B61 V S=>?_) (fun B61 V S=>?_)
  rotate_left 1
  ·refine rP 2 [] mn ?_
   refine RK O<|aN U<|ar ?_
   refine hQ _ _ _ (ic (vs:=[]) trivial fun w hs=>sP 9 U V S hs)
  refine bo 2 U<|RK O<|bh U<|ck<|aG<|KK a<|al<|rS (SX (cf (r:= .int .i64 2) U U U (iE ⟨dc,dc⟩)) U U)<|rP 1 [] mn ?_
  refine RK e<|eJ fun R64 K4=>WS fun _ Ck=>rS (SX (cf (r:= .bool false) U U U hE) U U)<|RK Ck<|aj fun _ J5=>bh U<|bD<|ab<|ab<|aA<|aG<|hU 8 U fT U ?_
  refine aR (G ⟨((cJ left x),(ys++[((y.Hi+1))]),B61),⟨lK hn hm B D (fun n C=>by first|exact C|(simp [C]; done)) (fun n C=>by (simp only [dQ,bP] at C; rcases C with C|rfl<;>first|exact .inl C|exact .inr (nx (B _ hm) dso sm I))) (fun L n C K=>by simp only [bE,List.not_mem_nil,or_false] at C; rcases C with rfl|rfl<;>first|(simp; done)|(exfalso; omega)),gh B,V,S⟩⟩ _ _ _ rfl (fg hm) (aT rfl) (aI [3,4,5,6,7,8,9]))
 refine rP 2 [] mn ?_
 refine kO (k:=ys) (k':=(ys++[((y.Lo+1))])) 8 (by first|exact hsz|exact Nat.le_refl _) hY E F U U U (by exact ⟨_,nx (B _ hm) dso (by first|exact .inl rfl|exact .inr U) I,U,U⟩) U U (fun B28 AB H=>?_) (fun B28 AB H=>?_)
 rotate_left 1
 ·refine rP 2 [] mn ?_
  refine RK M<|aN U<|ar ?_
  refine hQ _ _ _ (ic (vs:=[]) trivial fun w hs=>sP 8 U AB H hs)
 refine bo 2 U<|RK M<|bh U<|ck<|aG<|KK X<|al<|rS (SX (cf (r:= .int .i64 1) U U U (iE ⟨dc,dc⟩)) U U)<|bo 1 U<|RK c<|eJ fun R31 d=>WS fun _ A4=>rS (SX (cf (r:= .bool true) U U U hE) U U)<|RK A4<|aj fun _ A5=>aN U<|WK A5<|aj fun _ Y=>ay<|WS fun _ A6=>rS (SX (rM (v:=(vI (y.Hi+1))) 1 U U U G2 cb U dc U) U U)<|bo 1 U<|RK A6<|WS fun _ N=>rP 4 [] (mr 6 U mn) ?_
 refine cj (t:=43) U (a_ fun Fn=>?_) (aZ fun Fn=>?_)
 ·refine bo 14 U<|RK N<|bh U<|ck<|aG<|KK Y<|al<|rS (SX (cf (r:= .int .i64 2) U U U (iE ⟨dc,dc⟩)) U U)<|rP 1 [] mn ?_
  refine RK d<|eJ fun R49 K0=>WS fun _ A9=>rS (SX (cf (r:= .bool false) U U U hE) U U)<|RK A9<|aj fun _ J4=>bh U<|bD<|ab<|ab<|aA<|aG<|hU 7 U fT U ?_
  refine aR (G ⟨((cJ left x),(ys++[((y.Lo+1))]),B28),⟨lK hn hm B D (fun n C=>by first|exact C|(simp [C]; done)) (fun n C=>by (simp only [dQ,bP] at C; rcases C with C|rfl<;>first|exact .inl C|exact .inr (nx (B _ hm) dso sm I))) (fun L n C K=>by simp only [bE,List.not_mem_nil,or_false] at C; rcases C with rfl|rfl<;>first|(simp; done)|(exfalso; omega)),gh B,AB,H⟩⟩ _ _ _ rfl (fg hm) (aT rfl) (aI [2,3,4,5,6,7,8]))
 refine rP 5 [] (mc 2 U mn) ?_
 refine du (xs:=[.tmp 48]) (cs:=[(vI (y.Hi+1))]) U cN jv U U U U (by simp [Value.cells]) U U fun EQ=>?_
 refine rS (CL (er.eq (kp ((aC m i).Lo) ((aC m i).Hi) ([(y.Hi+1)]) (some ⟨EQ,0,none⟩) 1 (by (simp; done))) df) (av (bp 0 U U (by simp [bM]) U)<|aM) U) ?_
 refine rP 2 [] mn ?_
 refine cj (t:=52) U (aO fun GE=>?_) (aP fun GE=>?_)
 ·refine bo 5 U<|RK N<|bh U<|ck<|aG<|KK Y<|al<|rS (SX (cf (r:= .int .i64 2) U U U (iE ⟨dc,dc⟩)) U U)<|rP 1 [] mn ?_
  refine RK d<|eJ fun R46 Kx=>WS fun _ A8=>rS (SX (cf (r:= .bool false) U U U hE) U U)<|RK A8<|aj fun _ J3=>bh U<|bD<|ab<|ab<|aA<|aG<|hU 8 U fT U ?_
  refine aR (G ⟨((cJ left x),(ys++[((y.Lo+1))]),B28),⟨lK hn hm B D (fun n C=>by first|exact C|(simp [C]; done)) (fun n C=>by (simp only [dQ,bP] at C; rcases C with C|rfl<;>first|exact .inl C|exact .inr (nx (B _ hm) dso sm I))) (fun L n C K=>by simp only [bE,List.not_mem_nil,or_false] at C; rcases C with rfl|rfl<;>first|(simp; done)|(exfalso; omega)),gh B,AB,H⟩⟩ _ _ _ rfl (fg hm) (aT rfl) (aI [3,4,5,6,7,8,9]))
 refine rP 2 [] mn ?_
 refine kO (k:=(ys++[((y.Lo+1))])) (k':=((ys++[((y.Lo+1))])++[((y.Hi+1))])) 9 (by first|exact hsz|exact Nat.le_refl _) hY AB H U U U (by exact ⟨_,nx (B _ hm) dso (by first|exact .inl rfl|exact .inr U) I,U,U⟩) U U (fun B40 AA R=>?_) (fun B40 AA R=>?_)
 rotate_left 1
 ·refine rP 2 [] mn ?_
  refine RK N<|aN U<|ar ?_
  refine hQ _ _ _ (ic (vs:=[]) trivial fun w hs=>sP 9 U AA R hs)
 refine bo 2 U<|RK N<|bh U<|ck<|aG<|KK Y<|al<|rS (SX (cf (r:= .int .i64 2) U U U (iE ⟨dc,dc⟩)) U U)<|rP 1 [] mn ?_
 refine RK d<|eJ fun R43 Kp=>WS fun _ A7=>rS (SX (cf (r:= .bool false) U U U hE) U U)<|RK A7<|aj fun _ J2=>bh U<|bD<|ab<|ab<|aA<|aG<|hU 8 U fT U ?_
 refine aR (G ⟨((cJ left x),((ys++[((y.Lo+1))])++[((y.Hi+1))]),B40),⟨lK hn hm B D (fun n C=>by first|exact C|(simp [C]; done)) (fun n C=>by (simp only [dQ,bP] at C; rcases C with (C|rfl)|rfl<;>first|exact .inl C|exact .inr (nx (B _ hm) dso sm I))) (fun L n C K=>by simp only [bE,List.not_mem_nil,or_false] at C; rcases C with rfl|rfl<;>first|(simp; done)|(exfalso; omega)),gh B,AA,R⟩⟩ _ _ _ rfl (fg hm) (aT rfl) (aI [3,4,5,6,7,8,9]))
theorem I9 (gw:Nat) (i:Int):
 lx Tryz.prog 70 [(vP gw),(vI i)] [] (fun (x:Nat×Nat)=>(Value.func (.func 96) [].toArray [(Value.pointer (some ⟨x.1,0,none⟩)),(Value.pointer (some ⟨x.2,0,none⟩))].toArray)) (fun (x:Nat×Nat)=>True) (fun (x:Nat×Nat)=>[(cm x.1 81 [(vP gw)]),(cm x.2 3 [(vI i)])]):=by
 refine dp kr Tryz.func70 U U fun E Q hQ hN=>?_
 try dsimp only
 refine WS fun _ A=>uP U U fun C=>uP U U fun D=>bo 1 U<|RK A<|WS fun _ B=>rS (FU U)<|rP 1 [] mn ?_
 refine RK B<|ar<|LX hQ (C,D) [1,0] [] mn U U U U ?_
 trivial
end
section
open Go.RowKit
theorem Ax (r:bY) (kA:OA) (kC:Nat) (cA:OA) (cC:Nat) (bA:OA) (bC:Nat) (slA:OA) (slC:Nat) (drA:OA) (drC:Nat) (heA:OA) (heC:Nat) (tA:OA) (tN tC:Nat) (gs gw:Nat) (m:g0) (i:Int) (hb: ∀ p∈m,0≤p.2.Lo∧p.2.Lo≤p.2.Hi∧p.2.Hi≤30000000) (hi:m.lookup i≠none) (hm12:m.length≤12):
 lx Tryz.prog 44 [(vP gw),(vI i)] [(cm gw 91 (gd.cells (gd.mk (ou r kA kC cA cC bA bC slA slC drA drC heA heC) (bq.mk tA tN tC) (Value.map (some gs))))),(im iV gs (bS dE m))] (fun (x:(OA)×Nat)=>(vS x.1 ((cY m i (aC m i)).length) x.2)) (fun (x:(OA)×Nat)=>True) (fun (x:(OA)×Nat)=>[(own x.1 x.2 3 1 ((cY m i (aC m i)).map iC))]):=by
 refine dp kr Tryz.func44 U U fun w0 Q hQ hN=>?_
 try dsimp only
 refine WS fun _ Hj=>uP U U fun b2=>uP U U fun b3=>rP 1 [] mn ?_
 refine RK Hj<|WS fun _ H1=>nR (kV:=iV) U U fun AA=>?_
 try dsimp only
 refine AL U VY fun b6=>HA U VI U U<|RK H1<|aj fun _ IO=>WS fun _ IR=>fG 1 [] (mc 3 U mn) U<|rS (SX (bQ U U) U U)<|fG 2 [] (mr 4 U mn) U<|rS (SX (s_ U U lv (by exact ly 5 U)) U U)<|rP 1 [] mn ?_
 refine RK IR<|ay ?_
 have A:(0≤m.length)∧(jm ([]:rm) (fun u=>1≤u∧u≤(0:Int))):=by exact ⟨Nat.zero_le _,MQ fun k=>by omega⟩
 refine bK (ι:={z:Nat×rm // (z.1≤m.length)∧(jm z.2 (fun u=>1≤u∧u≤(z.1:Int)))}) [2,3,5,20] [0,2,3,4,5] U U (fun z=>[(21,(vI (z.1.1:Int)))]) (fun z=>[(im iV AA (bS vB z.1.2))]) (fun _=>rfl) (fun _=>rfl) (fun z=>m.length-z.1.1) ⟨(0,([]:rm)),A⟩ (aT U) (aI [0,2,3,4,5,1]) ?_
 clear A
 rintro ⟨⟨n,nv⟩,⟨j,K⟩⟩ J9 G1
 try dsimp only at j K
 try dsimp only
 refine WS fun _ Av=>rP 1 [] mn ?_
 refine RK Av<|aj fun _ A0=>cE U (aP fun GT=>?_) (aO fun GT=>?_)
 ·refine WK A0<|aj fun _ A1=>ay<|WS fun _ A2=>bo 2 U<|RK A2<|al<|fG 3 [] (mc 0 U mn) U<|jl (kV:=iV) (x:=((n:Int)+1)) (C':=[_,_,_,_,_,(im iV AA (bS vB (eP nv ((n:Int)+1) true)))]) 5 U U U U B6 (dT mX) U (gX _ _ _ _).symm U<|aD<|aG<|KK A1<|al<|rP 2 [] mn ?_
  refine aD ?_
  have Eq:(vI (((n+1):Nat):Int))=(vI ((n:Int)+1)):=by exact cI I
  refine aR (G1 ⟨((n+1),(eP nv ((n:Int)+1) true)),⟨I,(JQ K I).yZ fun k=>by omega⟩⟩ _ _ _ U os (cR 4<|aY U Eq<|dj.nil _) (aI [0,1,2,3,4,5]))
 refine bD<|ab<|ab<|aA<|KK IO<|WS fun _ A3=>rP 1 [] (mc 0 U mn) ?_
 refine cX (Ka nv AA) (bk [5]) U fun G K0=>?_
 try dsimp only
 refine bo 1 U<|RK A3<|aj fun _ A4=>WS fun _ A5=>rP 2 [0,1] (mc 3 U (mc 2 U mn)) ?_
 refine cX (I9 gw i) (aM) U fun J4 K4=>?_
 obtain ⟨Z,c⟩:=J4
 try dsimp only
 refine RK A5<|ay<|kN 6 U (by exact fun _ h=>h)<|kN 8 U (by exact fun _ h=>h) ?_
 refine oc (L0:=[(2,(vP b2)),(3,(vP b3)),(5,(vP b6)),(7,(Value.map (some G)))]) (F:=[(cm gw 91 (gd.cells (gd.mk (ou r kA kC cA cC bA bC slA slC drA drC heA heC) (bq.mk tA tN tC) (Value.map (some gs))))).ro,(im iV gs (bS dE m)).ro,(cm Z 81 [(vP gw)]),(cm c 3 [(vI i)])]) (fun k (y:rm)=>(jm y (vf m i k))) (fun k y=>[(im iV G (bS vB nv)),(cm b6 67 [(Value.map (some AA))]),(cm b3 3 [(vI i)]),(cm b2 81 [(vP gw)]),(cm gw 91 (gd.cells (gd.mk (ou r kA kC cA cC bA bC slA slC drA drC heA heC) (bq.mk tA tN tC) (Value.map (some gs))))).ro,(im iV gs (bS dE m)).ro,(im iV AA (bS vB y))]) (fun _ (_:Unit)=>False) (fun _ _=>[]) [4,5,6,7,8,9,10] [1,0,2,3] nv rfl rfl (H9 r kA kC cA cC bA bC slA slC drA drC heA heC tA tN tC gs gw m i Z c (by exact hb)) rfl rfl rfl (by exact LV (K.yZ fun k=>by omega)) (by simp only [List.forall_mem_cons,List.not_mem_nil,false_imp_iff,implies_true,and_true]; exact ⟨⟨_,sm,(dV (bU _))⟩,⟨_,sm,(dV (bU _))⟩,⟨_,sm,(bU _)⟩,⟨_,sm,(bU _)⟩⟩) (by rintro k x k2 ⟨n,_,rfl,_⟩; rfl) rfl (aT rfl) ?_ ?_ (fun _ _ _ h=>h.elim) (fun _ _ h=>h.elim)
 rotate_left 1
 ·rintro L3 k nw FS g
  have T:=g
  try dsimp only
  refine aG<|KK A4<|aj fun _ C3=>WS fun _ DV=>rP 1 [] (mc 6 U mn) ?_
  refine vh 11 U U B6 U U fun J2=>?_
  try dsimp only
  refine RK DV<|ay ?_
  have A:(∀ p∈nw,p∈nw)∧(jm nv (fun u=>(1≤u∧u≤(m.length:Int))∧ ¬ (vf m i k u∧u ∉ nw.map (·.1)))):=by exact ⟨fun p hp=>hp,K.yZ fun u=>⟨fun q=>⟨I,fun z=>z.2 ((T.2 u).2 z.1)⟩,fun q=>by omega⟩⟩
  refine bK (ι:={z:rm×rm // (∀ p∈z.1,p∈nw)∧(jm z.2 (fun u=>(1≤u∧u≤(m.length:Int))∧ ¬ (vf m i k u∧u ∉ z.1.map (·.1))))}) [7,68] [0,1,2,9,10] U U (fun z=>[]) (fun z=>[(im iV G (bS vB z.1.2)),(zO iV J2 AA (bS vB nw) (bS vB z.1.1) none)]) (fun _=>rfl) (fun _=>rfl) (fun z=>z.1.1.length) ⟨(nw,nv),A⟩ (dj.nil _) (aI [0,1,2,9,10,5,11]) ?_
  clear A
  rintro ⟨⟨left,rk⟩,⟨AB,J⟩⟩ J55 An
  try dsimp only at AB J
  try dsimp only
  refine WS fun _ X=>tg (dT mX).inj (f:=Value.bool) 6 U U U U (fun Go=>?_) (fun u v Fd LE=>?_)
  rotate_left 1
  ·try dsimp only
   refine bo 1 U<|RK X<|aj fun _ Do=>aN U<|WK Do<|ay<|WS fun _ EQ=>rS (SX (sW 6 U U U) U U)<|bo 2 U<|RK EQ<|al<|rP 2 [] mn ?_
   refine qj (kV:=iV) (x:=u) (C':=[_,_,_,_,_,(im iV G (bS vB (cJ rk u))),_]) 5 U U U U B6 (dT mX) U (l6 _ _ _).symm U<|aD<|aG<|hU 6 U yL U ?_
   refine aR (An ⟨((cJ left u),(cJ rk u)),⟨gh AB,Ol AB T Fd J⟩⟩ _ _ _ U (fg Fd) (aT U) (aI [0,1,2,3,4,5,6]))
  refine rP 1 [] mn ?_
  refine RK X<|aj fun _ Kx=>bh U<|bD<|ab<|ab<|aA<|KK C3<|WS fun _ Di=>?_
  have Fn:jm rk (fun u=>(1≤u∧u≤(m.length:Int))∧ ¬ vf m i k u):=J.yZ fun u=>⟨fun q=>⟨q.1,fun z=>q.2 ⟨z,by rw [Go]; simp⟩⟩,fun q=>⟨q.1,fun z=>q.2 z.1⟩⟩
  have Y:dA (rk.map (·.1))=(cY m i (aC m i)):=Ey hi FS Fn
  have La:rk.length≤m.length:=IT Fn fun k q=>q.1
  have Id:rk.length=(cY m i (aC m i)).length:=by rw [← Y]; simp
  refine rP 1 [] mn ?_
  refine cX (ON G) (aM) U fun GE K5=>?_
  try dsimp only
  refine cX (Ht rk G GE I) (bk [6,0]) U fun J5 K8=>?_
  obtain ⟨o,AC⟩:=J5
  try dsimp only
  rw [Y]
  refine rP 1 [] mn ?_
  refine RK Di<|ar<|hQ _ _ _ (oW 2 U U<|ic (vs:=[(vS o rk.length AC)]) ⟨U,trivial⟩ fun w hs=>Ki (o,AC) [0] ?_ ?_ U U U hs)
  ·(rw [← Id]; rfl)
  ·trivial
 rintro k x k2 nw l ra rb S w1 K26 Qr27 Lk hx e A6 d J3 J6
 obtain ⟨n,LT,rfl,rfl⟩:=hx
 have T:=e
 try dsimp only
 refine al<|rP 1 [] mn ?_
 refine aD<|aR (A6 _ _ ?_)
 refine ay<|WS fun _ A7=>bo 2 U<|RK A7<|aj fun _ A8=>WS fun _ A9=>fG 1 [] (mc 4 U mn) U<|rS (SX (bQ U U) U U)<|rP 2 [] (mr 5 U mn) ?_
 refine j1 (kV:=iV) (m:=bS dE m) 6 U U lv U ⟨U,fun h=>h⟩ (by exact ly 6 U) U fun Jm=>?_
 try dsimp only
 refine RK A9<|ay ?_
 have A:((1:Int)+(iK m i n:Int)=1+(iK m i n:Int))∧((1:Int)+(j5 m i n:Int)=1+(j5 m i n:Int))∧(∀ p∈m,p∈m)∧(1≤(1:Int)∧1≤(1:Int)):=by exact ⟨rfl,rfl,fun p hp=>hp,I⟩
 refine bK (ι:={z:g0×Int×Int // (z.2.1+(iK z.1 i n:Int)=1+(iK m i n:Int))∧(z.2.2+(j5 z.1 i n:Int)=1+(j5 m i n:Int))∧(∀ p∈z.1,p∈m)∧(1≤z.2.1∧1≤z.2.2)}) [2,3,5,7,8,38] [1,2,3,4,5,6,7,8] U U (fun z=>[(9,(vI z.1.2.1)),(10,(vI z.1.2.2))]) (fun z=>[(zh iV Jm gs (bS dE m) (bS dE z.1.1) none)]) (fun _=>rfl) (fun _=>rfl) (fun z=>z.1.1.length) ⟨(m,(1:Int),(1:Int)),A⟩ (aT U) (aI [1,2,3,4,5,6,7,8,0]) ?_
 clear A
 rintro ⟨⟨left,s,t⟩,⟨C,D,B,R⟩⟩ J33 L
 try dsimp only at C D B R
 try dsimp only
 have If:=GY (m:=m) (i:=i) (n:=n)
 have In:=LK (m:=m) (i:=i) (n:=n)
 refine WS fun _ V=>jw (dT mX).inj (f:=dE) 8 U U U U (fun P=>?_) (fun x y hm hn=>?_)
 ·refine bo 1 U<|RK V<|aj fun _ Kp=>bh U<|bD<|ab<|ab<|aA<|KK A8<|WS fun _ BX=>rP 2 [] mn ?_
  refine RK BX<|ay ?_
  have A:(s≤s∧(s≤t+1∨s=s))∧(jm nw (fun u=>vf m i k u∧ ¬ (s≤u∧u<s))):=by exact ⟨⟨Int.le_refl _,.inr rfl⟩,T.yZ fun u=>⟨fun q=>⟨q,fun z=>by omega⟩,fun q=>q.1⟩⟩
  refine bK (ι:={z:Int×rm // (s≤z.1∧(z.1≤t+1∨z.1=s))∧(jm z.2 (fun u=>vf m i k u∧ ¬ (s≤u∧u<z.1)))}) [2,3,5,7,8,9,10] [0,1,2,3,4,5,6,8] U U (fun z=>[(13,(vI z.1.1))]) (fun z=>[(im iV AA (bS vB z.1.2))]) (fun _=>rfl) (fun _=>rfl) (fun z=>(t+1-z.1.1).toNat) ⟨(s,nw),A⟩ (aT U) (aI [0,1,2,3,4,5,6,8,7]) ?_
  clear A
  rintro ⟨⟨q,n2⟩,⟨N,H⟩⟩ J37 AO
  try dsimp only at N H
  try dsimp only
  have If:=GY (m:=m) (i:=i) (n:=n)
  have In:=LK (m:=m) (i:=i) (n:=n)
  have Lf:s=1+(iK m i n:Int):=by rw [P] at C; simp only [z3] at C; omega
  have Li:t=1+(j5 m i n:Int):=by rw [P] at D; simp only [BK] at D; omega
  refine aj fun _ B3=>WS fun _ B7=>rP 3 [] mn ?_
  refine RK B7<|bO U (aO fun Ge=>?_) (aP fun Ge=>?_)
  ·refine bD<|ab<|ab<|aA<|aG ?_
   exact d n2 _ _ (by exact IP (a:=s) (b:=t) (by rw [P,z3] at C; omega) (by rw [P,BK] at D; omega) (H.yZ fun u=>⟨fun z=>⟨z.1,fun w=>z.2 I⟩,fun z=>⟨z.1,fun w=>z.2 I⟩⟩)) (aI [0,1,2,3,4,5,6,8])
  refine WK B3<|aj fun _ B9=>ay<|al<|fG 2 [] (mc 2 U mn) U<|qj (kV:=iV) (x:=q) (C':=[_,_,_,_,_,_,_,_,(im iV AA (bS vB (cJ n2 q)))]) 8 U U U U B6 (dT mX) U (l6 _ _ _).symm U<|aD<|aG<|KK B9<|al<|rP 3 [] mn ?_
  refine aD ?_
  refine aR (AO ⟨((q+1),(cJ n2 q)),⟨I,D_ N.1 H⟩⟩ _ _ _ U dso (aT U) (aI [0,1,2,3,4,5,6,7,8]))
 try dsimp only
 refine bo 1 U<|RK V<|aj fun _ Ci=>aN U<|WK Ci<|ay<|WS fun _ Ck=>rS (SX (js 8 U U U) U U)<|bo 2 U<|AL U dx fun LA=>bo 1 U<|fW U cz U<|RK Ck<|aj fun _ Cp=>WS fun _ Cx=>rP 3 [] (mc 4 U mn) ?_
 refine RK Cx<|cE U (aP fun E=>?_) (aO fun E=>?_)
 ·refine bD<|ab<|aA<|hU 9 U fT U ?_
  refine aR (L ⟨((cJ left x),s,t),(by refine ⟨?_,?_,gh B,?_⟩<;>dsimp only <;>first|omega|(rw [← Ia hn hm E]; omega)|(rw [← Mx hn hm E]; omega))⟩ _ _ _ U (fg hm) (aT U) (aI [1,2,3,4,5,6,7,8,9]))
 refine WK Cp<|aj fun _ W=>WS fun _ C0=>rP 4 [] (mc 0 U mn) ?_
 refine RK C0<|bO U (aO fun O=>?_) (aP fun O=>?_)
 ·refine WK W<|WS fun _ C2=>rP 4 [] (mc 0 U mn) ?_
  refine RK C2<|bO U (aO fun M=>?_) (aP fun M=>?_)
  ·refine ck<|aG<|hU 9 U fT U ?_
   refine aR (L ⟨((cJ left x),s,t),(by refine ⟨?_,?_,gh B,?_⟩<;>dsimp only <;>first|omega|(have:=Cf hn hm E O; omega)|(have:=Gi hn hm E M; omega))⟩ _ _ _ U (fg hm) (aT U) (aI [1,2,3,4,5,6,7,8,9]))
  refine al<|rP 3 [] mn ?_
  refine aD<|aG<|hU 9 U fT U ?_
  refine aR (L ⟨((cJ left x),s,(t+1)),(by refine ⟨?_,?_,gh B,?_⟩<;>dsimp only <;>first|omega|(have:=Cf hn hm E O; omega)|(have:=Db hn hm E M; omega))⟩ _ _ _ U (fg hm) (aT U) (aI [1,2,3,4,5,6,7,8,9]))
 refine al<|bo 3 U<|RK W<|WS fun _ C1=>rP 4 [] (mc 0 U mn) ?_
 refine RK C1<|bO U (aO fun M=>?_) (aP fun M=>?_)
 ·refine ck<|aG<|hU 9 U fT U ?_
  refine aR (L ⟨((cJ left x),(s+1),t),(by refine ⟨?_,?_,gh B,?_⟩<;>dsimp only <;>first|omega|(have:=zn hn hm E O; omega)|(have:=Gi hn hm E M; omega))⟩ _ _ _ U (fg hm) (aT U) (aI [1,2,3,4,5,6,7,8,9]))
 refine al<|rP 3 [] mn ?_
 refine aD<|aG<|hU 9 U fT U ?_
 refine aR (L ⟨((cJ left x),(s+1),(t+1)),(by refine ⟨?_,?_,gh B,?_⟩<;>dsimp only <;>first|omega|(have:=zn hn hm E O; omega)|(have:=Db hn hm E M; omega))⟩ _ _ _ U (fg hm) (aT U) (aI [1,2,3,4,5,6,7,8,9]))
end
section
open Go.RowKit
theorem AM (i:Int) (r:bY) (kA:OA) (kC:Nat) (az:List RA) (cA:OA) (cC:Nat) (bA:OA) (bC:Nat) (slA:OA) (slC:Nat) (drA:OA) (drC:Nat) (ha:List cG) (heA:OA) (heC:Nat) (hin:ej r az ha):
 lx Tryz.prog 28 [(vA (cr.cells (ou r kA kC cA cC bA bC slA slC drA drC heA heC))),(vI i)] [(rd ff 3 2 eu),(rd kA r.an.aL.length 9 (r.an.aL.map ak.cells)),(rd cA r.an.ah.length 2 (List.zipWith aq.cells r.an.ah az)),(eX (aU aq.gE r.an.ah az)),(rd bA r.an.ae.length 4 (r.an.ae.map bG.cells)),(rd slA r.aK.length 1 (r.aK.map iC)),(rd drA r.bL.length 1 (r.bL.map iC)),(rd heA r.ao.length 1 (List.zipWith ct r.ao ha)),(eX (aU hO r.ao ha))] (fun (x:(OA)×Nat)=>(vT [(vS x.1 ((gM r i).length) x.2),(vI (j7 r i))])) (fun (x:(OA)×Nat)=>True) (fun (x:(OA)×Nat)=>[(own x.1 x.2 3 1 ((gM r i).map iC))]):=by
 have V:=hin.line
 have k:=hin.iv
 have l:=hin.has
 have c:=hin.iA
 have Z:=hin.draw
 have d:=dB (r:=r)
 refine dp kr Tryz.func28 U U fun o Q hQ hN=>?_
 try dsimp only
 refine WS fun _ AA=>fK U fun n=>bo 2 U<|RK AA<|WS fun _ G=>rP 2 [] (mc 0 U mn) ?_
 refine du (xs:=[.tmp 11]) (cs:=[(vI i)]) U cN jv U U U U (by simp [Value.cells]) U U fun h=>cX (zN r kA kC az cA cC bA bC slA slC drA drC ha heA heC i h hin) (bk [2,3,4,5,6,7,8,9,10,0]) U fun m L=>?_
 obtain ⟨M,j,T,S,N,O,AZ,f,g⟩:=m
 cases M
 ·obtain ⟨H,he⟩:=L.2 rfl
  try dsimp only at H he
  subst H
  try dsimp only [cond_true,cond_false,List.cons_append,List.nil_append]
  refine bo 7 U<|RK G<|aj fun _ Y=>WS fun _ B=>rP 2 [] mn ?_
  refine RK B<|bO U (a_ fun A=>?_) (aZ fun A=>?_)
  ·exact absurd A he
  refine WS fun _ C=>eg 3 1 ?_
  rw [show (own none 0 3 1 ([]:List (List Value)))=own none 0 3 1 ((gM r i).map iC) from by rw [Aj he]; rfl]
  refine bo 1 U<|rP 2 [] mn ?_
  refine RK C<|ar ?_
  refine LX hQ (none,0) [0] [] mn U U U ?_ ?_
  ·(rw [Aj he]; rfl)
  ·trivial
 obtain ⟨he,W⟩:=L.1 rfl
 try dsimp only [cond_true,cond_false,List.cons_append,List.nil_append]
 try dsimp only at W
 obtain ⟨J,a,AB⟩:=uW he
 have K:=nZ J
 have b:=pB J
 refine bo 7 U<|RK G<|aj fun _ D=>WS fun _ E=>bo 1 U<|rS (SX (cf (r:= .bool false) U U U m_) U U)<|RK E<|bh U<|WK D<|WS fun _ F=>rP 2 [] mn ?_
 refine cX (Ax r kA kC cA cC bA bC slA slC drA drC heA heC N ((cU r).length) O S T (ax r) i (by exact K) (by exact AB) I) (bk [0,3]) U fun X e=>?_
 obtain ⟨P,R⟩:=X
 try dsimp only
 rw [show (cY (ax r) i (aC (ax r) i))=gM r i from (zw he).symm]
 refine rP 2 [] mn ?_
 refine RK F<|ar ?_
 refine LX hQ (P,R) [0] [] mn U U U ?_ ?_
 ·(rw [he]; rfl)
 ·trivial
theorem Jg (a b:Int) (r:bY) (kA:OA) (kC:Nat) (az:List RA) (cA:OA) (cC:Nat) (bA:OA) (bC:Nat) (slA:OA) (slC:Nat) (drA:OA) (drC:Nat) (ha:List cG) (heA:OA) (heC:Nat) (hin:ej r az ha):
 er Tryz.prog 15 [(vA (cr.cells (ou r kA kC cA cC bA bC slA slC drA drC heA heC))),(vI a),(vI b)] [(rd ff 3 2 eu),(rd kA r.an.aL.length 9 (r.an.aL.map ak.cells)),(rd cA r.an.ah.length 2 (List.zipWith aq.cells r.an.ah az)),(eX (aU aq.gE r.an.ah az)),(rd bA r.an.ae.length 4 (r.an.ae.map bG.cells)),(rd slA r.aK.length 1 (r.aK.map iC)),(rd drA r.bL.length 1 (r.bL.map iC)),(rd heA r.ao.length 1 (List.zipWith ct r.ao ha)),(eX (aU hO r.ao ha))] (vT [(Value.int .u8 (wD r a b)),(vI (nY r a b))]):=by
 have M:=hin.line
 have k:=hin.iv
 have l:=hin.has
 have V:=hin.iA
 have R:=hin.draw
 have W:=dB (r:=r)
 refine bI kr Tryz.func15 U U fun p Q hQ hN=>?_
 try dsimp only
 refine WS fun _ L=>fK U fun o=>bo 2 U<|RK L<|WS fun _ H=>rP 3 [] (mc 0 U mn) ?_
 refine du (xs:=[.tmp 13,.tmp 14]) (cs:=[(vI a),(vI b)]) U cN jv U U U U (by simp [Value.cells]) U U fun d=>cX (z_ r kA kC az cA cC bA bC slA slC drA drC ha heA heC a b d hin) (bk [2,3,4,5,6,7,8,9,10,0]) U fun m J=>?_
 obtain ⟨K,e,g,f,Z,c,AZ,X,Y⟩:=m
 cases K
 ·obtain ⟨AB,he⟩:=J.2 rfl
  try dsimp only at AB he
  subst AB
  try dsimp only [cond_true,cond_false,List.cons_append,List.nil_append]
  refine bo 7 U<|RK H<|aj fun _ P=>WS fun _ C=>rP 2 [] mn ?_
  refine RK C<|bO U (a_ fun B=>?_) (aZ fun B=>?_)
  ·exact absurd B he
  refine WS fun _ D=>rP 3 [] mn ?_
  refine RK D<|ar<|Q2 hQ U U U U ?_
  (rw [show wD r a b=0 from if_neg he]; done)
 obtain ⟨he,O⟩:=J.1 rfl
 try dsimp only [cond_true,cond_false,List.cons_append,List.nil_append]
 try dsimp only at O
 obtain ⟨N,S,T,AA⟩:=zj he
 have A:=nZ N
 have h:=g6 (i:=a) A
 have j:=g6 (i:=b) A
 refine bo 7 U<|RK H<|aj fun _ E=>WS fun _ F=>bo 1 U<|rS (SX (cf (r:= .bool false) U U U m_) U U)<|RK F<|bh U<|WK E<|aj fun _ G=>dg cv 21 kr<|dP 1 [] mn ?_
 refine dS (IA 0 U (ag (n:=2) 4 U sq) jY dc U I) ?_
 refine dS (mV ((0*2)+1) U (ag (n:=([(aC (ax r) a),(aC (ax r) b)]).length) 4 U sm) (Nat.succ_pos _) fw U)<|dS (fX 0 1 (vI ((aC (ax r) a).Hi)) U cb (ag (n:=([(aC (ax r) a),(aC (ax r) b)]).length) 4 U sm) (show ([(aC (ax r) a),(aC (ax r) b)].map aa.cells)[0]? =some [(vI ((aC (ax r) a).Lo)),(vI ((aC (ax r) a).Hi))] from U) U dc U)<|dP 1 [] mn ?_
 refine dS (IA 1 U (ag (n:=2) 4 U sq) jY dc U I) ?_
 refine dS (mV (1*2) U (ag (n:=([(aC (ax r) a),(aC (ax r) b)]).length) 4 U sm) (Nat.succ_pos _) fw U)<|dS (fX 1 0 (vI ((aC (ax r) b).Lo)) U cb (ag (n:=([(aC (ax r) a),(aC (ax r) b)]).length) 4 U sm) (show ([(aC (ax r) a),(aC (ax r) b)].map aa.cells)[1]? =some [(vI ((aC (ax r) b).Lo)),(vI ((aC (ax r) b).Hi))] from U) U dc U)<|dP 2 [] mn ?_
 refine dS (IA 0 U (ag (n:=2) 4 U sq) jY dc U I) ?_
 refine dS (mV (0*2) U (ag (n:=([(aC (ax r) a),(aC (ax r) b)]).length) 4 U sm) (Nat.succ_pos _) fw U)<|dS (fX 0 0 (vI ((aC (ax r) a).Lo)) U cb (ag (n:=([(aC (ax r) a),(aC (ax r) b)]).length) 4 U sm) (show ([(aC (ax r) a),(aC (ax r) b)].map aa.cells)[0]? =some [(vI ((aC (ax r) a).Lo)),(vI ((aC (ax r) a).Hi))] from U) U dc U)<|dP 1 [] mn ?_
 refine dS (IA 1 U (ag (n:=2) 4 U sq) jY dc U I) ?_
 refine dS (mV ((1*2)+1) U (ag (n:=([(aC (ax r) a),(aC (ax r) b)]).length) 4 U sm) (Nat.succ_pos _) fw U)<|dS (fX 1 1 (vI ((aC (ax r) b).Hi)) U cb (ag (n:=([(aC (ax r) a),(aC (ax r) b)]).length) 4 U sm) (show ([(aC (ax r) a),(aC (ax r) b)].map aa.cells)[1]? =some [(vI ((aC (ax r) b).Lo)),(vI ((aC (ax r) b).Hi))] from U) U dc U)<|lQ 1 U<|dS (CL (yd (decide (((aC (ax r) a).Hi)<((aC (ax r) b).Lo))) (decide (((aC (ax r) a).Lo)<((aC (ax r) b).Hi)))) (aM) U)<|dP 2 [] mn ?_
 refine cM<|RK G<|ar<|Q2 hQ U U U U ?_
 (rw [he,show wD r a b=BP _ _ from if_pos he,← Nb])
theorem Qt (a b:Int) (r:bY) (kA:OA) (kC:Nat) (az:List RA) (cA:OA) (cC:Nat) (bA:OA) (bC:Nat) (slA:OA) (slC:Nat) (drA:OA) (drC:Nat) (ha:List cG) (heA:OA) (heC:Nat) (hin:ej r az ha):
 er Tryz.prog 16 [(vA (cr.cells (ou r kA kC cA cC bA bC slA slC drA drC heA heC))),(vI a),(vI b)] [(rd ff 3 2 eu),(rd kA r.an.aL.length 9 (r.an.aL.map ak.cells)),(rd cA r.an.ah.length 2 (List.zipWith aq.cells r.an.ah az)),(eX (aU aq.gE r.an.ah az)),(rd bA r.an.ae.length 4 (r.an.ae.map bG.cells)),(rd slA r.aK.length 1 (r.aK.map iC)),(rd drA r.bL.length 1 (r.bL.map iC)),(rd heA r.ao.length 1 (List.zipWith ct r.ao ha)),(eX (aU hO r.ao ha))] (vT [(Value.int .u8 (qZ r a b)),(vI (nY r a b))]):=by
 have T:=hin.line
 have q:=hin.iv
 have s:=hin.has
 have d:=hin.iA
 have X:=hin.draw
 have e:=dB (r:=r)
 refine bI kr Tryz.func16 U U fun w Q hQ hN=>?_
 try dsimp only
 refine WS fun _ P=>fK U fun v=>bo 2 U<|RK P<|WS fun _ J=>rP 3 [] (mc 0 U mn) ?_
 refine du (xs:=[.tmp 14,.tmp 15]) (cs:=[(vI a),(vI b)]) U cN jv U U U U (by simp [Value.cells]) U U fun l=>cX (z_ r kA kC az cA cC bA bC slA slC drA drC ha heA heC a b l hin) (bk [2,3,4,5,6,7,8,9,10,0]) U fun u N=>?_
 obtain ⟨O,m,p,o,h,j,AZ,f,g⟩:=u
 cases O
 ·obtain ⟨M,he⟩:=N.2 rfl
  try dsimp only at M he
  subst M
  try dsimp only [cond_true,cond_false,List.cons_append,List.nil_append]
  refine bo 7 U<|RK J<|aj fun _ W=>WS fun _ E=>rP 2 [] mn ?_
  refine RK E<|bO U (a_ fun D=>?_) (aZ fun D=>?_)
  ·exact absurd D he
  refine WS fun _ F=>rP 3 [] mn ?_
  refine RK F<|ar<|Q2 hQ U U U U ?_
  (rw [show qZ r a b=0 from if_neg he]; done)
 obtain ⟨he,V⟩:=N.1 rfl
 try dsimp only [cond_true,cond_false,List.cons_append,List.nil_append]
 try dsimp only at V
 obtain ⟨AA,Y,Z,c⟩:=zj he
 have B:=nZ AA
 have R:=g6 (i:=a) B
 have S:=g6 (i:=b) B
 refine bo 7 U<|RK J<|aj fun _ G=>WS fun _ H=>rP 1 [] mn ?_
 refine rS (SX (cf (r:= .bool false) U U U m_) U U)<|RK H<|bh U<|WK G<|aj fun _ AB=>dJ cv [19,20] [] [] [0,1,2,3,4,5,6,7,8,9,10,11,12,13,14,15] [] U U U U U<|eS U (MV U) ?_
 refine eS U (IA 0 U (ag (n:=2) 4 U sq) jY dc U I) ?_
 refine eS U (mV (0*2) U (ag (n:=([(aC (ax r) a),(aC (ax r) b)]).length) 4 U sm) (Nat.succ_pos _) fw U)<|eS U (fX 0 0 (vI ((aC (ax r) a).Lo)) U cb (ag (n:=([(aC (ax r) a),(aC (ax r) b)]).length) 4 U sm) (show ([(aC (ax r) a),(aC (ax r) b)].map aa.cells)[0]? =some [(vI ((aC (ax r) a).Lo)),(vI ((aC (ax r) a).Hi))] from U) U dc U)<|eS U (MV U) ?_
 refine eS U (IA 1 U (ag (n:=2) 4 U sq) jY dc U I) ?_
 refine eS U (mV (1*2) U (ag (n:=([(aC (ax r) a),(aC (ax r) b)]).length) 4 U sm) (Nat.succ_pos _) fw U)<|eS U (fX 1 0 (vI ((aC (ax r) b).Lo)) U cb (ag (n:=([(aC (ax r) a),(aC (ax r) b)]).length) 4 U sm) (show ([(aC (ax r) a),(aC (ax r) b)].map aa.cells)[1]? =some [(vI ((aC (ax r) b).Lo)),(vI ((aC (ax r) b).Hi))] from U) U dc U)<|eS U (MX U)<|eS U (MV U) ?_
 refine eS U (IA 0 U (ag (n:=2) 4 U sq) jY dc U I) ?_
 refine eS U (mV ((0*2)+1) U (ag (n:=([(aC (ax r) a),(aC (ax r) b)]).length) 4 U sm) (Nat.succ_pos _) fw U)<|eS U (fX 0 1 (vI ((aC (ax r) a).Hi)) U cb (ag (n:=([(aC (ax r) a),(aC (ax r) b)]).length) 4 U sm) (show ([(aC (ax r) a),(aC (ax r) b)].map aa.cells)[0]? =some [(vI ((aC (ax r) a).Lo)),(vI ((aC (ax r) a).Hi))] from U) U dc U)<|eS U (MV U) ?_
 refine eS U (IA 1 U (ag (n:=2) 4 U sq) jY dc U I) ?_
 refine eS U (mV ((1*2)+1) U (ag (n:=([(aC (ax r) a),(aC (ax r) b)]).length) 4 U sm) (Nat.succ_pos _) fw U)<|eS U (fX 1 1 (vI ((aC (ax r) b).Hi)) U cb (ag (n:=([(aC (ax r) a),(aC (ax r) b)]).length) 4 U sm) (show ([(aC (ax r) a),(aC (ax r) b)].map aa.cells)[1]? =some [(vI ((aC (ax r) b).Lo)),(vI ((aC (ax r) b).Hi))] from U) U dc U)<|eS U (MN U)<|eS U (SX (bu (xs:=[(0,.tmp 32),(1,.tmp 41)]) (cs:=(aa.cells (aa.mk (max ((aC (ax r) a).Lo) ((aC (ax r) b).Lo)) (min ((aC (ax r) a).Hi) ((aC (ax r) b).Hi))))) U U (br gG U)) U U)<|eT U<|cp U fun T22 K=>AL U dx fun k=>aD (K _ _ (aI [1,2,3,4,5,6,7,8,9,10,11,12,13,14,15,16]) ?_)
 refine cp U fun T24 L=>fW U cz U<|aD (L _ _ (aI [1,2,3,4,5,6,7,8,9,10,11,12,13,14,15,16]) ?_)
 refine fO U<|KK AB<|aj fun _ A=>dg cv 22 kr<|dP 1 [] mn ?_
 refine dS (IA 0 U (ag (n:=2) 5 U sq) jY dc U I) ?_
 refine dS (lS 0 0 (aa.cells (aC (ax r) a)) U cb (ag (n:=([(aC (ax r) a),(aC (ax r) b)]).length) 5 U sm) (show ([(aC (ax r) a),(aC (ax r) b)].map aa.cells)[0]? =some [(vI ((aC (ax r) a).Lo)),(vI ((aC (ax r) a).Hi))] from U) U dc U U)<|dP 1 [] mn ?_
 refine dS (IA 1 U (ag (n:=2) 5 U sq) jY dc U I) ?_
 refine dS (lS 1 0 (aa.cells (aC (ax r) b)) U cb (ag (n:=([(aC (ax r) a),(aC (ax r) b)]).length) 5 U sm) (show ([(aC (ax r) a),(aC (ax r) b)].map aa.cells)[1]? =some [(vI ((aC (ax r) b).Lo)),(vI ((aC (ax r) b).Hi))] from U) U dc U U)<|dS (BI U (sS _ _ (aC (ax r) a) (aC (ax r) b)))<|dP 1 [] mn ?_
 refine jA (t:=50) U (aO fun C=>?_) (aP fun C=>?_)
 ·refine mw 11 [] (mc 0 U mn) U<|dS (CL (yd false (decide ((max ((aC (ax r) a).Lo) ((aC (ax r) b).Lo))≤(min ((aC (ax r) a).Hi) ((aC (ax r) b).Hi))))) (aM) U)<|dP 2 [] mn ?_
  refine cM<|RK A<|ar<|Q2 hQ U U U U ?_
  (rw [he,show qZ r a b=sU _ _ from if_pos he,← OZ R.2.1 S.2.1 C]; done)
 refine mw 11 [] (mc 0 U mn) U<|dS (CL (yd (decide ((max ((aC (ax r) a).Lo) ((aC (ax r) b).Lo))=(min ((aC (ax r) a).Hi) ((aC (ax r) b).Hi)))) (decide ((max ((aC (ax r) a).Lo) ((aC (ax r) b).Lo))≤(min ((aC (ax r) a).Hi) ((aC (ax r) b).Hi))))) (aM) U)<|dP 2 [] mn ?_
 refine cM<|RK A<|ar<|Q2 hQ U U U U ?_
 (rw [he,show qZ r a b=sU _ _ from if_pos he,← LH C]; done)
end
section
open Go.RowKit
theorem pb (n lo hi:Int):
 er Tryz.prog 137 [(vI n),(vI lo),(vI hi)] [] (vB (decide (lo≤n∧n≤hi))):=by
 refine bI kr Tryz.func137 U U fun D Q hQ hN=>?_
 try dsimp only
 refine WS fun _ B=>bo 1 U<|RK B<|WS fun _ A=>rP 4 [] mn ?_
 refine cH (t:=10) U (aP fun C=>?_) (aO fun C=>?_)
 ·refine rP 5 [] mn ?_
  refine RK A<|ar<|Q1 hQ U U U ?_
  exact cB (gi.2 I)
 refine rP 5 [] mn ?_
 refine RK A<|ar<|Q1 hQ U U U ?_
 exact cB (bx I).symm
theorem GR (r:cL) (sgA:OA) (sgC:Nat):
 er Tryz.prog 157 [(vA (dL.cells (lV r sgA sgC)))] [(rd sgA r.ai.length 2 (r.ai.map aJ.cells))] (vB (decide (mG r))):=by
 refine bI kr Tryz.func157 U U fun F Q hQ hN=>?_
 try dsimp only
 refine WS fun _ B=>fK U fun E=>bo 1 U<|RK B<|WS fun _ A=>rP 4 [] (mc 0 U mn) ?_
 refine cj (t:=6) U (aO fun C=>?_) (aP fun C=>?_)
 ·refine rP 11 [] mn ?_
  refine RK A<|ar<|Q1 hQ U U U ?_
  simp only [mG]
  exact cB (bx I).symm
 refine rP 5 [] (mc 0 U mn) ?_
 refine cj (t:=11) U (aO fun D=>?_) (aP fun D=>?_)
 ·refine rP 6 [] mn ?_
  refine RK A<|ar<|Q1 hQ U U U ?_
  simp only [mG]
  exact cB (bx I).symm
 refine rP 6 [] (mc 0 U mn) ?_
 refine RK A<|ar<|Q1 hQ U U U ?_
 simp only [mG]
 exact cB (gi.2 I)
theorem G0 (s:aa):
 er Tryz.prog 25 [(vA (aa.cells s))] [] (vB (decide (iP s))):=by
 refine bI kr Tryz.func25 U U fun F Q hQ hN=>?_
 try dsimp only
 refine WS fun _ B=>fK U fun E=>bo 1 U<|RK B<|WS fun _ A=>rP 4 [] (mc 0 U mn) ?_
 refine cj (t:=6) U (aO fun C=>?_) (aP fun C=>?_)
 ·refine rP 12 [] mn ?_
  refine RK A<|ar<|Q1 hQ U U U ?_
  simp only [iP]
  exact cB (bx I).symm
 refine rP 7 [] (mc 0 U mn) ?_
 refine cj (t:=13) U (aO fun D=>?_) (aP fun D=>?_)
 ·refine rP 5 [] mn ?_
  refine RK A<|ar<|Q1 hQ U U U ?_
  simp only [iP]
  exact cB (bx I).symm
 refine rP 5 [] (mc 0 U mn) ?_
 refine RK A<|ar<|Q1 hQ U U U ?_
 simp only [iP]
 exact cB (gi.2 I)
theorem j4 (la:List Int) (laA:OA) (laC:Nat) (lb:List Int) (lbA:OA) (lbC:Nat) (h1:la.length≤1000000) (h2:lb.length≤1000000):
 er Tryz.prog 29 [(vS laA la.length laC),(vS lbA lb.length lbC)] [(rd laA la.length 1 (la.map iC)),(rd lbA lb.length 1 (lb.map iC))] (vB (decide (la=lb))):=by
 refine bI kr Tryz.func29 U U fun V Q hQ hN=>?_
 try dsimp only
 refine WS fun _ J=>bo 1 U<|RK J<|aj fun _ K=>WS fun _ L=>rP 5 [] mn ?_
 refine RK L<|cE U (aZ fun hl=>?_) (a_ fun hl=>?_)
 ·refine WS fun _ M=>rP 1 [] mn ?_
  refine RK M<|ar<|Q1 hQ U U U ?_
  exact cB (bx (fun e=>by subst e; omega)).symm
 refine WK K<|aj fun _ N=>WS fun _ O=>rP 1 [] mn ?_
 refine RK O<|ay ?_
 have A:(0≤la.length)∧(la.take 0=lb.take 0):=by simp
 refine bK (ι:={z:Nat // (z≤la.length)∧(la.take z=lb.take z)}) [0,1] [0,1] U U (fun z=>[(5,(vI (z.1:Int)))]) (fun z=>[]) (fun _=>rfl) (fun _=>rfl) (fun z=>la.length-z.1) ⟨0,A⟩ (aT U) (aI [0,1]) ?_
 clear A
 rintro ⟨i,⟨S,B⟩⟩ J7 AB
 try dsimp only
 refine aj fun _ P=>WS fun _ R=>rP 4 [] mn ?_
 refine RK R<|bO U (aO fun H=>?_) (aP fun H=>?_)
 ·refine bD<|ab<|ab<|aA<|KK N<|WS fun _ F=>rP 1 [] mn ?_
  refine RK F<|ar<|Q1 hQ U U U ?_
  exact cB (dK (cx I B I)).symm
 refine WK P<|aj fun _ C=>ay<|aj fun _ D=>dg cv 9 kr<|dP 2 [] mn ?_
 obtain ⟨x,hx⟩:=aH la i I
 have T:=bJ iC hx
 refine dS (IA i U (aB 0 U) cN dc I I)<|dS (fX i 0 (vI x) U cb (aB 0 U) T U dc U)<|dP 2 [] mn ?_
 obtain ⟨y,hy⟩:=aH lb i I
 have AA:=bJ iC hy
 refine dS (IA i U (aB 1 U) cN dc I I)<|dS (fX i 0 (vI y) U cb (aB 1 U) AA U dc U)<|dP 1 [] mn ?_
 refine cM<|RK D<|cE U (aZ fun h=>?_) (a_ fun h=>?_)
 ·refine WS fun _ E=>rP 1 [] mn ?_
  refine RK E<|ar<|Q1 hQ U U U ?_
  exact cB (bx (jg hx hy h)).symm
 refine ck<|aG<|KK C<|al<|rP 3 [] mn ?_
 refine aD ?_
 have G:(vI (((i+1):Nat):Int))=(vI ((i:Int)+1)):=by exact cI I
 refine aR (AB ⟨(i+1),⟨I,iQ B hx hy h⟩⟩ _ _ _ U os (dj.cons U<|dj.cons U<|aY U G<|dj.nil _) (aI [0,1]))
end
section
open Go.RowKit
theorem N5 (l:bf) (kA:OA) (kC:Nat) (az:List RA) (cA:OA) (cC:Nat) (bA:OA) (bC:Nat) (hin:ep l az) (hng: ¬ k8 l):
 lx Tryz.prog 54 [(vA (bV.cells (lq l kA kC cA cC bA bC)))] [(rd kA l.aL.length 9 (l.aL.map ak.cells)),(rd cA l.ah.length 2 (List.zipWith aq.cells l.ah az)),(eX (aU aq.gE l.ah az)),(rd bA l.ae.length 4 (l.ae.map bG.cells))] (fun (x:(OA)×Nat×(OA)×Nat×(List RA)×(OA)×Nat)=>(vA (bV.cells (bV.mk (bw.mk (bq.mk x.1 l.aL.length x.2.1)) l.f_ (bq.mk x.2.2.1 l.ah.length x.2.2.2.1) (bq.mk x.2.2.2.2.2.1 l.ae.length x.2.2.2.2.2.2) l.cq l.dM l.cD)))) (fun (x:(OA)×Nat×(OA)×Nat×(List RA)×(OA)×Nat)=>x.2.2.2.2.1.length=l.ah.length∧oN l.ah x.2.2.2.2.1) (fun (x:(OA)×Nat×(OA)×Nat×(List RA)×(OA)×Nat)=>[(own x.1 x.2.1 114 9 (l.aL.map ak.cells)),(own x.2.2.1 x.2.2.2.1 119 2 (List.zipWith aq.cells l.ah x.2.2.2.2.1)),(bB (aU aq.owns l.ah x.2.2.2.2.1)),(own x.2.2.2.2.2.1 x.2.2.2.2.2.2 121 4 (l.ae.map bG.cells))]):=by
 have v:=hin.sx
 have u:=hin.sG
 have G:=hin.mW
 have t:=hin.sk
 have Z:=tU hng
 refine dp VV Tryz.func54 U U fun w0 Q hQ hN=>?_
 try dsimp only
 refine WS fun _ p=>fK U fun b2=>AL U Tc fun b3=>RK p<|WS fun _ q=>rP 1 [] mn ?_
 refine rS (LP (bw.cells (bw.mk (bq.mk kA l.aL.length kC))) 1 U TF U U U) ?_
 refine cX (Qm l.aL kA kC sd) (bk [2]) U fun y w=>?_
 obtain ⟨c,d⟩:=y
 try dsimp only
 refine bo 1 U<|Vi (bV.cells (bV.mk (bw.mk (bq.mk c l.aL.length d)) l.f_ (bq.mk cA l.ah.length cC) (bq.mk bA l.ae.length bC) l.cq l.dM l.cD)) U Ug U U<|RK q<|WS fun _ r=>lW U uB U fun e=>rP 2 [] (mc 3 U mn) ?_
 refine db (es:=(List.map dh.cells [])) (C':=[own (some ⟨e,0,none⟩) 0 119 2 (List.map dh.cells []),_,_,_,_,_,_,_]) 0 U sm U (by simp [maxLen]) U ?_
 refine cO (es2:=(List.zipWith aq.cells l.ah az)) (m':=l.ah.length) 0 U U U Se U U sm (aB 5 U) (xV _ _) os (by first|(simp only [maxLen]; omega)|(simp [maxLen]; omega)) sm (fr G) U fun B D=>?_
 try dsimp only
 refine bo 1 U<|RC (bV.cells (bV.mk (bw.mk (bq.mk c l.aL.length d)) l.f_ (bq.mk B l.ah.length D) (bq.mk bA l.ae.length bC) l.cq l.dM l.cD)) U Su U U<|RK r<|aj fun _ N=>WS fun _ O=>rP 1 [] mn ?_
 refine RK O<|ay<|lY ?_
 have H:(0≤l.ah.length)∧(([]:List RA).length=0)∧(oN l.ah ([]:List RA)):=by exact ⟨Nat.zero_le _,rfl,fun k m a _ h=>by simp at h⟩
 refine bK (ι:={z:Nat×(List RA) // (z.1≤l.ah.length)∧(z.2.length=z.1)∧(oN l.ah z.2)}) [1,2] [2,3,4,5,6,7,8] U U (fun z=>[(3,(vI (z.1.1:Int)))]) (fun z=>[(bB (aU aq.owns (l.ah.take z.1.1) z.1.2)),(own B D 119 2 (List.zipWith aq.cells l.ah (sD z.1.2 az z.1.1)))]) (fun _=>rfl) (fun _=>rfl) (fun z=>l.ah.length-z.1.1) ⟨(0,([]:List RA)),H⟩ (aT U) (aI [2,3,4,5,6,7,8,0,1]) ?_
 clear H
 rintro ⟨⟨i,bz⟩,⟨AB,A,F⟩⟩ J15 M
 try dsimp only at AB A F
 try dsimp only
 refine aj fun _ P=>WS fun _ R=>rP 5 [] (mc 2 U mn) ?_
 refine RK R<|bO U (aO fun j=>?_) (aP fun j=>?_)
 ·refine bD<|ab<|ab<|aA<|KK N<|WS fun _ T=>lW U th U fun g=>?_
  rw [show sD bz az i=bz from L7 I]
  rw [show l.ah.take i=l.ah from List.take_of_length_le I]
  refine rP 2 [] (mc 3 U mn) ?_
  refine db (es:=(List.map bG.cells [])) (C':=[own (some ⟨g,0,none⟩) 0 121 4 (List.map bG.cells []),_,_,_,_,_,_,_,_,_]) 0 U sm U (by simp [maxLen]) U ?_
  refine cO (es2:=(List.map bG.cells l.ae)) (m':=l.ae.length) 0 U U U SP U U sm (aB 7 U) (qv _) os (by first|(simp only [maxLen]; omega)|(simp [maxLen]; omega)) sm sm U fun K L=>?_
  try dsimp only
  refine bo 1 U<|RC (bV.cells (bV.mk (bw.mk (bq.mk c l.aL.length d)) l.f_ (bq.mk B l.ah.length D) (bq.mk K l.ae.length L) l.cq l.dM l.cD)) U Uy U U<|RK T<|WS fun _ AA=>rP 1 [] (mc 3 U mn) ?_
  refine Gx U Rr U<|RK AA<|ar ?_
  refine LX hQ (c,d,B,D,bz,K,L) [1,9,8,0] [0] (mc 2 U mn) U (by simp only [fz,List.all_nil,fQ,Bool.and_true]; rfl) U U ?_
  exact ⟨dso,F⟩
 refine WK P<|aj fun _ S=>ay<|dJ cv [3,10,13] [6,7,8,9,10] [0,1] [0,1,2,3,4,5,6,7] [0,1,2,3,4,5,6,7,8] U U U U U<|eS U (FA 2 U MH U)<|eS U (L1 (vS B l.ah.length D) 2 U QP U U)<|eS U (MV U)<|eS U (FA 2 U MH U)<|eS U (L1 (vS B l.ah.length D) 2 U QP U U)<|eS U (MV U) ?_
 obtain ⟨x,hx⟩:=aH l.ah i I
 obtain ⟨xa,J⟩:=aH az i I
 have b:(List.zipWith aq.cells l.ah (sD bz az i))[i]? =some (aq.cells x xa):=cT hx (FK A J)
 refine fS U (IA i U (ag (n:=l.ah.length) 8 U (fr (by rw [re A I]; exact G))) uB dc I I) ?_
 refine fS U (mV ((i*2)+1) U (ag (n:=l.ah.length) 8 U (fr (by rw [re A I]; exact G))) (Nat.mul_pos I dc) GA U) ?_
 refine fS U (fX i 1 (vS xa.1 x.aV.length xa.2) U Pc (ag (n:=l.ah.length) 8 U (fr (by rw [re A I]; exact G))) b U dc U) ?_
 refine fS U (IA i U (ag (n:=l.ah.length) 8 U (fr (by rw [re A I]; exact G))) uB dc I I) ?_
 refine fS U (mV ((i*2)+1) U (ag (n:=l.ah.length) 8 U (fr (by rw [re A I]; exact G))) (Nat.mul_pos I dc) GA U) ?_
 refine eT U<|gP U fun T20 V=>lW U m8 U fun f=>aD (V _ _ (aI [1,2,3,4,5,6,7,8]) (aI [1,2,3,4,5,6,7,8,9]) ?_)
 refine gP U fun T22 W=>db (es:=(List.map cd.cells [])) (C':=[own (some ⟨f,0,none⟩) 0 116 3 (List.map cd.cells []),_,_,_,_,_,_,_,_,_]) 0 U sm U (by simp [maxLen]) U ?_
 refine cO (es2:=(List.map cd.cells x.aV)) (m':=x.aV.length) 0 U U U Ps U U sm (show g9 _ (rd xa.1 x.aV.length 3 (x.aV.map cd.cells)).holds from (cw 6 U (bH hx J (by simp [aq.gE])))) (qq _) (by have:=Z.2.2.2 x (aS hx); simp; omega) (by have:=Z.2.2.2 x (aS hx); simp only [maxLen]; simp; omega) sm sm U fun C E=>?_
 try dsimp only
 refine Ut 0 U fun s=>aD (W _ _ (aI [1,2,3,4,5,6,7,8]) (aI [1,2,3,4,5,6,7,8,9]) ?_)
 refine cp U fun T25 X=>dI (k:=i) (o:=1) (vs:=[(vS C x.aV.length E)]) (es':=(List.zipWith aq.cells l.ah (sD (bz++[(C,E)]) az (i+1)))) (C':=[_,_,_,_,_,_,_,_,_,(own B D 119 2 (List.zipWith aq.cells l.ah (sD (bz++[(C,E)]) az (i+1))))]) 9 U U U PX U U U U b U dc (by exact Nh (nw:=(C,E)) hx A J) U<|aD (X _ _ (aI [1,2,3,4,5,6,7,8]) ?_)
 refine fO U<|aG<|KK S<|al<|rP 3 [] mn ?_
 refine aD<|Ai (X':=aU aq.owns (l.ah.take (i+1)) (bz++[(C,E)])) 8 0 U U (G_ (nw:=(C,E)) hx A) ?_
 have Y:(vI (((i+1):Nat):Int))=(vI ((i:Int)+1)):=by exact cI I
 refine aR (M ⟨((i+1),(bz++[(C,E)])),⟨I,by simp; omega,Dg F A hx (by simpa using s)⟩⟩ _ _ _ U os (dj.cons U<|dj.cons U<|aY U Y<|dj.nil _) (aI [1,2,3,4,5,6,7,0,8]))
end
end Go.Proofs.YtadjgjnicdcjbaaGreatDoor
