/-
 The statement topMeasured_said, part 4 of 5: W3, W6, W7, W9, W10, Mat, N1, N2, N3, N4, I1, I2, I3, I4, I5, I6, B7, B8, B9, T1, Async, NJoin, W5, W11.
 Conditions: none.
-/
import Derived.Test.YtkidpbhlgnalaaaGreatTz1
import Derived.Test.YtkidpbhlgnalaaaGreatTz2
import Derived.Test.YtkidpbhlgnalaaaGreatTz3
import Derived.KernelRfl
namespace Go.Proofs.YtkidpbhlgnalaaaGreat
set_option maxRecDepth 100000
set_option maxHeartbeats 4000000
set_option linter.unusedVariables false
section
open Go.RowKit
theorem Eo (s:bL) (hc:0≤s.Class∧s.Class≤255):
 cz Tryz.prog 8 [(vA (bL.cells s))] [] (vB (decide (cV s))):=by
 refine bf kr Tryz.func8 U U fun AA Q hQ hN=>?_
 try dsimp only
 refine WS fun _ B=>ej U fun H=>aU 1 U<|RK B<|WS fun _ A=>dE 2 [] (mc 0 U mn) U<|rS (SX (fP (m:=s.Class) U U vX oe (eo (by first|assumption|omega))) U U)<|rS (CL (rK s.Class 1 3) (av) U)<|rP 1 [] mn ?_
 refine dq (t:=7) U (aL fun C=>?_) (aM fun C=>?_)
 ·refine rP 25 [] mn ?_
  refine RK A<|an<|Q1 hQ U U U ?_
  exact cB (aD (by simp only [cV,aF]; omega)).symm
 refine aU 1 U<|rS (LP (I.cells s.Start) 0 U bQ U U U)<|rS (CL (nK s.Start 0 200000) (av) U)<|rP 2 [] mn ?_
 refine dq (t:=12) U (aL fun D=>?_) (aM fun D=>?_)
 ·refine rP 20 [] mn ?_
  refine RK A<|an<|Q1 hQ U U U ?_
  exact cB (aD (by simp only [cV,aF]; omega)).symm
 refine aU 1 U<|rS (LP (I.cells s.sU) 0 U bQ U U U)<|rS (CL (nK s.sU 0 100) (av) U)<|rP 2 [] mn ?_
 refine dq (t:=17) U (aL fun E=>?_) (aM fun E=>?_)
 ·refine rP 15 [] mn ?_
  refine RK A<|an<|Q1 hQ U U U ?_
  exact cB (aD (by simp only [cV,aF]; omega)).symm
 refine aU 1 U<|rS (LP (I.cells s.lG) 0 U bQ U U U)<|rS (CL (nK s.lG 0 1000) (av) U)<|rP 2 [] mn ?_
 refine dq (t:=22) U (aL fun F=>?_) (aM fun F=>?_)
 ·refine rP 10 [] mn ?_
  refine RK A<|an<|Q1 hQ U U U ?_
  exact cB (aD (by simp only [cV,aF]; omega)).symm
 refine aU 1 U<|rS (LP (I.cells s.Weight) 0 U bQ U U U)<|rS (CL (nK s.Weight 50000 800000) (av) U)<|rP 2 [] mn ?_
 refine dq (t:=27) U (aL fun G=>?_) (aM fun G=>?_)
 ·refine rP 5 [] mn ?_
  refine RK A<|an<|Q1 hQ U U U ?_
  exact cB (aD (by simp only [cV,aF]; omega)).symm
 refine aU 1 U<|rS (LP (I.cells s.ly) 0 U bQ U U U)<|rS (CL (nK s.ly (-500) 500) (av) U)<|rP 2 [] mn ?_
 refine RK A<|an<|Q1 hQ U U U ?_
 exact cB (eH.2 (by simp only [cV,aF]; omega))
theorem kH (lo hi:Int) (l:List I) (lA:OA) (lC:Nat) (hle:lo≤hi) (hlen:l.length≤1000000):
 cz Tryz.prog 104 [(vI lo),(vI hi),(vS lA l.length lC)] [(rd lA l.length 2 (l.map I.cells))] (vB (rZ lo hi l)):=by
 refine bf kr Tryz.func104 U U fun S Q hQ hN=>?_
 try dsimp only
 refine WS fun _ G=>aU 1 U<|RK G<|al fun _ H=>WS fun _ AB=>rP 3 [] mn ?_
 refine RK AB<|ar ?_
 have B:(0≤l.length)∧((l.take 0).all (fun s=>decide (s.Lo≤s.Hi∧lo≤s.Lo∧s.Hi≤hi))=true):=by simp
 refine br (ι:={z:Nat // (z≤l.length)∧((l.take z).all (fun s=>decide (s.Lo≤s.Hi∧lo≤s.Lo∧s.Hi≤hi))=true)}) [0,1,2,9,10] [0] U U (fun z=>[(11,(vI (z.1:Int)))]) (fun z=>[]) (fun _=>rfl) (fun _=>rfl) (fun z=>l.length-z.1) ⟨0,B⟩ (bg U) (aN [0]) ?_
 clear B
 rintro ⟨i,⟨N,A⟩⟩ J4 F
 try dsimp only
 refine WS fun _ J=>rP 1 [] mn ?_
 refine RK J<|al fun _ K=>bH U (aL fun R=>?_) (aM fun R=>?_)
 ·refine bo<|ai<|ai<|aw<|KK H<|WS fun _ E=>rP 1 [] mn ?_
  refine RK E<|an<|Q1 hQ U U U ?_
  first|exact cB (zn hx (aD (by rw [I.ext_iff] at h; simp only at h; omega))).symm|exact cB (wA om A).symm
 refine WK K<|al fun _ L=>ar<|WS fun _ M=>?_
 obtain ⟨x,hx⟩:=bh l i om
 have O:=bp I.cells hx
 refine rS (IA i U (ay 0 U) hU dc om om)<|rS (jq i 0 (I.cells x) U bQ (ay 0 U) O U dc U U)<|AL U cv fun P=>eC U cn U<|RK M<|WS fun _ C=>dE 6 [] (mc 0 U mn) U<|rS (MN U)<|rS (MX U)<|rP 5 [] (mc 0 U mn) ?_
 refine rS (MX U)<|rS (MN U)<|rS (SX (aS (xs:=[(0,.tmp 22),(1,.tmp 29)]) (cs:=(I.cells (I.mk (max lo (min x.Lo x.Hi)) (min hi (max x.Lo x.Hi))))) U U (aT fm U)) U U)<|rS (BI U (AA _ _ x (I.mk (max lo (min x.Lo x.Hi)) (min hi (max x.Lo x.Hi)))))<|RK C<|cd U (aP fun h=>?_) (aO fun h=>?_)
 ·refine WS fun _ D=>rP 1 [] mn ?_
  refine RK D<|an<|Q1 hQ U U U ?_
  first|exact cB (zn hx (aD (by rw [I.ext_iff] at h; simp only at h; omega))).symm|exact cB (wA om A).symm
 refine bS<|aI<|KK L<|ao<|rP 2 [] mn ?_
 refine aB ?_
 refine aY (F ⟨(i+1),⟨om,zp hx A (bY (by rw [I.ext_iff] at h; simp only at h; omega))⟩⟩ _ _ _ U os (bg U) (aN [1]))
theorem z3 (s:bL):
 cz Tryz.prog 66 [(vA (bL.cells s))] [] (vI (if cV s then 0 else 30)):=by
 refine bf kr Tryz.func66 U U fun Z Q hQ hN=>?_
 try dsimp only
 refine WS fun _ R=>ej U fun Y=>aU 1 U<|RK R<|al fun _ S=>WS fun _ A=>dE 2 [] (mc 0 U mn) U<|rS (BI U ig)<|rP 1 [] mn ?_
 refine bx (t:=6) U (aM fun W=>?_) (aL fun W=>?_)
 ·refine aU 39 U<|RK A<|aC U<|WS fun _ T=>rP 1 [] mn ?_
  refine RK T<|an<|Q1 hQ U U U ?_
  first|exact cI (if_neg (by simp only [cV,aF]; omega)).symm|exact cI (if_pos (by simp only [cV,aF]; omega)).symm
 refine dE 2 [] (mc 0 U mn) U<|rS (BI U vQ)<|rP 2 [] mn ?_
 refine bx (t:=11) U (aM fun X=>?_) (aL fun X=>?_)
 ·refine aU 34 U<|RK A<|aC U<|WS fun _ AA=>rP 1 [] mn ?_
  refine RK AA<|an<|Q1 hQ U U U ?_
  first|exact cI (if_neg (by simp only [cV,aF]; omega)).symm|exact cI (if_pos (by simp only [cV,aF]; omega)).symm
 refine rP 1 [] mn ?_
 refine rS (LP (I.cells s.Start) 0 U bQ U U U)<|bX (xs:=[.tmp 13]) (cs:=(I.cells s.Start)) U hU cv U U U U (by simp [Value.cells,I.aq]) U U fun V=>?_
 refine rS (CL (cz.eq (kH 0 200000 ([s.Start]) (some ⟨V,0,none⟩) 1 sd sd) iW) (aK (aH 0 U U (by simp [I.aq]) U)<|av) U) ?_
 refine rP 3 [] mn ?_
 refine bx (t:=18) U (aP fun L=>?_) (aO fun L=>?_)
 ·refine aU 27 U<|RK A<|aC U<|WS fun _ B=>rP 1 [] mn ?_
  refine RK B<|an<|Q1 hQ U U U ?_
  first|exact cI (if_neg (by simp only [cV,aF]; omega)).symm|exact cI (if_pos (by simp only [cV,aF]; omega)).symm
 refine rP 1 [] mn ?_
 refine rS (LP (I.cells s.sU) 1 U bQ U U U)<|bX (xs:=[.tmp 20]) (cs:=(I.cells s.sU)) U hU cv U U U U (by simp [Value.cells,I.aq]) U U fun H=>?_
 refine rS (CL (cz.eq (kH 0 100 ([s.sU]) (some ⟨H,0,none⟩) 1 sd sd) iW) (aK (aH 0 U U (by simp [I.aq]) U)<|av) U) ?_
 refine rP 3 [] mn ?_
 refine bx (t:=25) U (aP fun M=>?_) (aO fun M=>?_)
 ·refine aU 20 U<|RK A<|aC U<|WS fun _ C=>rP 1 [] mn ?_
  refine RK C<|an<|Q1 hQ U U U ?_
  first|exact cI (if_neg (by simp only [cV,aF]; omega)).symm|exact cI (if_pos (by simp only [cV,aF]; omega)).symm
 refine rP 1 [] mn ?_
 refine rS (LP (I.cells s.lG) 2 U bQ U U U)<|bX (xs:=[.tmp 27]) (cs:=(I.cells s.lG)) U hU cv U U U U (by simp [Value.cells,I.aq]) U U fun AB=>?_
 refine rS (CL (cz.eq (kH 0 1000 ([s.lG]) (some ⟨AB,0,none⟩) 1 sd sd) iW) (aK (aH 0 U U (by simp [I.aq]) U)<|av) U) ?_
 refine rP 3 [] mn ?_
 refine bx (t:=32) U (aP fun N=>?_) (aO fun N=>?_)
 ·refine aU 13 U<|RK A<|aC U<|WS fun _ D=>rP 1 [] mn ?_
  refine RK D<|an<|Q1 hQ U U U ?_
  first|exact cI (if_neg (by simp only [cV,aF]; omega)).symm|exact cI (if_pos (by simp only [cV,aF]; omega)).symm
 refine rP 1 [] mn ?_
 refine rS (LP (I.cells s.Weight) 3 U bQ U U U)<|bX (xs:=[.tmp 34]) (cs:=(I.cells s.Weight)) U hU cv U U U U (by simp [Value.cells,I.aq]) U U fun J=>?_
 refine rS (CL (cz.eq (kH 50000 800000 ([s.Weight]) (some ⟨J,0,none⟩) 1 sd sd) iW) (aK (aH 0 U U (by simp [I.aq]) U)<|av) U) ?_
 refine rP 3 [] mn ?_
 refine bx (t:=39) U (aP fun O=>?_) (aO fun O=>?_)
 ·refine aU 6 U<|RK A<|aC U<|WS fun _ E=>rP 1 [] mn ?_
  refine RK E<|an<|Q1 hQ U U U ?_
  first|exact cI (if_neg (by simp only [cV,aF]; omega)).symm|exact cI (if_pos (by simp only [cV,aF]; omega)).symm
 refine rP 1 [] mn ?_
 refine rS (LP (I.cells s.ly) 4 U bQ U U U)<|bX (xs:=[.tmp 41]) (cs:=(I.cells s.ly)) U hU cv U U U U (by simp [Value.cells,I.aq]) U U fun K=>?_
 refine rS (CL (cz.eq (kH (-500) 500 ([s.ly]) (some ⟨K,0,none⟩) 1 sd sd) iW) (aK (aH 0 U U (by simp [I.aq]) U)<|av) U) ?_
 refine rP 2 [] mn ?_
 refine RK A<|cd U (aP fun P=>?_) (aO fun P=>?_)
 ·refine WS fun _ F=>rP 1 [] mn ?_
  refine RK F<|an<|Q1 hQ U U U ?_
  first|exact cI (if_neg (by simp only [cV,aF]; omega)).symm|exact cI (if_pos (by simp only [cV,aF]; omega)).symm
 refine WK S<|WS fun _ G=>rP 1 [] mn ?_
 refine RK G<|an<|Q1 hQ U U U ?_
 first|exact cI (if_neg (by simp only [cV,aF]; omega)).symm|exact cI (if_pos (by simp only [cV,aF]; omega)).symm
end
section
open Go.RowKit
theorem Gs (s:bL) (best:Bool) (tsA:OA) (tsN tsC:Nat) (h lo:Int) (hs:cV s) (hh:0≤h∧h≤400000) (hl:0≤lo∧lo≤100000):
 cz Tryz.prog 105 [(vA (dI.cells (dI.mk s (ag.mk (aJ.mk tsA tsN tsC)) best))),(vI h),(vI lo)] [] (vI (min h (h*eO best false s.lG*lo/(100*eO best true s.Weight)))):=by
 have C:=eA (best:=best) (f:=false) hs.2.2.2.1
 have G:=eA (best:=best) (f:=true) hs.2.2.2.2.1
 have D:=jQ hh.1 hh.2 C.1 C.2
 have E:=jQ D.1 D.2 hl.1 hl.2
 have H:=Gl (b:=100*eO best true s.Weight) E.1 E.2 om
 refine bf kr Tryz.func105 U U fun AA Q hQ hN=>?_
 try dsimp only
 refine WS fun _ A=>ej U fun F=>aU 1 U<|RK A<|al fun _ B=>dF cx 19 kr<|jA 5 [] (mc 0 U mn) U<|dS (LP (I.cells s.lG) 0 U bQ U U U)<|dS (CL (rQ s best tsA tsN tsC s.lG false) (av) U)<|dS (BI U (iF ⟨om,om⟩))<|fQ 1 U<|dS (BI U (iF ⟨om,om⟩))<|jA 3 [] (mc 0 U mn) U<|dS (LP (I.cells s.Weight) 0 U bQ U U U)<|dS (CL (rQ s best tsA tsN tsC s.Weight true) (av) U)<|dS (BI U (iF ⟨om,om⟩))<|dS (BI U (oP om om om))<|dS (MN U)<|dP 1 [] mn ?_
 refine cj<|RK B<|an ?_
 exact Q1 hQ U U U U
theorem F8 (s:bL) (best:Bool) (tsA:OA) (tsN tsC:Nat) (h lo:Int) (hs:cV s) (hl:0≤lo∧lo≤100000):
 cz Tryz.prog 106 [(vA (dI.cells (dI.mk s (ag.mk (aJ.mk tsA tsN tsC)) best))),(vI h),(vI lo)] [] (vI (eO best false s.sU*lo/100)):=by
 have C:=eA (best:=best) (f:=false) hs.2.2.1
 have E:=jQ C.1 C.2 hl.1 hl.2
 refine bf kr Tryz.func106 U U fun F Q hQ hN=>?_
 try dsimp only
 refine WS fun _ A=>ej U fun D=>aU 1 U<|RK A<|WS fun _ B=>dE 3 [] (mc 0 U mn) U<|rS (LP (I.cells s.sU) 0 U bQ U U U)<|rS (CL (rQ s best tsA tsN tsC s.sU false) (av) U)<|aU 1 U<|rS (BI U (iF ⟨om,om⟩))<|rS (BI U (oP om om om))<|rP 1 [] mn ?_
 refine RK B<|an ?_
 exact Q1 hQ U U U U
theorem zk:
 cz Tryz.prog 68 [] [] (vA ((il.cells (il.mk (Value.func (.func 105) [].toArray [].toArray)))++(il.cells (il.mk (Value.func (.func 106) [].toArray [].toArray))))):=by
 refine bf kr Tryz.func68 U U fun D Q hQ hN=>?_
 try dsimp only
 refine WS fun _ A=>AL U DD fun C=>RK A<|WS fun _ B=>rS (SX (aS (xs:=[(0,.func 105)]) (cs:=(il.cells (il.mk (Value.func (.func 105) [].toArray [].toArray)))) U U (aT C8 U)) U U)<|rS (SX (aS (xs:=[(0,.func 106)]) (cs:=(il.cells (il.mk (Value.func (.func 106) [].toArray [].toArray)))) U U (aT C8 U)) U U)<|rS (SX (aS (xs:=[(0,.tmp 1),(1,.tmp 2)]) (cs:=((il.cells (il.mk (Value.func (.func 105) [].toArray [].toArray)))++(il.cells (il.mk (Value.func (.func 106) [].toArray [].toArray))))) U U (aT Hy U)) U U)<|eC U Du U<|RK B<|an ?_
 exact D7 hQ [0] (mc 0 U mn) U U
end
section
open Go.RowKit
theorem rH (s:bL) (best:Bool) (tsA:OA) (tsN tsC:Nat):
 lx Tryz.prog 34 [(vA (dI.cells (dI.mk s (ag.mk (aJ.mk tsA tsN tsC)) best)))] [] (fun (x:Nat)=>(Value.func (.func 67) [].toArray [(vP x)].toArray)) (fun (x:Nat)=>True) (fun (x:Nat)=>[(bm x 95 (dI.cells (dI.mk s (ag.mk (aJ.mk tsA tsN tsC)) best)))]):=by
 refine dT kr Tryz.func34 U U fun D Q hQ hN=>?_
 try dsimp only
 refine WS fun _ A=>ej U fun C=>aU 1 U<|RK A<|WS fun _ B=>rS (FU U)<|rP 1 [] mn ?_
 refine RK B<|an<|LX hQ C [0] [] mn U U U U ?_
 trivial
theorem zJ (s:bL) (ts:List ab) (tsA:OA) (tsC:Nat) (best:Bool) (g1:Nat) (hs:cV s) (hst: ∀ x∈ts,a_ x) (hlen:ts.length≤12):
 x6 Tryz.prog 67 [] [(vP g1)] [(rd tsA ts.length 9 (ts.map ab.cells)),(bm g1 95 (dI.cells (dI.mk s (ag.mk (aJ.mk tsA ts.length tsC)) best)))] (jU best s ts):=by
 refine pg kr Tryz.func67 U U fun l J Z A0 w0 Q hY p o hQ hN=>?_
 try dsimp only
 refine WS fun _ t=>rS (CL zk (av) U)<|AL U DD fun b2=>eC U Du U<|RK t<|WS fun _ u=>dE 3 [] (mr 3 U mn) U<|rS (Fp (I.cells s.Start) 3 U bQ U U U)<|rS (CL (rQ s best tsA ts.length tsC s.Start true) (av) U)<|aU 1 U<|RK u<|al fun _ v=>WS fun _ y=>rP 5 [] (mr 3 U mn) ?_
 refine RK y<|ar ?_
 have H:(0≤ts.length)∧(J 0 A0)∧(Fo A0 w0 A0):=by exact ⟨om,p,o⟩
 refine br (ι:={z:Nat×au // (z.1≤ts.length)∧(J z.1 z.2)∧(Fo A0 w0 z.2)}) [0,1,3,19,20] [0,2,3] U U (fun z=>[(4,(vI (cf best s ts z.1.1))),(21,(vI (z.1.1:Int)))]) (fun z=>[z.1.2]) (fun _=>rfl) (fun _=>rfl) (fun z=>ts.length-z.1.1) ⟨(0,A0),H⟩ (bg U) (aN [0,2,3,1]) ?_
 clear H
 rintro ⟨⟨i,A⟩,⟨K,B,C⟩⟩ J6 q
 try dsimp only at K B C
 try dsimp only
 have hb:=jh (best:=best) hs hst i
 refine WS fun _ AC=>rP 1 [] mn ?_
 refine RK AC<|al fun _ AH=>bH U (aL fun h9=>?_) (aM fun h9=>?_)
 ·refine bo<|ai<|ai<|aw<|KK v<|ao<|rP 6 [] (mr 2 U mn) ?_
  refine mD 3 hY B C U U U (xE om om) U U (fun B37 G E=>?_) (fun B37 G E=>?_)
  rotate_left 1
  ·refine aB ?_
   refine hN _ _ _ (fH (vs:=[]) trivial fun w hs=>rh 3 U G E hs)
  refine aB ?_
  refine hN _ _ _ (fH (vs:=[]) trivial fun w hs=>BL 3 U (by rw [k5]; have e:ts.length=i:=om; rw [e]; exact G) E hs)
 refine WK AH<|al fun _ M=>ar<|WS fun _ N=>rP 1 [] mn ?_
 obtain ⟨x,L⟩:=bh ts i om
 have m:=bp ab.cells L
 refine rS (IA i U (ay 1 U) l5 dc om om) ?_
 have n:=hst x (aG L)
 have k:=eA (best:=best) (f:=false) n.2.1
 have A8:=eA (best:=best) (f:=true) n.2.2.1
 have h5:=eA (best:=best) (f:=false) hs.2.2.2.1
 have h6:=eA (best:=best) (f:=true) hs.2.2.2.2.1
 have h7:=eA (best:=best) (f:=false) hs.2.2.1
 have m1:=jQ hb.1 (show cf best s ts i≤400000 by omega) h5.1 h5.2
 have m2:=jQ m1.1 m1.2 (show 0≤eO best false x.di by omega) k.2
 have m3:=Gl (b:=100*eO best true s.Weight) m2.1 m2.2 om
 have m4:=jQ h7.1 h7.2 (show 0≤eO best false x.di by omega) k.2
 refine rS (jq i 0 (ab.cells x) U bQ (ay 1 U) m U dc U U)<|AL U uP fun A4=>aU 1 U<|eC U Bv U<|RK N<|al fun _ O=>WS fun _ AB=>rP 3 [] mn ?_
 refine mD 4 hY B C U U U (oh om) U U (fun B15 F D=>?_) (fun B15 F D=>?_)
 rotate_left 1
 ·refine rP 1 [] mn ?_
  refine RK AB<|aC U<|an ?_
  refine hQ _ _ _ (fH (vs:=[]) trivial fun w hs=>rh 4 U F D hs)
 refine aU 1 U<|RK AB<|bw U<|WK O<|al fun _ P=>dF cx 12 kr<|jA 2 [] (mr 3 U mn) U<|dS (LP (I.cells x.di) 0 U bQ U U U)<|dS (CL (rQ s best tsA ts.length tsC x.di false) (av) U)<|jA 3 [] (mr 3 U mn) U<|dS (LP (I.cells x.dA) 0 U bQ U U U)<|dS (CL (rQ s best tsA ts.length tsC x.dA true) (av) U)<|fQ 3 U<|cj<|RK P<|al fun _ R=>WS fun _ S=>dE 2 [] (mc 1 U mn) U<|RK S<|ar<|gE 3<|ey fun R21 g=>WS fun _ T=>rS (SX (bJ (r:= .bool true) U U U ig) U U)<|RK T<|al fun _ AA=>aC U<|WK AA<|al fun _ V=>ar<|WS fun _ W=>rS (SX (iY (vs:=(il.cells (il.mk (Value.func (.func 105) [].toArray [].toArray)))) 0 U U U C9 bQ U dc U) U U)<|AL U Dz fun A5=>eC U Dx U<|RK W<|ao<|rP 6 [0,1] (mc 0 U (mr 4 U mn)) ?_
 refine rS (CL (Gs s best tsA ts.length tsC (cf best s ts i) (eO best false x.di) hs sd sd) (av) U) ?_
 refine aU 2 U<|aB<|aI<|KK V<|ao<|rS (SX (bJ (r:= .int .i64 1) U U U (iZ ⟨dc,dc⟩)) U U)<|aU 1 U<|RK g<|ey fun R27 h=>WS fun _ X=>rS (SX (bJ (r:= .bool true) U U U ig) U U)<|RK X<|al fun _ Y=>aC U<|WK Y<|al fun _ a=>ar<|WS fun _ c=>rS (SX (iY (vs:=(il.cells (il.mk (Value.func (.func 106) [].toArray [].toArray)))) 1 U U U C9 bQ U dc U) U U)<|AL U Dz fun A6=>eC U Dx U<|RK c<|ao<|rP 6 [0,1] (mc 0 U (mr 5 U mn)) ?_
 refine rS (CL (F8 s best tsA ts.length tsC (cf best s ts i) (eO best false x.di) hs sd) (av) U) ?_
 refine aU 2 U<|aB<|aI<|KK a<|ao<|rS (SX (bJ (r:= .int .i64 2) U U U (iZ ⟨dc,dc⟩)) U U)<|aU 1 U<|RK h<|ey fun R33 Ay=>WS fun _ d=>rS (SX (bJ (r:= .bool false) U U U ig) U U)<|RK d<|al fun _ Ak=>bw U<|bo<|ai<|ai<|aw<|KK R<|ao<|aU 1 U<|rS (MX U)<|aU 1 U<|aB<|aI<|KK M<|ao<|rP 2 [] mn ?_
 refine aB ?_
 have j:(vI (cf best s ts (i+1)))=(vI (max 0 ((((cf best s ts i)+(eO best true x.dA))-(min (cf best s ts i) ((cf best s ts i)*eO best false s.lG*(eO best false x.di)/(100*eO best true s.Weight))))-(eO best false s.sU*(eO best false x.di)/100)))):=by rw [ug L]; refine cI ?_; unfold rN pX; omega
 refine aY (q ⟨((i+1),B15),⟨om,F,D⟩⟩ _ _ _ U os (b_ 5<|aR U j<|bg U) (aN [3,4,5,6]))
theorem DQ (s:bL) (ts:List ab) (tsA:OA) (tsC:Nat) (best:Bool) (hs:cV s) (hst: ∀ x∈ts,a_ x) (hlen:ts.length≤12):
 lx Tryz.prog 33 [(vA (dI.cells (dI.mk s (ag.mk (aJ.mk tsA ts.length tsC)) best)))] [(rd tsA ts.length 9 (ts.map ab.cells))] (fun (x:(OA)×Nat)=>(vS x.1 ((fB best s ts).length) x.2)) (fun (x:(OA)×Nat)=>True) (fun (x:(OA)×Nat)=>[(own x.1 x.2 3 1 ((fB best s ts).map iC))]):=by
 refine dT kr Tryz.func33 U U fun W Q hQ hN=>?_
 try dsimp only
 refine WS fun _ G=>ej U fun V=>aU 1 U<|RK G<|WS fun _ H=>AL U nN fun O=>RK H<|al fun _ AB=>WS fun _ J=>rP 1 [] (mc 1 U mn) ?_
 refine cX (rH s best tsA ts.length tsC) (av) U fun P T=>?_
 try dsimp only
 refine RK J<|ar<|jS 3 U (by exact fun _ h=>h)<|f_ 3 1 ?_
 refine nY (L0:=[(3,(vP O))]) (F:=[(rd tsA ts.length 9 (ts.map ab.cells)).ro,(bm P 95 (dI.cells (dI.mk s (ag.mk (aJ.mk tsA ts.length tsC)) best)))]) (xs:=(jU best s ts)) (fun k (y:(OA)×Nat)=>True) (fun k y=>[(own y.1 y.2 3 1 (((fB best s ts).take k).map iC)),(bm O 67 [(vS y.1 (((fB best s ts).take k).length) y.2)]),(rd tsA ts.length 9 (ts.map ab.cells)).ro]) (fun _ (_:Unit)=>False) (fun _ _=>[]) [0,3,5] [1,2] (none,0) U U (zJ s ts tsA tsC best P (by first|assumption|omega|(simp; done)) (by first|assumption|omega|(simp; done)) (by first|assumption|omega|(simp; done))) U U U (by trivial) (by simp only [List.forall_mem_cons,List.not_mem_nil,false_imp_iff,implies_true,and_true]; exact ⟨⟨_,sm,(fg (cm _))⟩,⟨_,sm,(cm _)⟩⟩) (by exact qe) U (bg U) ?_ ?_ (fun _ _ _ h=>h.elim) (fun _ _ h=>h.elim)
 rotate_left 1
 ·rintro AA ⟨a,c⟩ L
  try dsimp only
  rw [qD]
  refine aI<|KK AB<|WS fun _ C=>rP 2 [] (mc 4 U mn) ?_
  refine RK C<|an<|hQ _ _ _ (oA 0 U U<|fH (vs:=[(vS a ((fB best s ts).length) c)]) ⟨U,trivial⟩ fun w hs=>BO (a,c) [3] ?_ ?_ U U U hs)
  ·rfl
  ·trivial
 rintro k x ⟨a,c⟩ l ra rb S X K10 Qr11 hx K B A M N
 obtain ⟨hk,rfl⟩:=rC hx
 try dsimp only
 refine ao<|rP 1 [] mn ?_
 refine aB<|aY (B _ _ ?_)
 refine ar<|ao<|rP 2 [] (mc 2 U mn) ?_
 refine bX (xs:=[.tmp 11]) (cs:=[(vI (cf best s ts k))]) U cK g6 U U U U (by simp [Value.cells]) U U fun R=>?_
 refine eN (es2:=(List.map iC ((fB best s ts).take (k+1)))) (m':=((fB best s ts).take (k+1)).length) 2 U U U od U U sm (aH (es:=List.map iC [(cf best s ts k)]) 0 U U (by simp [bq]) U) (lk _) (by simp [iT]; omega) (by simp [iT,maxLen]; omega) (by rw [tg hk]; simp) sm U fun D E=>?_
 try dsimp only
 refine JC U E8 U U<|aB<|aI ?_
 exact A (D,E) _ _ (by trivial) (aN [1,2,3,4])
end
section
open Go.RowKit
theorem zq (ts:List ab) (tsA:OA) (tsC:Nat) (s:bL) (hlen:ts.length≤1000000) (hside: ∀ x∈ts,0≤x.ct∧x.ct≤255) (htr:a9 ts=false):
 cz Tryz.prog 32 [(vA (ag.cells (ag.mk (aJ.mk tsA ts.length tsC)))),(vA (bL.cells s))] [(rd tsA ts.length 9 (ts.map ab.cells))] (vT [(vA (dI.cells (dI.mk (bL.mk 0 (I.mk 0 0) (I.mk 0 0) (I.mk 0 0) (I.mk 0 0) (I.mk 0 0)) (ag.mk (aJ.mk none 0 0)) false))),(vA (dI.cells (dI.mk (bL.mk 0 (I.mk 0 0) (I.mk 0 0) (I.mk 0 0) (I.mk 0 0) (I.mk 0 0)) (ag.mk (aJ.mk none 0 0)) false))),(vI (e8 s ts))]):=by
 refine bf kr Tryz.func32 U U fun L Q hQ hN=>?_
 try dsimp only
 refine WS fun _ C=>ej U fun H=>ej U fun AA=>AL U qP fun J=>AL U qP fun K=>aU 1 U<|RK C<|al fun _ G=>WS fun _ D=>dE 1 [] (mc 3 U mn) U<|rS (CL (kN ts tsA tsC hlen hside) (aX [4]) U)<|aU 1 U<|RK D<|WS fun _ E=>rP 2 [] mn ?_
 refine RK E<|bH U (aO fun h=>?_) (aP fun h=>?_)
 ·exfalso; simp [htr] at h
 refine al fun _ F=>dK cx [3,4] [] [] [0,1,2,3,4] [] U U U U U<|eS U (LW 1 U bQ U U)<|eS U (LW 0 U bQ U U)<|eS U (MV U)<|eS U (AG U)<|eJ U<|bU U fun T10 A=>oa U qS U<|aB (A _ _ (aN [0,1,2,3,4]) ?_)
 refine bU U fun T11 B=>eC U qS U<|aB (B _ _ (aN [0,1,2,3,4]) ?_)
 refine fx U<|KK F<|an<|l6 hQ [0,1] (mc 1 U (mc 0 U mn)) U ?_
 (simp only [htr,qY htr]; rfl)
theorem wg (ts:List ab) (tsA:OA) (tsC:Nat) (s:bL) (hlen:ts.length≤1000000) (hside: ∀ x∈ts,0≤x.ct∧x.ct≤255) (htr:a9 ts=true):
 cz Tryz.prog 32 [(vA (ag.cells (ag.mk (aJ.mk tsA ts.length tsC)))),(vA (bL.cells s))] [(rd tsA ts.length 9 (ts.map ab.cells))] (vT [(vA (dI.cells (dI.mk s (ag.mk (aJ.mk tsA ts.length tsC)) false))),(vA (dI.cells (dI.mk s (ag.mk (aJ.mk tsA ts.length tsC)) true))),(vI (e8 s ts))]):=by
 refine bf kr Tryz.func32 U U fun L Q hQ hN=>?_
 try dsimp only
 refine WS fun _ C=>ej U fun H=>ej U fun AA=>AL U qP fun J=>AL U qP fun K=>aU 1 U<|RK C<|al fun _ D=>WS fun _ E=>dE 1 [] (mc 3 U mn) U<|rS (CL (kN ts tsA tsC hlen hside) (aX [4]) U)<|aU 1 U<|RK E<|WS fun _ F=>rP 2 [] mn ?_
 refine RK F<|cd U (aP fun h=>?_) (aO fun h=>?_)
 ·exact absurd (by simp [htr]) h
 refine WK D<|al fun _ G=>dK cx [8,9] [] [] [2,3,4] [] U U U U U<|eS U (LW 0 U bQ U U)<|eS U (LW 1 U bQ U U)<|eS U (SX (aS (xs:=[(0,.tmp 15),(1,.tmp 16),(2,.const (vB false))]) (cs:=(dI.cells (dI.mk s (ag.mk (aJ.mk tsA ts.length tsC)) false))) U U (aT Hb U)) U U)<|eS U (LW 0 U bQ U U)<|eS U (LW 1 U bQ U U)<|eS U (SX (aS (xs:=[(0,.tmp 18),(1,.tmp 19),(2,.const (vB true))]) (cs:=(dI.cells (dI.mk s (ag.mk (aJ.mk tsA ts.length tsC)) true))) U U (aT Hb U)) U U)<|eS U (LW 0 U bQ U U)<|eS U (CL (z3 s) (av) U)<|eS U (AG U)<|eJ U<|bU U fun T10 A=>oa U qS U<|aB (A _ _ (aN [2,3,4]) ?_)
 refine bU U fun T11 B=>eC U qS U<|aB (B _ _ (aN [2,3,4]) ?_)
 refine fx U<|KK G<|an<|l6 hQ [0,1] (mc 1 U (mc 0 U mn)) U ?_
 (rw [e8,if_pos htr]<;>rfl)
end
section
open Go.RowKit
theorem yd (ts:List ab) (tsA:OA) (tsC:Nat) (s:bL) (hlen:ts.length≤1000000) (hside: ∀ x∈ts,0≤x.ct∧x.ct≤255) (htr:a9 ts=false):
 cz Tryz.prog 11 [(vA (ag.cells (ag.mk (aJ.mk tsA ts.length tsC)))),(vA (bL.cells s))] [(rd tsA ts.length 9 (ts.map ab.cells))] (vT [(vS none 0 0),(vI (e8 s ts))]):=by
 have E: ¬ e8 s ts=0:=by rw [qY htr]; decide
 refine bf D3 Tryz.func11 U U fun K Q hQ hN=>?_
 try dsimp only
 refine WS fun _ A=>ej U fun G=>ej U fun H=>aU 2 U<|RK A<|WS fun _ B=>dE 2 [0,1] (mc 1 U (mc 0 U mn)) U<|rS (CL (zq ts tsA tsC s hlen hside htr) (aX [2]) U)<|aU 4 U<|AL U qP fun AA=>AL U qP fun J=>oa U qS U<|eC U qS U<|aU 1 U<|RK B<|al fun _ F=>WS fun _ C=>rP 2 [] mn ?_
 refine RK C<|bH U (aO fun he=>?_) (aP fun he=>?_)
 ·exact absurd he E
 refine WS fun _ D=>rP 3 [] mn ?_
 refine RK D<|an ?_
 exact Q2 hQ U U U U U
theorem uX (ts:List ab) (tsA:OA) (tsC:Nat) (s:bL) (hlen:ts.length≤1000000) (hside: ∀ x∈ts,0≤x.ct∧x.ct≤255) (htr:a9 ts=true) (hns: ¬ cV s):
 cz Tryz.prog 11 [(vA (ag.cells (ag.mk (aJ.mk tsA ts.length tsC)))),(vA (bL.cells s))] [(rd tsA ts.length 9 (ts.map ab.cells))] (vT [(vS none 0 0),(vI (e8 s ts))]):=by
 have E: ¬ e8 s ts=0:=by rw [uJ htr hns]; decide
 refine bf D3 Tryz.func11 U U fun K Q hQ hN=>?_
 try dsimp only
 refine WS fun _ A=>ej U fun G=>ej U fun H=>aU 2 U<|RK A<|WS fun _ B=>dE 2 [0,1] (mc 1 U (mc 0 U mn)) U<|rS (CL (wg ts tsA tsC s hlen hside htr) (aX [2]) U)<|aU 4 U<|AL U qP fun AA=>AL U qP fun J=>oa U qS U<|eC U qS U<|aU 1 U<|RK B<|al fun _ F=>WS fun _ C=>rP 2 [] mn ?_
 refine RK C<|bH U (aO fun he=>?_) (aP fun he=>?_)
 ·exact absurd he E
 refine WS fun _ D=>rP 3 [] mn ?_
 refine RK D<|an ?_
 exact Q2 hQ U U U U U
theorem yS (ts:List ab) (tsA:OA) (tsC:Nat) (s:bL) (hlen:ts.length≤1000000) (hside: ∀ x∈ts,0≤x.ct∧x.ct≤255) (htr:a9 ts=true) (hs:cV s):
 lx Tryz.prog 11 [(vA (ag.cells (ag.mk (aJ.mk tsA ts.length tsC)))),(vA (bL.cells s))] [(rd tsA ts.length 9 (ts.map ab.cells))] (fun (x:(OA)×Nat)=>(vT [(vS x.1 ((dn s ts).length) x.2),(vI (e8 s ts))])) (fun (x:(OA)×Nat)=>True) (fun (x:(OA)×Nat)=>[(own x.1 x.2 28 2 ((dn s ts).map I.cells))]):=by
 have R:=jL htr hs
 have v:=bT htr
 have o:=cw htr
 have t:=l4 htr
 refine dT D3 Tryz.func11 U U fun w0 Q hQ hN=>?_
 try dsimp only
 refine WS fun _ V=>ej U fun b2=>ej U fun b3=>aU 2 U<|RK V<|WS fun _ W=>dE 2 [0,1] (mc 1 U (mc 0 U mn)) U<|rS (CL (wg ts tsA tsC s hlen hside htr) (aX [2]) U)<|aU 4 U<|AL U qP fun b5=>AL U qP fun b6=>oa U qS U<|eC U qS U<|aU 1 U<|RK W<|al fun _ X=>WS fun _ Y=>rP 2 [] mn ?_
 refine RK Y<|cd U (aP fun he=>?_) (aO fun he=>?_)
 ·exact absurd R he
 refine WK X<|WS fun _ Z=>AL U Hg fun C=>RK Z<|WS fun _ H=>rP 1 [] (mc 1 U mn) ?_
 refine cX (DQ s ts tsA tsC true hs sd sd) (aX [5]) U fun i p=>?_
 obtain ⟨B,G⟩:=i
 try dsimp only
 refine AL U nN fun D=>I_ U E8 U U<|RK H<|al fun _ AB=>WS fun _ J=>rP 1 [] (mc 4 U mn) ?_
 refine cX (rH s false tsA ts.length tsC) (av) U fun E q=>?_
 try dsimp only
 refine RK J<|ar<|jS 8 U (by exact fun _ h=>h)<|f_ 28 2 ?_
 refine nY (L0:=[(9,(vP C)),(10,(vP D))]) (F:=[(rd tsA ts.length 9 (ts.map ab.cells)).ro,(bm E 95 (dI.cells (dI.mk s (ag.mk (aJ.mk tsA ts.length tsC)) false)))]) (xs:=(jU false s ts)) (fun k (y:(OA)×Nat)=>True) (fun k y=>[(own y.1 y.2 28 2 (((dn s ts).take k).map I.cells)),(bm D 67 [(vS B ((fB true s ts).length) G)]),(own B G 3 1 ((fB true s ts).map iC)),(bm C 50 [(vS y.1 (((dn s ts).take k).length) y.2)]),(rd tsA ts.length 9 (ts.map ab.cells)).ro]) (fun _ (_:Unit)=>False) (fun _ _=>[]) [0,3,4,5,10] [1,2] (none,0) U U (zJ s ts tsA tsC false E (by first|assumption|omega|(simp; done)) (by first|assumption|omega|(simp; done)) (by first|assumption|omega|(simp; done))) U U U (by trivial) (by simp only [List.forall_mem_cons,List.not_mem_nil,false_imp_iff,implies_true,and_true]; exact ⟨⟨_,sm,(fg (cm _))⟩,⟨_,sm,(cm _)⟩⟩) (by exact qe) U (bg U) ?_ ?_ (fun _ _ _ h=>h.elim) (fun _ _ h=>h.elim)
 rotate_left 1
 ·rintro z ⟨a,c⟩ d
  try dsimp only
  rw [pY]
  refine aI<|KK AB<|WS fun _ M=>rP 3 [] (mc 6 U mn) ?_
  refine RK M<|an<|hQ _ _ _ (oA 0 U U<|fH (vs:=[(vS a ((dn s ts).length) c),(vI 0)]) ⟨U,U,trivial⟩ fun w hs=>BO (a,c) [3] ?_ ?_ U U U hs)
  ·rw [R]; rfl
  ·trivial
 rintro k x ⟨a,c⟩ l ra rb S w1 K22 Qr23 hx b K A g j
 obtain ⟨hk,rfl⟩:=rC hx
 try dsimp only
 have u:=iT (best:=true) (s:=s) (ts:=ts)
 refine WS fun _ L=>aU 1 U<|RK L<|ao<|rP 1 [] mn ?_
 refine aB<|aY (K _ _ ?_)
 refine ar<|dK cx [7,8,9] [0] [0] [0,2,3,5] [0,1,2,3,4,5] U U U U U<|fS U (Jz 4 U G4 U)<|eS U (MV U)<|eS U (Jz 1 U FD U)<|eS U (MV U) ?_
 obtain ⟨m,hm⟩:=bh (fB true s ts) k om
 have e:=bp iC hm
 refine eS U (IA k U (aQ (n:=(fB true s ts).length) 2 U sm) cK dc om om) ?_
 have f:m=cf true s ts k:=by rw [ql hk] at hm; exact (Option.some.inj hm).symm
 refine eS U (fT k 0 (vI m) U yF (aQ (n:=(fB true s ts).length) 2 U sm) e U dc U)<|eS U (SX (aS (xs:=[(0,.tmp 30),(1,.tmp 34)]) (cs:=(I.cells (I.mk (cf false s ts k) m))) U U (aT fm U)) U U)<|eJ U<|BD U fun T26 N=>bX (xs:=[.tmp 35]) (cs:=(I.cells (I.mk (cf false s ts k) m))) U hU cv U U U U (by simp [Value.cells,I.aq]) U U fun r=>aB (N _ _ (aN [1,3,4,6]) (aN [1,2,3,4,5,6]) ?_)
 refine bU U fun T28 O=>?_
 refine eN (es2:=(List.map I.cells ((dn s ts).take (k+1)))) (m':=((dn s ts).take (k+1)).length) 2 U U U Gf U U sm (aH (es:=List.map I.cells [(I.mk (cf false s ts k) m)]) 0 U U (by simp [I.aq]) U) (lD _) (by simp [fZ]; omega) (by simp [fZ,maxLen]; omega) (by rw [um hk,f]; simp [kZ]) sm U fun T AA=>?_
 try dsimp only
 refine aB (O _ _ (aN [1,3,4,6]) ?_)
 refine bU U fun T31 P=>JH U GG U U<|aB (P _ _ (aN [1,3,4,6]) ?_)
 refine fx U<|aI ?_
 exact A (T,AA) _ _ (by trivial) (aN [1,2,3,4,5,6])
theorem zF (ts:List ab) (tsA:OA) (tsC:Nat) (s:bL) (hlen:ts.length≤1000000) (hside: ∀ x∈ts,0≤x.ct∧x.ct≤255) (hb: ¬ e8 s ts=0):
 cz Tryz.prog 11 [(vA (ag.cells (ag.mk (aJ.mk tsA ts.length tsC)))),(vA (bL.cells s))] [(rd tsA ts.length 9 (ts.map ab.cells))] (vT [(vS none 0 0),(vI (e8 s ts))]):=by
 by_cases A:a9 ts=true
 ·by_cases hs:cV s
  ·exact absurd (jL A hs) hb
  ·exact uX ts tsA tsC s hlen hside A hs
 ·exact yd ts tsA tsC s hlen hside (by simpa using A)
theorem pD (ts:List ab) (tsA:OA) (tsC:Nat) (s:bL) (hlen:ts.length≤1000000) (hside: ∀ x∈ts,0≤x.ct∧x.ct≤255):
 lx Tryz.prog 11 [(vA (ag.cells (ag.mk (aJ.mk tsA ts.length tsC)))),(vA (bL.cells s))] [(rd tsA ts.length 9 (ts.map ab.cells))] (fun (x:(OA)×Nat)=>(vT [(vS x.1 ((kP s ts).length) x.2),(vI (e8 s ts))])) (fun (x:(OA)×Nat)=>True) (fun (x:(OA)×Nat)=>[(own x.1 x.2 28 2 ((kP s ts).map I.cells))]):=by
 by_cases hb:e8 s ts=0
 ·obtain ⟨A,B⟩:=qf hb
  rw [kO A B]
  exact yS ts tsA tsC s hlen hside A B
 ·rw [wY hb]
  exact cz.JR (none,0) (zF ts tsA tsC s hlen hside hb) trivial AJ
end
section
open Go.RowKit
section
variable {E:dW} {ops:Array Oper} {Q:cq} {rest:List Oper} {D:List Deferred} {L:List (Nat×Value)} {C:List au}
variable {dst:Option Nat} {d:Nat} {ty:TypeId} {ps:String} {af:Array Edge} {g:Option (Nat×Bool)}
theorem tJ: ∀ l:List Int,(l.map iC).flatten=l.map (Value.int .i64)
 |[]=>rfl
 |x::l=>by rw [List.map_cons,List.flatten_cons,tJ l]; rfl
theorem tx {t:TypeId} {l:List Int} (hg:gW ops L g=true) (hz:tZ E.P t=some (l.map (Value.int .i64))) (hd:Nat.blt d E.n=true) (hm:l.length≤maxLen) (k: ∀ b,RJ E ops Q rest D ((d,.pointer (some ⟨b,0,none⟩))::L) (own (some ⟨b,0,none⟩) l.length t 1 (l.map iC)::C)):
 RJ E ops Q (⟨some d,.alloc t,ty,ps,af,g⟩::rest) D L C:=by
 refine wc hg hz hd fun b=>?_
 have h:=fD (E:=E) (ops:=ops) (Q:=Q) (rest:=rest) (D:=D) (L:=(d,.pointer (some ⟨b,0,none⟩))::L) (C:=bm b t (l.map (Value.int .i64))::C) (C':=own (some ⟨b,0,none⟩) (l.map iC).length t 1 (l.map iC)::C) (es:=l.map iC) (sz:=1) 0 rfl
  (fun x hx=>by obtain ⟨y,_,rfl⟩:=cy.1 hx; rfl) (tJ l) (by rw [List.length_map]; exact hm) rfl
 rw [List.length_map] at h
 exact h (k b)
theorem sa {x ix:Operand} {b o o':Nat} {t n e sz k:Nat} {j:Int} (hg:gW ops L g=true) (hx:ev L x=some (.pointer (some ⟨b,o,none⟩))) (hi:ev L ix=some (.int .i64 j)) (ht:aE E.P t=some (n,e,sz)) (hj:j=(k:Int)) (hk:k<n) (ho:o+k*sz=o'):
 SD E ops ⟨dst,.indexAddr t x ix,ty,ps,af,g⟩ D L C (.pointer (some ⟨b,o',none⟩)):=
 dh hg sm fun a w A hs=>by
  subst hj
  simp [execOp,A.ev hx,A.ev hi,ji ht _ hk,ga,ho]
theorem fb {x ix:Operand} {a:Addr} {t n e sz k m m':Nat} {j:Int} (hg:gW ops L g=true) (hx:ev L x=some (.pointer (gN (some a) m))) (hi:ev L ix=some (.int .i64 j)) (ht:aE E.P t=some (n,e,sz)) (hj:j=(k:Int)) (hk:k<n) (ho:m+k*sz=m'):
 SD E ops ⟨dst,.indexAddr t x ix,ty,ps,af,g⟩ D L C (.pointer (gN (some a) m')):=
 dh hg sm fun b w A hs=>by
  subst hj ho
  simp [execOp,A.ev hx,A.ev hi,gN,ji ht (a.add m) hk,lv]
end
theorem ez {M:List Int} {i k:Nat} (h:M.length=169) (hi:i<13) (hk:k<13):(M.map iC)[i*13+k]? =some (iC (mt M i k)):=by
 rw [gD,Gb h hi hk]; rfl
theorem mE {M:List Int} {i:Nat} {v:Int} (h:M.length=169):(M.set i v).length=169:=by rw [List.length_set]; exact h
end
section
open Go.RowKit
theorem vD (ts:List ab) (tsA:OA) (tsC:Nat) (l:List bj) (lA:OA) (lC:Nat) (hlen:ts.length≤1000000) (hk: ∀ m∈l,0≤m.Kind∧m.Kind≤255):
 cz Tryz.prog 9 [(vA (ag.cells (ag.mk (aJ.mk tsA ts.length tsC)))),(vS lA l.length lC)] [(rd tsA ts.length 9 (ts.map ab.cells)),(rd lA l.length 5 (l.map bj.cells))] (vB (decide (h_ l ts.length))):=by
 refine bf kr Tryz.func9 U U fun g Q hQ hN=>?_
 try dsimp only
 refine WS fun _ W=>ej U fun f=>aU 1 U<|RK W<|al fun _ X=>WS fun _ Y=>rP 3 [] mn ?_
 refine RK Y<|cd U (aM fun d=>?_) (aL fun d=>?_)
 ·refine WS fun _ Z=>rP 1 [] mn ?_
  refine RK Z<|an<|Q1 hQ U U U ?_
  first|exact cB (aD (fun q=>by have:=q.1; omega)).symm|exact cB (aD (kX hx (by simp only [eW,aF]; omega))).symm|exact cB (bY (jG om A om)).symm
 refine WK X<|al fun _ a=>WS fun _ b=>rP 1 [] mn ?_
 refine RK b<|ar ?_
 have D:(0≤l.length)∧(∀ m∈l.take 0,eW m ts.length):=by exact ⟨Nat.zero_le _,sm⟩
 refine br (ι:={z:Nat // (z≤l.length)∧(∀ m∈l.take z,eW m ts.length)}) [1,2] [0,1,2] U U (fun z=>[(5,(vI (z.1:Int)))]) (fun z=>[]) (fun _=>rfl) (fun _=>rfl) (fun z=>l.length-z.1) ⟨0,D⟩ (bg U) (aN [0,1,2]) ?_
 clear D
 rintro ⟨i,⟨c,A⟩⟩ J9 V
 try dsimp only
 refine al fun _ E=>WS fun _ F=>rP 4 [] mn ?_
 refine RK F<|bH U (aL fun O=>?_) (aM fun O=>?_)
 ·refine bo<|ai<|ai<|aw<|KK a<|WS fun _ M=>rP 1 [] mn ?_
  refine RK M<|an<|Q1 hQ U U U ?_
  first|exact cB (aD (fun q=>by have:=q.1; omega)).symm|exact cB (aD (kX hx (by simp only [eW,aF]; omega))).symm|exact cB (bY (jG om A om)).symm
 refine WK E<|al fun _ G=>ar<|al fun _ B=>dF cx 54 kr<|dP 2 [] mn ?_
 obtain ⟨x,hx⟩:=bh l i om
 have C:=bp bj.cells hx
 refine dS (IA i U (ay 2 U) sZ dc om om)<|dS (lp (i*5) U (ay 2 U) (Nat.mul_pos om dc) fh U)<|dS (fT i 0 (Value.int .u8 x.Kind) U bQ (ay 2 U) C U dc U) ?_
 have e:=hk x (aG hx)
 refine dS (SX (fP (m:=x.Kind) U U vX oe (eo (by first|assumption|omega))) U U)<|dS (CL (iy x.Kind 1 2) (av) U)<|dP 2 [] mn ?_
 refine dY (t:=23) U (aP fun P=>?_) (aO fun P=>?_)
 ·refine fQ 45 U<|cj<|RK B<|aC U<|WS fun _ H=>rP 1 [] mn ?_
  refine RK H<|an<|Q1 hQ U U U ?_
  first|exact cB (aD (fun q=>by have:=q.1; omega)).symm|exact cB (aD (kX hx (by simp only [eW,aF]; omega))).symm|exact cB (bY (jG om A om)).symm
 refine fQ 2 U<|dS (IA i U (ay 2 U) sZ dc om om)<|dS (lp ((i*5)+1) U (ay 2 U) (Nat.mul_pos om dc) fh U)<|dS (fT i 1 (vI x.cc) U bQ (ay 2 U) C U dc U)<|jA 3 [] (mc 0 U mn) U<|dS (CL (iy x.cc 0 (ts.length:Int)) (av) U)<|dP 3 [] mn ?_
 refine dY (t:=35) U (aP fun R=>?_) (aO fun R=>?_)
 ·refine fQ 33 U<|cj<|RK B<|aC U<|WS fun _ AB=>rP 1 [] mn ?_
  refine RK AB<|an<|Q1 hQ U U U ?_
  first|exact cB (aD (fun q=>by have:=q.1; omega)).symm|exact cB (aD (kX hx (by simp only [eW,aF]; omega))).symm|exact cB (bY (jG om A om)).symm
 refine fQ 2 U<|dS (IA i U (ay 2 U) sZ dc om om)<|dS (lp ((i*5)+2) U (ay 2 U) (Nat.mul_pos om dc) fh U)<|dS (fT i 2 (vI x.To) U bQ (ay 2 U) C U dc U)<|jA 3 [] (mc 0 U mn) U<|dS (CL (iy x.To 0 (ts.length:Int)) (av) U)<|dP 3 [] mn ?_
 refine dY (t:=47) U (aP fun S=>?_) (aO fun S=>?_)
 ·refine fQ 21 U<|cj<|RK B<|aC U<|WS fun _ J=>rP 1 [] mn ?_
  refine RK J<|an<|Q1 hQ U U U ?_
  first|exact cB (aD (fun q=>by have:=q.1; omega)).symm|exact cB (aD (kX hx (by simp only [eW,aF]; omega))).symm|exact cB (bY (jG om A om)).symm
 refine fQ 2 U<|dS (IA i U (ay 2 U) sZ dc om om)<|dS (lp ((i*5)+1) U (ay 2 U) (Nat.mul_pos om dc) fh U)<|dS (fT i 1 (vI x.cc) U bQ (ay 2 U) C U dc U)<|fQ 2 U<|dS (IA i U (ay 2 U) sZ dc om om)<|dS (lp ((i*5)+2) U (ay 2 U) (Nat.mul_pos om dc) fh U)<|dS (fT i 2 (vI x.To) U bQ (ay 2 U) C U dc U)<|dP 3 [] mn ?_
 refine dY (t:=60) U (aM fun T=>?_) (aL fun T=>?_)
 ·refine fQ 8 U<|cj<|RK B<|aC U<|WS fun _ K=>rP 1 [] mn ?_
  refine RK K<|an<|Q1 hQ U U U ?_
  first|exact cB (aD (fun q=>by have:=q.1; omega)).symm|exact cB (aD (kX hx (by simp only [eW,aF]; omega))).symm|exact cB (bY (jG om A om)).symm
 refine fQ 2 U<|dS (IA i U (ay 2 U) sZ dc om om)<|dS (lp ((i*5)+3) U (ay 2 U) (Nat.mul_pos om dc) fh U)<|dS (jq i 3 (I.cells x.cM) U bQ (ay 2 U) C U dc U U)<|dS (CL (kh x.cM 0 360000) (av) U)<|dP 2 [] mn ?_
 refine cj<|RK B<|cd U (aP fun AA=>?_) (aO fun AA=>?_)
 ·refine WS fun _ L=>rP 1 [] mn ?_
  refine RK L<|an<|Q1 hQ U U U ?_
  first|exact cB (aD (fun q=>by have:=q.1; omega)).symm|exact cB (aD (kX hx (by simp only [eW,aF]; omega))).symm|exact cB (bY (jG om A om)).symm
 refine bS<|aI<|KK G<|ao<|rP 3 [] mn ?_
 refine aB ?_
 have N:(vI (((i+1):Nat):Int))=(vI ((i:Int)+1)):=by exact cI om
 refine aY (V ⟨(i+1),⟨om,yn A hx (by simp only [eW,aF]; omega)⟩⟩ _ _ _ U os (cL.cons U<|cL.cons U<|aR U N<|cL.nil _) (aN [0,1,2]))
theorem Cs (m:bj) (k:Int) (tA:OA) (tN tC g1:Nat) (hm:eW m tN) (hn:tN≤12):
 cz Tryz.prog 56 [(vI k),(vA (bj.cells m)),(vP g1)] [(bm g1 24 (ag.cells (ag.mk (aJ.mk tA tN tC))))] (vB false):=by
 have C:=hm
 simp only [eW,aF] at C
 refine bf kr Tryz.func56 U U fun J Q hQ hN=>?_
 try dsimp only
 refine WS fun _ B=>ej U fun AA=>aU 1 U<|RK B<|WS fun _ A=>rP 2 [] (mc 0 U mn) ?_
 refine rS (SX (fP (m:=m.Kind) U U vX oe (eo (by first|assumption|omega))) U U)<|bX (xs:=[.tmp 8]) (cs:=[(vI m.Kind)]) U cK g6 U U U U (by simp [Value.cells]) U U fun D=>?_
 refine rS (CL (cz.eq (iD 1 2 ([m.Kind]) (some ⟨D,0,none⟩) 1 sd) bR) (aK (aH 0 U U (by simp [bq]) U)<|av) U) ?_
 refine rP 2 [] mn ?_
 refine bx (t:=12) U (aP fun F=>?_) (aO fun F=>?_)
 ·refine rP 25 [] mn ?_
  refine RK A<|an<|Q1 hQ U U U ?_
  first|rfl|(simp; omega)|(exfalso; omega)
 refine rP 7 [0,1,1] (mr 2 U (mc 1 U mn)) ?_
 refine bX (xs:=[.tmp 17,.tmp 19]) (cs:=[(vI m.cc),(vI m.To)]) U cK g6 U U U U (by simp [Value.cells]) U U fun E=>?_
 refine rS (CL (cz.eq (iD 0 (tN:Int) ([m.cc,m.To]) (some ⟨E,0,none⟩) 2 sd) kq) (aK (aH 0 U U (by simp [bq]) U)<|av) U) ?_
 refine rP 3 [] mn ?_
 refine bx (t:=24) U (aP fun G=>?_) (aO fun G=>?_)
 ·refine rP 13 [] mn ?_
  refine RK A<|an<|Q1 hQ U U U ?_
  first|rfl|(simp; omega)|(exfalso; omega)
 refine rP 7 [] (mc 2 U mn) ?_
 refine bx (t:=31) U (aM fun H=>?_) (aL fun H=>?_)
 ·refine rP 6 [] mn ?_
  refine RK A<|an<|Q1 hQ U U U ?_
  first|rfl|(simp; omega)|(exfalso; omega)
 refine aU 1 U<|rS (LP (I.cells m.cM) 2 U bQ U U U)<|rS (CL (nV m.cM 0 360000) (av) U)<|rP 3 [] mn ?_
 refine RK A<|an<|Q1 hQ U U U ?_
 first|rfl|(simp; omega)|(exfalso; omega)
theorem Bt (l:List bj) (lA:OA) (lC:Nat) (f:Value) (p:Int→bj→Bool) (X:au) (hf: ∀ x0 x1,(∃ i_:Nat,x0=(i_:Int)∧l[i_]? =some x1)→sR Tryz.prog f [.int .i64 x0,.agg (bj.cells x1).toArray] [X] (.bool (p x0 x1))) (hlen:l.length≤1000000) (hno: ∀ (i_:Nat) x,l[i_]? =some x→p (i_:Int) x=false):
 cz Tryz.prog 59 [(vS lA l.length lC),f] [(rd lA l.length 5 (l.map bj.cells)),X] (vS none 0 0):=by
 refine bf kr Tryz.func59 U U fun T Q hQ hN=>?_
 try dsimp only
 refine WS fun _ H=>aU 1 U<|RK H<|WS fun _ AA=>aU 1 U<|RK AA<|al fun _ J=>WS fun _ K=>rP 3 [] mn ?_
 refine RK K<|ar ?_
 have A:(0≤l.length):=by exact Nat.zero_le _
 refine br (ι:={z:Nat // (z≤l.length)}) [1,5,8,9] [0,1] U U (fun z=>[(10,(vI (z.1:Int)))]) (fun z=>[]) (fun _=>rfl) (fun _=>rfl) (fun z=>l.length-z.1) ⟨0,A⟩ (bg U) (aN [0,1]) ?_
 clear A
 rintro ⟨i,O⟩ J5 G
 try dsimp only
 refine WS fun _ L=>rP 1 [] mn ?_
 refine RK L<|al fun _ M=>bH U (aL fun S=>?_) (aM fun S=>?_)
 ·refine bo<|ai<|ai<|aw<|KK J<|WS fun _ E=>rP 2 [] mn ?_
  refine RK E<|an<|Q1 hQ U U U ?_
  rfl
 refine WK M<|al fun _ N=>ar<|WS fun _ C=>rP 1 [] mn ?_
 obtain ⟨x,hx⟩:=bh l i om
 have P:=bp bj.cells hx
 refine rS (IA i U (ay 0 U) sZ dc om om)<|rS (jq i 0 (bj.cells x) U bQ (ay 0 U) P U dc U U)<|AL U zW fun R=>aU 1 U<|eC U yI U<|RK C<|WS fun _ D=>rP 3 [] (mc 0 U mn) ?_
 refine rS (SX (kb U U U (hf (i:Int) x ⟨_,U,hx⟩) (aX [2])) U U)<|RK D<|cd U (fun B=>?_) (fun B=>?_)
 ·rw [hno _ _ hx] at B; exact Bool.noConfusion B
 refine bS<|aI<|KK N<|ao<|rP 2 [] mn ?_
 refine aB ?_
 have F:(vI (((i+1):Nat):Int))=(vI ((i:Int)+1)):=by exact cI om
 refine aY (G ⟨(i+1),(by first|omega|(simp only []; omega))⟩ _ _ _ U os (b_ 4<|aR U F<|cL.nil _) (aN [1,2]))
theorem E3 (l:List bj) (lA:OA) (lC:Nat):
 lx Tryz.prog 61 [(vS lA l.length lC)] [(rd lA l.length 5 (l.map bj.cells))] (fun (x:Nat)=>(Value.func (.func 101) [].toArray [(vP x)].toArray)) (fun (x:Nat)=>True) (fun (x:Nat)=>[(bm x 40 [(vS lA l.length lC)])]):=by
 refine dT kr Tryz.func61 U U fun D Q hQ hN=>?_
 try dsimp only
 refine WS fun _ A=>o4 U U fun C=>aU 1 U<|RK A<|WS fun _ B=>rS (FU U)<|rP 1 [] mn ?_
 refine RK B<|an<|LX hQ C [0] [] mn U U U U ?_
 trivial
theorem CO (ms:List bj) (msA:OA) (msC g1:Nat) (hlen:ms.length≤1000000):
 x6 Tryz.prog 101 [] [(vP g1)] [(rd msA ms.length 5 (ms.map bj.cells)),(bm g1 40 [(vS msA ms.length msC)])] (ta ms):=by
 refine pg kr Tryz.func101 U U fun l J Z A0 AA Q hY L K hQ hN=>?_
 try dsimp only
 refine WS fun _ N=>rP 3 [] (mr 2 U mn) ?_
 refine RK N<|ar ?_
 have F:(0≤ms.length)∧(J 0 A0)∧(Fo A0 AA A0):=by exact ⟨om,L,K⟩
 refine br (ι:={z:Nat×au // (z.1≤ms.length)∧(J z.1 z.2)∧(Fo A0 AA z.2)}) [0,1,5,6] [1,2] U U (fun z=>[(7,(vI (z.1.1:Int)))]) (fun z=>[z.1.2]) (fun _=>rfl) (fun _=>rfl) (fun z=>ms.length-z.1.1) ⟨(0,A0),F⟩ (bg U) (aN [1,2,0]) ?_
 clear F
 rintro ⟨⟨i,A⟩,⟨G,B,C⟩⟩ J2 M
 try dsimp only at G B C
 try dsimp only
 refine WS fun _ O=>rP 1 [] mn ?_
 refine RK O<|al fun _ P=>bH U (aL fun V=>?_) (aM fun V=>?_)
 ·refine bo<|ai<|ai<|aw ?_
  refine hN _ _ _ (fH (vs:=[]) trivial fun w hs=>BL 2 U (by rw [tW]; have e:ms.length=i:=om; rw [e]; exact B) C hs)
 refine WK P<|al fun _ R=>ar<|WS fun _ S=>rP 1 [] mn ?_
 obtain ⟨x,hx⟩:=bh ms i om
 have T:=bp bj.cells hx
 refine rS (IA i U (ay 0 U) sZ dc om om)<|rS (jq i 0 (bj.cells x) U bQ (ay 0 U) T U dc U U)<|AL U zW fun W=>aU 1 U<|eC U yI U<|RK S<|WS fun _ H=>rP 3 [] (mc 0 U mn) ?_
 refine mD 3 hY B C U U U (AN hx) U U (fun B10 E D=>?_) (fun B10 E D=>?_)
 rotate_left 1
 ·refine rP 1 [] mn ?_
  refine RK H<|aC U<|an ?_
  refine hQ _ _ _ (fH (vs:=[]) trivial fun w hs=>rh 3 U E D hs)
 refine aU 1 U<|RK H<|bw U<|bS<|aI<|KK R<|ao<|rP 2 [] mn ?_
 refine aB ?_
 have AB:(vI (((i+1):Nat):Int))=(vI ((i:Int)+1)):=by exact cI om
 refine aY (M ⟨((i+1),B10),⟨om,E,D⟩⟩ _ _ _ U os (b_ 4<|aR U AB<|cL.nil _) (aN [1,2,3]))
theorem DM (gm:Nat) (l:List bj) (lA:OA) (lC b:Nat) (hlen:l.length≤1000000):
 Bi Tryz.prog 100 [(Value.map (some gm)),(Value.func (.func 101) [].toArray [(vP b)].toArray)] [(rd lA l.length 5 (l.map bj.cells)),(bm b 40 [(vS lA l.length lC)])] (nt iV gm (dM (fun s=>vA (bj.cells s)) ([]:List (Int×bj)))) (fun (x:(List (Int×bj)))=>(vT [])) (fun (x:(List (Int×bj)))=>(∀ e∈x,e.2∈l)) (fun (x:(List (Int×bj)))=>(nt iV gm (dM (fun s=>vA (bj.cells s)) x))):=by
 refine oD kr Tryz.func100 U U fun P Q hQ hN=>?_
 try dsimp only
 refine WS fun _ A=>o4 U U fun K=>RK A<|WS fun _ B=>rP 1 [] mn ?_
 refine RK B<|ar<|jS 2 U (by exact fun _ h=>h)<|jS 4 U (by exact fun _ h=>h) ?_
 refine nY (L0:=[(2,(vP K))]) (F:=[(rd lA l.length 5 (l.map bj.cells)).ro,(bm b 40 [(vS lA l.length lC)]).ro]) (xs:=(ta l)) (fun k (y:(List (Int×bj)))=>((∀ e∈y,e.2∈l))) (fun k y=>[(bm K 89 [(Value.map (some gm))]),(nt iV gm (dM (fun s=>vA (bj.cells s)) y)),(rd lA l.length 5 (l.map bj.cells)).ro]) (fun _ (_:Unit)=>False) (fun _ _=>[]) [2,3,4] [1,0] ([]:List (Int×bj)) rfl rfl (CO l lA lC b (by first|assumption|omega|(simp; done))) rfl rfl rfl (by intro e he; cases he) (by simp only [List.forall_mem_cons,List.not_mem_nil,false_imp_iff,implies_true,and_true]; exact ⟨⟨_,sm,(fg (cm _))⟩,⟨_,sm,(fg (cm _))⟩⟩) (by exact w_) rfl (bg rfl) ?_ ?_ (fun _ _ _ h=>h.elim) (fun _ _ h=>h.elim)
 rotate_left 1
 ·rintro O ml C
  have D:=C
  try dsimp only
  refine aI<|hN _ _ _ (oA 0 U U<|fH (vs:=[]) trivial fun w hs=>Gr ml 4 ?_ ?_ U U hs)
  ·clear hs w hQ hN B A; rfl
  ·clear hs w hQ hN B A; exact D
 rintro k x ml lr ra rb S R K4 Qr5 hx G H E L M
 obtain ⟨x,J,rfl⟩:=uz hx
 have D:=G
 try dsimp only
 refine WS fun _ AA=>rP 1 [] mn ?_
 refine RK AA<|ao<|AL U zW fun N=>eC U yI U<|aB<|j9 (fun _ _ h=>h) (aN [1,0,2,3,4])<|aY (H _ _ ?_)
 refine ar<|ao<|rP 3 [0,1] (mc 2 U (mc 1 U mn)) ?_
 refine oJ (kV:=iV) (x:=(k:Int)) (C':=[_,_,_,(nt iV gm (dM (fun s=>vA (bj.cells s)) (g9 ml (k:Int) x))),_]) 3 U U U U E0 (jc oe) U (nh _ _ _ _).symm U<|aB<|aI ?_
 exact E (g9 ml (k:Int) x) _ _ (by exact AW D (aG J)) (aN [0,2,3,4])
theorem Bm (l:List bj) (lA:OA) (lC b:Nat) (hlen:l.length≤1000000):
 lx Tryz.prog 60 [(Value.func (.func 101) [].toArray [(vP b)].toArray)] [(rd lA l.length 5 (l.map bj.cells)),(bm b 40 [(vS lA l.length lC)])] (fun (x:Nat×(List (Int×bj)))=>(Value.map (some x.1))) (fun (x:Nat×(List (Int×bj)))=>(∀ e∈x.2,e.2∈l)) (fun (x:Nat×(List (Int×bj)))=>[(nt iV x.1 (dM (fun s=>vA (bj.cells s)) x.2))]):=by
 refine dT kr Tryz.func60 U U fun H Q hQ hN=>?_
 try dsimp only
 refine WS fun _ A=>rP 1 [] mn ?_
 refine RK A<|WS fun _ B=>nG (kV:=iV) U U fun F=>?_
 try dsimp only
 refine aU 1 U<|RK B<|WS fun _ C=>rP 2 [] mn ?_
 refine kS 0 U U U U (DM F l lA lC b hlen) U (iU 1 U U (fg (cm _)) (iU 2 U U (fg (cm _)) m8)) U (fun E G=>?_)
 try dsimp only
 refine RK C<|WS fun _ D=>rP 2 [] mn ?_
 refine RK D<|an<|LX hQ (F,E) [0] [] mn U U U U ?_
 assumption
theorem uL (ts:List ab) (tsA:OA) (tsC:Nat) (l:List bj) (lA:OA) (lC:Nat) (htr:a9 ts=true) (hside: ∀ x∈ts,0≤x.ct∧x.ct≤255) (hmo:h_ l ts.length):
 lx Tryz.prog 30 [(vA (ag.cells (ag.mk (aJ.mk tsA ts.length tsC)))),(vS lA l.length lC)] [(rd tsA ts.length 9 (ts.map ab.cells)),(rd lA l.length 5 (l.map bj.cells))] (fun (x:Nat×(List (Int×bj)))=>(vT [(vA (cO.cells (cO.mk (ag.mk (aJ.mk tsA ts.length tsC))))),(Value.map (some x.1)),(vI 0)])) (fun (x:Nat×(List (Int×bj)))=>(∀ e∈x.2,e.2∈l)) (fun (x:Nat×(List (Int×bj)))=>[(nt iV x.1 (dM (fun s=>vA (bj.cells s)) x.2))]):=by
 have Z:=cw htr
 have c:=hmo.1
 have V:(if a9 ts=true then (0:Int) else 10)=0:=if_pos htr
 refine dT kr Tryz.func30 U U fun h Q hQ hN=>?_
 try dsimp only
 refine WS fun _ O=>ej U fun L=>AL U uN fun f=>aU 2 U<|RK O<|WS fun _ P=>rP 1 [] (mc 1 U mn) ?_
 refine rS (CL (pq ts tsA tsC sd hside) (aX [2]) U) ?_
 refine aU 3 U<|AL U uN fun g=>eC U vj U<|aU 1 U<|RK P<|al fun _ R=>WS fun _ S=>rP 2 [] mn ?_
 refine RK S<|cd U (aP fun C=>?_) (aO fun C=>?_)
 ·exact absurd V C
 refine WK R<|WS fun _ T=>rS (FU U)<|aU 1 U<|RK T<|al fun _ AA=>WS fun _ D=>rP 4 [] mn ?_
 refine bx (t:=23) U (aM fun N=>?_) (aL fun N=>?_)
 ·exfalso; omega
 refine rP 2 [] mn ?_
 refine rS (CL (Bt l lA lC (Value.func (.func 56) [].toArray [(vP L)].toArray) (fun _ _=>false) (ky [(bm L 24 (ag.cells (ag.mk (aJ.mk tsA ts.length tsC))))]) (by intro W X J; exact hZ (fi:=[]) (ca:=[(vP L)]) (gu (Cs X W tsA ts.length tsC L (by first|assumption|(obtain ⟨d,_,A⟩:=J; exact hmo.2 _ (aG A))|omega) (by first|assumption|(obtain ⟨d,_,A⟩:=J; exact hmo.2 _ (aG A))|omega)) (aX [0]))) sd (by intro _ _ _; rfl)) (eM 4 rfl rfl<|aK (gJ (aX [2]))<|av) rfl) ?_
 refine aU 1 U<|rS (SX (bJ (r:= .bool false) U U U vQ) U U)<|rP 1 [] mn ?_
 refine RK D<|bw U<|WK AA<|al fun _ E=>dK cx [2,3,4,5] [] [] [0,2,3,4] [] U U U U U<|eS U (LW 0 U bQ U U)<|eS U (MV U)<|eS U (AG U)<|eJ U<|bU U fun T15 F=>cX (E3 l lA lC) (aX [4]) U fun M a=>?_
 try dsimp only
 refine aB (F _ _ (aN [1,3,4,5]) ?_)
 refine bU U fun T19 G=>?_
 refine cX (Bm l lA lC M sd) (aX [5,0]) U fun Y b=>?_
 obtain ⟨B,K⟩:=Y
 try dsimp only
 refine aB (G _ _ (aN [2,4,5,6]) ?_)
 refine bU U fun T24 H=>BG U vj U<|aB (H _ _ (aN [2,4,5,6]) ?_)
 refine bU U fun T25 AB=>rS (AG U)<|aB (AB _ _ (aN [2,4,5,6]) ?_)
 refine fx U<|KK E<|an<|LX hQ (B,K) [0] [0] (mc 3 U mn) U U U U ?_
 assumption
end
section
open Go.RowKit
theorem wb (A:OA) (ad:Addr) (m:Nat) (hA:A=some ad):
 cz Tryz.prog 102 [(Value.pointer (gN A m))] [] (Value.pointer (gN A (m+1))):=by
 refine bf kr Tryz.func102 U U fun D Q hQ hN=>?_
 try dsimp only
 refine WS fun _ B=>aU 1 U<|RK B<|WS fun _ C=>aU 1 U<|rS (SX (jB U U hA) U U)<|rS (JF (m+1) U hA fh U)<|rP 1 [] mn ?_
 refine RK C<|an<|Q1 hQ U U U ?_
 rfl
theorem wQ (A:OA) (ad:Addr) (m:Nat) (hA:A=some ad):
 cz Tryz.prog 103 [(Value.pointer (gN A m))] [] (Value.pointer (gN A (m+3))):=by
 refine bf kr Tryz.func103 U U fun D Q hQ hN=>?_
 try dsimp only
 refine WS fun _ B=>aU 1 U<|RK B<|WS fun _ C=>aU 1 U<|rS (SX (jB U U hA) U U)<|rS (JF (m+3) U hA fh U)<|rP 1 [] mn ?_
 refine RK C<|an<|Q1 hQ U U U ?_
 rfl
theorem z_:
 cz Tryz.prog 63 [] [] (vA ((fJ.cells (fJ.mk Value.nilFunc))++(fJ.cells (fJ.mk (Value.func (.func 102) [].toArray [].toArray)))++(fJ.cells (fJ.mk (Value.func (.func 103) [].toArray [].toArray))))):=by
 refine bf kr Tryz.func63 U U fun D Q hQ hN=>?_
 try dsimp only
 refine WS fun _ A=>AL U Dt fun C=>RK A<|WS fun _ B=>rS (SX (aS (xs:=[(0,.func 102)]) (cs:=(fJ.cells (fJ.mk (Value.func (.func 102) [].toArray [].toArray)))) U U (aT C_ U)) U U)<|rS (SX (aS (xs:=[(0,.func 103)]) (cs:=(fJ.cells (fJ.mk (Value.func (.func 103) [].toArray [].toArray)))) U U (aT C_ U)) U U)<|rS (SX (aS (xs:=[(1,.tmp 1),(2,.tmp 2)]) (cs:=((fJ.cells (fJ.mk Value.nilFunc))++(fJ.cells (fJ.mk (Value.func (.func 102) [].toArray [].toArray)))++(fJ.cells (fJ.mk (Value.func (.func 103) [].toArray [].toArray))))) U U (aT F9 U)) U U)<|eC U C6 U<|RK B<|an<|D7 hQ [0] (mc 0 U mn) U ?_
 rfl
theorem yN (l:List ab) (lA:OA) (lC:Nat) (hlen:l.length≤1000000):
 lx Tryz.prog 62 [(vS lA l.length lC)] [(rd lA l.length 9 (l.map ab.cells))] (fun (x:(OA)×Nat)=>(vS x.1 l.length x.2)) (fun (x:(OA)×Nat)=>True) (fun (x:(OA)×Nat)=>[(own x.1 x.2 73 9 (l.map ab.cells))]):=by
 refine dT kr Tryz.func62 U U fun L Q hQ hN=>?_
 try dsimp only
 refine WS fun _ D=>aU 1 U<|RK D<|al fun _ E=>WS fun _ F=>rP 1 [] mn ?_
 refine rS (BI U (AP EM))<|RK F<|cd U (aM fun B=>?_) (aL fun B=>?_)
 ·refine WS fun _ G=>ud (ay 0 U) B dc fun C=>?_
  have A:l=[]:=by simpa using C
  refine mG 73 9 ?_
  rw [show (own none 0 73 9 ([]:List (List Value)))=own none 0 73 9 (l.map ab.cells) from by rw [A]; rfl]
  refine rP 1 [] mn ?_
  refine RK G<|an ?_
  refine LX hQ (none,0) [0] [] mn U U U ?_ ?_
  ·first|rfl|(rw [A]; rfl)
  ·trivial
 refine WK E<|WS fun _ H=>CY U l5 U fun J=>rP 1 [] mn ?_
 refine fD (es:=(List.map ab.cells [])) (C':=[own (some ⟨J,0,none⟩) 0 73 9 (List.map ab.cells []),_]) 0 U sm U (by simp [maxLen]) U ?_
 refine eN (es2:=(List.map ab.cells l)) (m':=l.length) 0 U U U IJ U U sm (ay 1 U) (np _) os (by (simp only [maxLen]; omega)) sm sm U fun AA K=>?_
 try dsimp only
 refine rP 1 [] mn ?_
 refine RK H<|an ?_
 refine LX hQ (AA,K) [0] [] mn U U U ?_ ?_
 ·first|rfl|(rw [A]; rfl)
 ·trivial
theorem tT (mb mc:Nat) (M:List Int) (n:Nat) (hn:n≤13) (hM:Cl n 0 M):
 Bi Tryz.prog 64 [(vP mb),(vI (n:Int))] [] (own (some ⟨mb,0,none⟩) mc 146 1 (M.map iC)) (fun (x:(List Int)×Bool)=>(vB x.2)) (fun (x:(List Int)×Bool)=>x.2=true→Cl n n x.1∧ ∀ a b,a<n→b<n→mt x.1 a b≤mt M a b) (fun (x:(List Int)×Bool)=>(own (some ⟨mb,0,none⟩) mc 146 1 (x.1.map iC))):=by
 refine oD kr Tryz.func64 U U fun w0 Q hQ hN=>?_
 try dsimp only
 refine WS fun _ w=>aU 1 U<|RK w<|al fun _ y=>WS fun _ AC=>rP 2 [] mn ?_
 refine RK AC<|ar ?_
 have C:(0≤n)∧(Cl n 0 M)∧(∀ a b,a<n→b<n→mt M a b≤mt M a b):=by exact ⟨Nat.zero_le _,hM,fun _ _ _ _=>Int.le_refl _⟩
 refine br (ι:={z:Nat×(List Int) // (z.1≤n)∧(Cl n z.1 z.2)∧(∀ a b,a<n→b<n→mt z.2 a b≤mt M a b)}) [0,1,9] [] U U (fun z=>[(10,(vI (z.1.1:Int)))]) (fun z=>[(own (some ⟨mb,0,none⟩) mc 146 1 (z.1.2.map iC))]) (fun _=>rfl) (fun _=>rfl) (fun z=>n-z.1.1) ⟨(0,M),C⟩ (bg U) (aN [0]) ?_
 clear C
 rintro ⟨⟨x,M1⟩,⟨AB,B,D⟩⟩ J4 v
 try dsimp only at AB B D
 try dsimp only
 refine WS fun _ AH=>rP 1 [] mn ?_
 refine RK AH<|al fun _ AO=>bH U (aL fun h7=>?_) (aM fun h7=>?_)
 ·refine bo<|ai<|ai<|aw<|KK y<|WS fun _ g=>rP 1 [] mn ?_
  refine RK g<|an<|LM hQ (M1,true) 0 [] mn U U U U ?_
  first|exact fun q=>Bool.noConfusion q|(obtain rfl:x=n:=om; exact fun _=>⟨B,D⟩)
 refine WK AO<|al fun _ AR=>ar<|WS fun _ Ak=>aU 2 U<|RK Ak<|WS fun _ N=>rP 2 [] mn ?_
 refine RK N<|ar ?_
 have C:(0≤n)∧(Rd n x M1 M1 0 0):=by exact ⟨Nat.zero_le _,.zero B.len⟩
 refine br (ι:={z:Nat×(List Int) // (z.1≤n)∧(Rd n x M1 z.2 z.1 0)}) [0,1,5,9,10,13] [] U U (fun z=>[(14,(vI (z.1.1:Int)))]) (fun z=>[(own (some ⟨mb,0,none⟩) mc 146 1 (z.1.2.map iC))]) (fun _=>rfl) (fun _=>rfl) (fun z=>n-z.1.1) ⟨(0,M1),C⟩ (bg U) (aN [0]) ?_
 clear C
 rintro ⟨⟨i,M2⟩,⟨J,E⟩⟩ J11 L
 try dsimp only at J E
 try dsimp only
 refine WS fun _ O=>rP 1 [] mn ?_
 refine RK O<|al fun _ P=>bH U (aL fun s=>?_) (aM fun s=>?_)
 ·refine bo<|ai<|ai<|aw<|aI<|KK AR ?_
  have r:=Rd.done B (show x<n by omega) (show Rd n x M1 M2 n 0 from by have e:i=n:=om; rw [e] at E; exact E)
  refine ao<|rP 2 [] mn ?_
  refine aB ?_
  have p:(vI (((x+1):Nat):Int))=(vI ((x:Int)+1)):=by exact cI om
  refine aY (v ⟨((x+1),M2),⟨om,r.1,fun a b ha hb=>Int.le_trans (r.2 a b ha hb) (D a b ha hb)⟩⟩ _ _ _ U os (b_ 3<|aR U p<|cL.nil _) (aN [0]))
 refine WK P<|al fun _ R=>ar<|WS fun _ S=>aU 2 U<|RK S<|WS fun _ T=>rP 2 [] mn ?_
 refine RK T<|ar ?_
 have C:(0≤n)∧(Rd n x M1 M2 i 0):=by exact ⟨Nat.zero_le _,E⟩
 refine br (ι:={z:Nat×(List Int) // (z.1≤n)∧(Rd n x M1 z.2 i z.1)}) [0,1,5,6,9,10,13,14,17] [] U U (fun z=>[(18,(vI (z.1.1:Int)))]) (fun z=>[(own (some ⟨mb,0,none⟩) mc 146 1 (z.1.2.map iC))]) (fun _=>rfl) (fun _=>rfl) (fun z=>n-z.1.1) ⟨(0,M2),C⟩ (bg U) (aN [0]) ?_
 clear C
 rintro ⟨⟨k,M3⟩,⟨K,A⟩⟩ J18 G
 try dsimp only at K A
 try dsimp only
 refine WS fun _ AA=>rP 1 [] mn ?_
 refine RK AA<|al fun _ V=>bH U (aL fun t=>?_) (aM fun t=>?_)
 ·refine bo<|ai<|ai<|aw<|aI<|KK R ?_
  have Ay:Rd n x M1 M3 i n:=by have e:k=n:=om; rw [e] at A; exact A
  refine ao<|rP 2 [] mn ?_
  refine aB ?_
  have m:(vI (((i+1):Nat):Int))=(vI ((i:Int)+1)):=by exact cI om
  refine aY (L ⟨((i+1),M3),⟨om,Ay.row⟩⟩ _ _ _ U os (b_ 6<|aR U m<|cL.nil _) (aN [0]))
 refine WK V<|al fun _ H=>ar<|WS fun _ W=>aU 2 U<|RK W<|al fun _ X=>dF cx 16 kr<|fQ 3 U<|dS (SX (cu U U) U U)<|dS (SX (fc (k:=i) U U U gO om om) U U)<|dS (SX (fb (k:=x) (m':=((i*13+x)*1)) U U U gR om om om) U U)<|dS (fT (i*13+x) 0 (vI (mt M3 i x)) U bQ (aQ (n:=M3.length) 0 U sm) (ez (i:=i) (k:=x) A.len om om) U dc U)<|dP 3 [] mn ?_
 refine dS (SX (cu U U) U U)<|dS (SX (fc (k:=x) U U U gO om om) U U)<|dS (SX (fb (k:=k) (m':=((x*13+k)*1)) U U U gR om om om) U U)<|dS (fT (x*13+k) 0 (vI (mt M3 x k)) U bQ (aQ (n:=M3.length) 0 U sm) (ez (i:=x) (k:=k) A.len om om) U dc U) ?_
 have A1:=A.ET hn B (show x<n by omega) (show i<n by omega) (show x<n by omega)
 have A2:=A.ET hn B (show x<n by omega) (show x<n by omega) (show k<n by omega)
 refine fQ 2 U<|cj<|RK X<|WS fun _ Y=>aU 4 U<|rS (SX (cu U U) U U)<|rS (SX (fc (k:=i) U U U gO om om) U U)<|rS (SX (fb (k:=k) (m':=((i*13+k)*1)) U U U gR om om om) U U)<|rS (fT (i*13+k) 0 (vI (mt M3 i k)) U bQ (aQ (n:=M3.length) 0 U sm) (ez (i:=i) (k:=k) A.len om om) U dc U)<|rP 1 [] mn ?_
 refine RK Y<|bH U (aL fun F=>?_) (aM fun F=>?_)
 ·refine bS<|aI<|KK H<|ao<|rP 2 [] mn ?_
  refine aB ?_
  have j:(vI (((k+1):Nat):Int))=(vI ((k:Int)+1)):=by exact cI om
  refine aY (G ⟨((k+1),M3),⟨om,by first|exact A.put hn B om om om F om rfl|exact A.skip B om om om F⟩⟩ _ _ _ U os (b_ 9<|aR U j<|cL.nil _) (aN [0]))
 refine WS fun _ Z=>aU 4 U<|rS (SX (cu U U) U U)<|rS (SX (fc (k:=i) U U U gO om om) U U)<|rS (SX (fb (k:=k) (m':=((i*13+k)*1)) U U U gR om om om) U U)<|dB (k:=(i*13+k)) (o:=0) (vs:=[(vI ((mt M3 i x)+(mt M3 x k)))]) (es':=(List.map iC (M3.set (i*13+k) ((mt M3 i x)+(mt M3 x k))))) (C':=[(own (some ⟨mb,0,none⟩) mc 146 1 (List.map iC (M3.set (i*13+k) ((mt M3 i x)+(mt M3 x k)))))]) 0 U U U vw U U U U (ez (i:=i) (k:=k) A.len om om) U dc (by exact (List.map_set (f:=iC) (l:=M3) (i:=(i*13+k)) (a:=((mt M3 i x)+(mt M3 x k)))).symm) U<|RK Z<|WS fun _ c=>rP 3 [] mn ?_
 refine RK c<|cd U (aM fun u=>?_) (aL fun u=>?_)
 ·refine WS fun _ d=>rP 1 [] mn ?_
  refine RK d<|an<|LM hQ ((M3.set (i*13+k) ((mt M3 i x)+(mt M3 x k))),false) 0 [] mn U U U U ?_
  first|exact fun q=>Bool.noConfusion q|(obtain rfl:x=n:=om; exact fun _=>⟨B,D⟩)
 refine bS<|aI<|KK H<|ao<|rP 2 [] mn ?_
 refine aB ?_
 have h:(vI (((k+1):Nat):Int))=(vI ((k:Int)+1)):=by exact cI om
 refine aY (G ⟨((k+1),(M3.set (i*13+k) ((mt M3 i x)+(mt M3 x k)))),⟨om,by first|exact A.put hn B om om om F om rfl|exact A.skip B om om om F⟩⟩ _ _ _ U os (b_ 9<|aR U h<|cL.nil _) (aN [0]))
end
section
open Go.RowKit
theorem EU (ts:List ab) (tsA:OA) (tsC gm:Nat) (ml:List (Int×bj)) (hst: ∀ x∈ts,a_ x) (hl12:ts.length≤12) (hl1:1≤ts.length) (hmm: ∀ e∈ml,eW e.2 ts.length):
 lx Tryz.prog 31 [(vA (cO.cells (cO.mk (ag.mk (aJ.mk tsA ts.length tsC))))),(Value.map (some gm))] [(rd tsA ts.length 9 (ts.map ab.cells)),(nt iV gm (dM (fun s=>vA (bj.cells s)) ml))] (fun (x:Bool×Int×(List ab)×(OA)×Nat)=>bif x.1 then (vT [(vA (ag.cells (ag.mk (aJ.mk x.2.2.2.1 x.2.2.1.length x.2.2.2.2)))),(vB true)]) else (vT [(vA (ag.cells (ag.mk (aJ.mk none 0 0)))),(vB false)])) (fun (x:Bool×Int×(List ab)×(OA)×Nat)=>(x.1=true→eL ts.length ts.length ts x.2.2.1)∧(x.1=false→(x.2.1=0∧True))) (fun (x:Bool×Int×(List ab)×(OA)×Nat)=>bif x.1 then [(own x.2.2.2.1 x.2.2.2.2 73 9 (x.2.2.1.map ab.cells))] else []):=by
 refine dT kr Tryz.func31 U U fun w0 Q hQ hN=>?_
 try dsimp only
 refine WS fun _ Kx=>ej U fun b2=>AL U qV fun b3=>aU 1 U<|RK Kx<|WS fun _ K0=>rP 3 [] (mc 1 U mn) ?_
 refine cX (yN ts tsA tsC sd) (aX [2]) U fun y5 LH=>?_
 obtain ⟨AA,Z⟩:=y5
 try dsimp only
 refine rS (SX (aS (xs:=[(0,.tmp 21)]) (cs:=(ag.cells (ag.mk (aJ.mk AA ts.length Z)))) U U (aT u0 U)) U U)<|AL U qV fun b9=>eC U lI U<|RK K0<|WS fun _ HL=>dE 5 [] (mc 0 U mn) U<|RK HL<|WS fun _ HO=>rS (CL z_ (av) U)<|AL U Dt fun Kr=>eC U C6 U<|RK HO<|al fun _ Ho=>WS fun _ H1=>aU 1 U<|RK H1<|ar<|gE 3<|ey fun R15 KY=>al fun _ H8=>WS fun _ IF=>rP 1 [] mn ?_
 refine rS (SX (bJ (r:= .bool true) U U U nU) U U)<|RK IF<|aC U<|WK H8<|al fun _ IO=>ar<|al fun _ IR=>?_
 have KX:eL 0 0 ts ts:= .zero
 have LC:ts.length=ts.length:=KX.len
 refine ao ?_
 refine tx U zt U (by rw [List.length_replicate]; decide) fun K=>?_
 refine RK IR<|al fun _ Ib=>WS fun _ If=>rP 2 [] mn ?_
 refine RK If<|ar ?_
 have A:(0≤(ts.length+1))∧(Wd (ts.length+1) 0 false ts (List.replicate 169 (0:Int))):=by exact ⟨Nat.zero_le _,.zero⟩
 refine br (ι:={z:Nat×(List Int) // (z.1≤(ts.length+1))∧(Wd (ts.length+1) 0 false ts z.2)}) [1,4,6,7,8,9,10,32] [1,2,3,4,6,7] U U (fun z=>[(33,(vI (z.1.1:Int)))]) (fun z=>[(own (some ⟨K,0,none⟩) ((List.replicate 169 (0:Int)).length) 146 1 (z.1.2.map iC))]) (fun _=>rfl) (fun _=>rfl) (fun z=>(ts.length+1)-z.1.1) ⟨(0,(List.replicate 169 (0:Int))),A⟩ (bg U) (aN [1,2,3,4,6,7,0]) ?_
 clear A
 rintro ⟨⟨i,M⟩,⟨T,H⟩⟩ J23 Gd
 try dsimp only at T H
 try dsimp only
 refine WS fun _ In=>rP 1 [] mn ?_
 refine RK In<|al fun _ Iq=>cd U (aM fun Ks=>?_) (aL fun Ks=>?_)
 ·refine WK Iq<|al fun _ Ix=>ar<|WS fun _ I8=>aU 2 U<|RK I8<|WS fun _ JD=>rP 2 [] mn ?_
  refine RK JD<|ar ?_
  have A:(0≤(ts.length+1))∧(Wd (ts.length+1) 0 false ts M):=by exact ⟨Nat.zero_le _,H⟩
  refine br (ι:={z:Nat×(List Int) // (z.1≤(ts.length+1))∧(Wd (ts.length+1) 0 false ts z.2)}) [1,4,6,7,8,9,10,11,32,33,36] [0,1,2,3,4,5] U U (fun z=>[(37,(vI (z.1.1:Int)))]) (fun z=>[(own (some ⟨K,0,none⟩) ((List.replicate 169 (0:Int)).length) 146 1 (z.1.2.map iC))]) (fun _=>rfl) (fun _=>rfl) (fun z=>(ts.length+1)-z.1.1) ⟨(0,M),A⟩ (bg U) (aN [0,1,2,3,4,5,6]) ?_
  clear A
  rintro ⟨⟨j,M2⟩,⟨O,C⟩⟩ J30 c
  try dsimp only at O C
  try dsimp only
  refine WS fun _ JJ=>rP 1 [] mn ?_
  refine RK JJ<|al fun _ JQ=>bH U (aL fun Kt=>?_) (aM fun Kt=>?_)
  ·refine bo<|ai<|ai<|aw<|aI<|KK Ix<|ao<|rP 2 [] mn ?_
   refine aB ?_
   have Kh:(vI (((i+1):Nat):Int))=(vI ((i:Int)+1)):=by exact cI om
   refine aY (Gd ⟨((i+1),M2),⟨om,C⟩⟩ _ _ _ U os (b_ 8<|aR U Kh<|cL.nil _) (aN [0,1,2,3,4,5,6]))
  refine WK JQ<|al fun _ p=>ar<|WS fun _ JR=>aU 2 U<|RK JR<|WS fun _ JT=>rP 3 [] mn ?_
  refine RK JT<|bH U (aO fun AC=>?_) (aP fun AC=>?_)
  ·refine bS<|aI<|KK p<|ao<|rP 2 [] mn ?_
   refine aB ?_
   have Kg:(vI (((j+1):Nat):Int))=(vI ((j:Int)+1)):=by exact cI om
   refine aY (c ⟨((j+1),M2),⟨om,by first|exact C.fill om om om om dc|exact C⟩⟩ _ _ _ U os (b_ 11<|aR U Kg<|cL.nil _) (aN [0,1,2,3,4,5,6]))
  refine ao<|aU 2 U<|rS (SX (fc (k:=i) U U U gO om om) U U)<|rS (SX (fb (k:=j) (m':=((i*13+j)*1)) U U U gR om om om) U U)<|dB (k:=(i*13+j)) (o:=0) (vs:=[(vI 1073741824)]) (es':=(List.map iC (M2.set (i*13+j) 1073741824))) (C':=[_,_,_,_,_,_,(own (some ⟨K,0,none⟩) ((List.replicate 169 (0:Int)).length) 146 1 (List.map iC (M2.set (i*13+j) 1073741824)))]) 6 U U U vw U U U U (ez (i:=i) (k:=j) C.len om om) U dc (by exact (List.map_set (f:=iC) (l:=M2) (i:=(i*13+j)) (a:=1073741824)).symm) U<|aB<|aI<|KK p<|ao<|rP 2 [] mn ?_
  refine aB ?_
  have Kf:(vI (((j+1):Nat):Int))=(vI ((j:Int)+1)):=by exact cI om
  refine aY (c ⟨((j+1),(M2.set (i*13+j) 1073741824)),⟨om,by first|exact C.fill om om om om dc|exact C⟩⟩ _ _ _ U os (b_ 11<|aR U Kf<|cL.nil _) (aN [0,1,2,3,4,5,6]))
 refine bo<|ai<|ai<|aw<|KK Ib<|al fun _ JV=>WS fun _ JY=>rP 4 [] (mc 1 U mn) ?_
 refine RK JY<|ar ?_
 have A:(0≤ts.length)∧(Wd (ts.length+1) 0 false ts M):=by exact ⟨Nat.zero_le _,H⟩
 refine br (ι:={z:Nat×(List Int) // (z.1≤ts.length)∧(Wd (ts.length+1) z.1 false ts z.2)}) [1,4,6,7,8,9,10,51] [0,1,2,3,4,5] U U (fun z=>[(52,(vI (z.1.1:Int)))]) (fun z=>[(own (some ⟨K,0,none⟩) ((List.replicate 169 (0:Int)).length) 146 1 (z.1.2.map iC))]) (fun _=>rfl) (fun _=>rfl) (fun z=>ts.length-z.1.1) ⟨(0,M),A⟩ (bg U) (aN [0,1,2,3,4,5,6]) ?_
 clear A
 rintro ⟨⟨t,M3⟩,⟨P,D⟩⟩ J42 Go
 try dsimp only at P D
 try dsimp only
 refine WS fun _ J1=>rP 1 [] mn ?_
 refine RK J1<|al fun _ J2=>cd U (aM fun Ku=>?_) (aL fun Ku=>?_)
 ·refine WK J2<|al fun _ J3=>ar<|WS fun _ J4=>rP 2 [] mn ?_
  refine RK J4<|al fun _ J5=>?_
  refine lq 2 U (by simp; omega) (fun S G=>?_)
  obtain ⟨x,hx⟩:=bh ts t om
  have Fs:=hst x (aG hx)
  simp only [a_,aF] at Fs
  have K5:=bp ab.cells hx
  refine dK cx [11,12] [] [] [0,1,2,3,4,5,6] [] U U U U U<|eS U (MV U)<|eS U (SX (sa (k:=1) (o':=1) U U U wO U dc U) U U)<|eS U (FA 1 U fh U)<|eS U (L1 (Value.func (.func 102) [].toArray [].toArray) 0 U bQ U U)<|eS U (FA 0 U fh U)<|eS U (L1 (vS AA ts.length Z) 1 U bQ U U)<|eS U (MV U)<|eS U (HP t U G l5 om om)<|eS U (CL (wb AA S (t*9) (by exact G)) (av) U)<|eS U (SX (jB U U G) U U)<|eS U (jq t 1 (I.cells x.di) U bQ (aQ (n:=ts.length) 2 U sm) K5 U dc U U)<|eJ U<|bU U fun T49 Ka=>AL U cv fun LF=>aB (Ka _ _ (aN [1,2,3,4,5,6,7]) ?_)
  refine bU U fun T51 Kb=>eC U cn U<|aB (Kb _ _ (aN [1,2,3,4,5,6,7]) ?_)
  refine fx U<|KK J5<|dK cx [13,15,16] [12] [] [0,1,2,3,4,5,6] [0,1,2,3,4,5,6,7] U U U U U<|eS U (MV U)<|eS U (MV U)<|eS U (BI U (iZ ⟨om,om⟩))<|eS U (MV U)<|eS U (BI U (iZ ⟨om,om⟩))<|eS U (MV U)<|eS U (FA 1 U fh U)<|eS U (L1 (vI x.di.Hi) 0 U bQ U U)<|eS U (FA 0 U fh U)<|eS U (L1 (vI x.di.Lo) 0 U bQ U U)<|eS U (NG U ⟨om,om⟩)<|eS U (SX (fc (k:=t) U U U gO om om) U U)<|fS U (SX (fb (k:=(t+1)) (m':=((t*13+(t+1))*1)) U U U gR om om om) U U)<|eS U (SX (fc (k:=(t+1)) U U U gO om om) U U)<|eJ U<|bU U fun T52 Kc=>dB (k:=(t*13+(t+1))) (o:=0) (vs:=[(vI x.di.Hi)]) (es':=(List.map iC (M3.set (t*13+(t+1)) x.di.Hi))) (C':=[_,_,_,_,_,_,_,(own (some ⟨K,0,none⟩) ((List.replicate 169 (0:Int)).length) 146 1 (List.map iC (M3.set (t*13+(t+1)) x.di.Hi)))]) 7 U U U vw U U U U (ez (i:=t) (k:=(t+1)) D.len om om) U dc (by exact (List.map_set (f:=iC) (l:=M3) (i:=(t*13+(t+1))) (a:=x.di.Hi)).symm) U<|aB (Kc _ _ (aN [0,1,2,3,4,5,6]) ?_)
  refine bU U fun T53 Kd=>rS (SX (fb (k:=t) (m':=(((t+1)*13+t)*1)) U U U gR om om om) U U)<|aB (Kd _ _ (aN [0,1,2,3,4,5,6]) ?_)
  refine bU U fun T54 Ke=>dB (k:=((t+1)*13+t)) (o:=0) (vs:=[(vI (-x.di.Lo))]) (es':=(List.map iC ((M3.set (t*13+(t+1)) x.di.Hi).set ((t+1)*13+t) (-x.di.Lo)))) (C':=[_,_,_,_,_,_,_,(own (some ⟨K,0,none⟩) ((List.replicate 169 (0:Int)).length) 146 1 (List.map iC ((M3.set (t*13+(t+1)) x.di.Hi).set ((t+1)*13+t) (-x.di.Lo))))]) 7 U U U vw U U U U (ez (i:=(t+1)) (k:=t) (mE D.len) om om) U dc (by exact (List.map_set (f:=iC) (l:=(M3.set (t*13+(t+1)) x.di.Hi)) (i:=((t+1)*13+t)) (a:=(-x.di.Lo))).symm) U<|aB (Ke _ _ (aN [0,1,2,3,4,5,6]) ?_)
  refine fx U<|aI<|KK J3<|ao<|rP 2 [] mn ?_
  refine aB ?_
  have Ki:(vI (((t+1):Nat):Int))=(vI ((t:Int)+1)):=by exact cI om
  refine aY (Go ⟨((t+1),((M3.set (t*13+(t+1)) x.di.Hi).set ((t+1)*13+t) (-x.di.Lo))),⟨om,D.wz om om hx U U ⟨⟨om,om⟩,om,om⟩⟩⟩ _ _ _ U os (b_ 8<|aR U Ki<|cL.nil _) (aN [1,2,3,4,5,6,7]))
 refine bo<|ai<|ai<|aw<|KK JV<|al fun _ J6=>WS fun _ J7=>rP 1 [] mn ?_
 refine mZ (kV:=iV) (m:=dM (fun s=>vA (bj.cells s)) ml) 5 U U E0 U ⟨U,fun h=>h⟩ (by exact pw 5 U) U fun K7=>?_
 try dsimp only
 refine RK J7<|ar ?_
 have A:(∀ e∈ml,e∈ml)∧(Wd (ts.length+1) ts.length false ts M3):=by exact ⟨fun _ h=>h,by have e:t=ts.length:=om; subst e; exact D⟩
 refine br (ι:={z:(List (Int×bj))×(List Int) // (∀ e∈z.1,e∈ml)∧(Wd (ts.length+1) ts.length false ts z.2)}) [1,4,6,7,8,9,10,83] [1,2,3,4,5,6] U U (fun z=>[]) (fun z=>[(vC iV K7 gm (dM (fun s=>vA (bj.cells s)) ml) (dM (fun s=>vA (bj.cells s)) z.1.1) none),(own (some ⟨K,0,none⟩) ((List.replicate 169 (0:Int)).length) 146 1 (z.1.2.map iC))]) (fun _=>rfl) (fun _=>rfl) (fun z=>z.1.1.length) ⟨(ml,M3),A⟩ (cL.nil _) (aN [1,2,3,4,5,6,0,7]) ?_
 clear A
 rintro ⟨⟨left,M4⟩,⟨F,B⟩⟩ J59 d
 try dsimp only at F B
 try dsimp only
 refine WS fun _ v=>l8 (jc oe).inj (f:=(fun s=>vA (bj.cells s))) 6 U U U U (fun Kn=>?_) (fun q z hm K4=>?_)
 rotate_left 1
 ·try dsimp only
  refine rP 1 [] mn ?_
  refine RK v<|al fun _ C1=>aC U<|WK C1<|ar<|WS fun _ C2=>rS (SX (l9 6 U U U) U U) ?_
  have Fd:=hmm _ (F _ hm)
  simp only [eW,aF] at Fd
  refine aU 1 U<|AL U zW fun LA=>eC U yI U<|RK C2<|WS fun _ DA=>dE 2 [] (mc 0 U mn) U<|rS (SX (fP (m:=z.Kind) U U vX oe (eo (by first|assumption|omega))) U U)<|rP 2 [] mn ?_
  refine RK DA<|bH U (aL fun V=>?_) (aM fun V=>?_)
  ·refine bS<|aI<|qq 7 U l0 U ?_
   refine aY (d ⟨((eV left q),M4),⟨ny F,by first|exact B|exact (B.less om om om om om om U).less om om om om om om U⟩⟩ _ _ _ U (ks hm) (bg U) (aN [1,2,3,4,5,6,7,8]))
  refine al fun _ DN=>dF cx 17 kr<|jA 8 [] (mc 0 U mn) U<|dS (SX (fc (k:=(z.cc).toNat) U U U gO om om) U U)<|dS (SX (fb (k:=(z.To).toNat) (m':=((((z.cc).toNat)*13+((z.To).toNat))*1)) U U U gR om om om) U U)<|dS (fT (((z.cc).toNat)*13+((z.To).toNat)) 0 (vI (mt M4 ((z.cc).toNat) ((z.To).toNat))) U bQ (aQ (n:=M4.length) 8 U sm) (ez (i:=(z.cc).toNat) (k:=(z.To).toNat) B.len om om) U dc U)<|jA 3 [] (mc 0 U mn) U<|dS (MN U)<|dS (SX (fc (k:=(z.cc).toNat) U U U gO om om) U U)<|dS (SX (fb (k:=(z.To).toNat) (m':=((((z.cc).toNat)*13+((z.To).toNat))*1)) U U U gR om om om) U U)<|cj<|dB (k:=(((z.cc).toNat)*13+((z.To).toNat))) (o:=0) (vs:=[(vI (min (mt M4 ((z.cc).toNat) ((z.To).toNat)) z.cM.Hi))]) (es':=(List.map iC (M4.set (((z.cc).toNat)*13+((z.To).toNat)) (min (mt M4 ((z.cc).toNat) ((z.To).toNat)) z.cM.Hi)))) (C':=[_,_,_,_,_,_,_,_,(own (some ⟨K,0,none⟩) ((List.replicate 169 (0:Int)).length) 146 1 (List.map iC (M4.set (((z.cc).toNat)*13+((z.To).toNat)) (min (mt M4 ((z.cc).toNat) ((z.To).toNat)) z.cM.Hi))))]) 8 U U U vw U U U U (ez (i:=(z.cc).toNat) (k:=(z.To).toNat) B.len om om) U dc (by exact (List.map_set (f:=iC) (l:=M4) (i:=(((z.cc).toNat)*13+((z.To).toNat))) (a:=(min (mt M4 ((z.cc).toNat) ((z.To).toNat)) z.cM.Hi))).symm) U<|RK DN<|dF cx 18 kr<|jA 8 [] (mc 0 U mn) U<|dS (SX (fc (k:=(z.To).toNat) U U U gO om om) U U)<|dS (SX (fb (k:=(z.cc).toNat) (m':=((((z.To).toNat)*13+((z.cc).toNat))*1)) U U U gR om om om) U U)<|dS (fT (((z.To).toNat)*13+((z.cc).toNat)) 0 (vI (mt (M4.set (((z.cc).toNat)*13+((z.To).toNat)) (min (mt M4 ((z.cc).toNat) ((z.To).toNat)) z.cM.Hi)) ((z.To).toNat) ((z.cc).toNat))) U bQ (aQ (n:=(M4.set (((z.cc).toNat)*13+((z.To).toNat)) (min (mt M4 ((z.cc).toNat) ((z.To).toNat)) z.cM.Hi)).length) 8 U sm) (ez (i:=(z.To).toNat) (k:=(z.cc).toNat) (mE B.len) om om) U dc U)<|dP 3 [] (mc 0 U mn) ?_
  refine dS (NG U ⟨om,om⟩)<|dS (MN U)<|dS (SX (fc (k:=(z.To).toNat) U U U gO om om) U U)<|dS (SX (fb (k:=(z.cc).toNat) (m':=((((z.To).toNat)*13+((z.cc).toNat))*1)) U U U gR om om om) U U)<|cj<|dB (k:=(((z.To).toNat)*13+((z.cc).toNat))) (o:=0) (vs:=[(vI (min (mt (M4.set (((z.cc).toNat)*13+((z.To).toNat)) (min (mt M4 ((z.cc).toNat) ((z.To).toNat)) z.cM.Hi)) ((z.To).toNat) ((z.cc).toNat)) (-z.cM.Lo)))]) (es':=(List.map iC ((M4.set (((z.cc).toNat)*13+((z.To).toNat)) (min (mt M4 ((z.cc).toNat) ((z.To).toNat)) z.cM.Hi)).set (((z.To).toNat)*13+((z.cc).toNat)) (min (mt (M4.set (((z.cc).toNat)*13+((z.To).toNat)) (min (mt M4 ((z.cc).toNat) ((z.To).toNat)) z.cM.Hi)) ((z.To).toNat) ((z.cc).toNat)) (-z.cM.Lo))))) (C':=[_,_,_,_,_,_,_,_,(own (some ⟨K,0,none⟩) ((List.replicate 169 (0:Int)).length) 146 1 (List.map iC ((M4.set (((z.cc).toNat)*13+((z.To).toNat)) (min (mt M4 ((z.cc).toNat) ((z.To).toNat)) z.cM.Hi)).set (((z.To).toNat)*13+((z.cc).toNat)) (min (mt (M4.set (((z.cc).toNat)*13+((z.To).toNat)) (min (mt M4 ((z.cc).toNat) ((z.To).toNat)) z.cM.Hi)) ((z.To).toNat) ((z.cc).toNat)) (-z.cM.Lo)))))]) 8 U U U vw U U U U (ez (i:=(z.To).toNat) (k:=(z.cc).toNat) (mE B.len) om om) U dc (by exact (List.map_set (f:=iC) (l:=(M4.set (((z.cc).toNat)*13+((z.To).toNat)) (min (mt M4 ((z.cc).toNat) ((z.To).toNat)) z.cM.Hi))) (i:=(((z.To).toNat)*13+((z.cc).toNat))) (a:=(min (mt (M4.set (((z.cc).toNat)*13+((z.To).toNat)) (min (mt M4 ((z.cc).toNat) ((z.To).toNat)) z.cM.Hi)) ((z.To).toNat) ((z.cc).toNat)) (-z.cM.Lo)))).symm) U<|aB<|aI<|qq 7 U l0 U ?_
  refine aY (d ⟨((eV left q),((M4.set (((z.cc).toNat)*13+((z.To).toNat)) (min (mt M4 ((z.cc).toNat) ((z.To).toNat)) z.cM.Hi)).set (((z.To).toNat)*13+((z.cc).toNat)) (min (mt (M4.set (((z.cc).toNat)*13+((z.To).toNat)) (min (mt M4 ((z.cc).toNat) ((z.To).toNat)) z.cM.Hi)) ((z.To).toNat) ((z.cc).toNat)) (-z.cM.Lo)))),⟨ny F,by first|exact B|exact (B.less om om om om om om U).less om om om om om om U⟩⟩ _ _ _ U (ks hm) (bg U) (aN [1,2,3,4,5,6,7,8]))
 refine aU 1 U<|RK v<|al fun _ LB=>bw U<|bo<|ai<|ai<|aw<|KK J6<|al fun _ J8=>WS fun _ J9=>rP 1 [] mn ?_
 refine kS 7 U U U U (tT K ((List.replicate 169 (0:Int)).length) M4 (ts.length+1) om (by exact B.cl)) U m8 U (fun K8 Fn=>?_)
 obtain ⟨M9,K6⟩:=K8
 try dsimp only
 refine rP 1 [] mn ?_
 refine RK J9<|cd U (fun AB=>?_) (fun AB=>?_)
 ·rw [Bool.not_eq_true'] at AB
  refine WS fun _ J_=>rS (SX (aS (xs:=[]) (cs:=(ag.cells (ag.mk (aJ.mk none 0 0)))) U U (aT u0 U)) U U)<|BG U lI U<|rP 1 [] mn ?_
  refine RK J_<|an ?_
  refine LX hQ (false,0,[],none,0) [] [0] (mc 3 U mn) U U U ?_ ?_
  ·first|rfl|(simp only [cond_true]; rw [b.len]; rfl)
  ·exact ⟨fun q=>Bool.noConfusion q,fun _=>⟨U,trivial⟩⟩
 rw [Bool.not_eq_false'] at AB
 refine WK J8<|al fun _ KA=>?_
 have N:=Fn AB
 have J:rn (ts.length+1) false ts M9:=rn.of B N.1 N.2
 refine ao<|rP 4 [] (mc 1 U mn) ?_
 refine RK KA<|ar ?_
 have A:(0≤ts.length)∧(eL 0 0 ts ts):=by exact ⟨Nat.zero_le _,KX⟩
 refine br (ι:={z:Nat×(List ab) // (z.1≤ts.length)∧(eL z.1 0 ts z.2)}) [1,4,6,7,8,9,10,134] [0,1,3,4,5,6,7] U U (fun z=>[(135,(vI (z.1.1:Int)))]) (fun z=>[(own AA Z 73 9 (z.1.2.map ab.cells))]) (fun _=>rfl) (fun _=>rfl) (fun z=>ts.length-z.1.1) ⟨(0,ts),A⟩ (bg U) (aN [0,1,3,4,5,6,7,2]) ?_
 clear A
 rintro ⟨⟨u,U1⟩,⟨R,E⟩⟩ J67 Gw
 try dsimp only at R E
 try dsimp only
 refine WS fun _ KB=>rP 1 [] mn ?_
 refine RK KB<|al fun _ KC=>cd U (aM fun Kv=>?_) (aL fun Kv=>?_)
 ·refine WK KC<|al fun _ KD=>ar<|WS fun _ KE=>rP 2 [] mn ?_
  refine RK KE ?_
  have Ko:U1.length=ts.length:=E.len
  refine lq 7 U (by simp; omega) (fun S G=>?_)
  obtain ⟨x,hx⟩:=bh ts u om
  obtain ⟨y,hy⟩:=bh U1 u om
  have Y:=bp ab.cells hy
  have K3:=(show Cl (ts.length+1) (ts.length+1) M9 from N.1).ET om (show u<(ts.length+1) by omega) (show u+1<(ts.length+1) by omega)
  have K2:=(show Cl (ts.length+1) (ts.length+1) M9 from N.1).ET om (show u+1<(ts.length+1) by omega) (show u<(ts.length+1) by omega)
  refine dF cx 24 kr<|fQ 1 U<|dS (SX (sa (k:=1) (o':=1) U U U wO U dc U) U U)<|jA 5 [0,1] (mc 0 U (mc 1 U mn)) U<|dS (HP u U G l5 om om)<|dS (CL (wb AA S (u*9) (by exact G)) (av) U)<|fQ 3 U<|dS (SX (fc (k:=(u+1)) U U U gO om om) U U)<|dS (SX (fb (k:=u) (m':=(((u+1)*13+u)*1)) U U U gR om om om) U U)<|dS (fT ((u+1)*13+u) 0 (vI (mt M9 (u+1) u)) U bQ (aQ (n:=M9.length) 6 U sm) (ez (i:=(u+1)) (k:=u) J.len om om) U dc U)<|dS (NG U ⟨om,om⟩)<|fQ 3 U<|dS (SX (fc (k:=u) U U U gO om om) U U)<|dS (SX (fb (k:=(u+1)) (m':=((u*13+(u+1))*1)) U U U gR om om om) U U)<|dS (fT (u*13+(u+1)) 0 (vI (mt M9 u (u+1))) U bQ (aQ (n:=M9.length) 6 U sm) (ez (i:=u) (k:=(u+1)) J.len om om) U dc U)<|dS (SX (aS (xs:=[(0,.tmp 153),(1,.tmp 159)]) (cs:=(I.cells (I.mk (-(mt M9 (u+1) u)) (mt M9 u (u+1))))) U U (aT fm U)) U U)<|dS (SX (jB U U G) U U)<|cj<|dB (k:=u) (o:=1) (vs:=(I.cells (I.mk (-(mt M9 (u+1) u)) (mt M9 u (u+1))))) (es':=(List.map ab.cells (U1.set u (ab.mk y.Id (I.mk (-(mt M9 (u+1) u)) (mt M9 u (u+1))) y.dA y.cg y.ct y.kF)))) (C':=[_,_,_,_,_,_,_,(own AA Z 73 9 (List.map ab.cells (U1.set u (ab.mk y.Id (I.mk (-(mt M9 (u+1) u)) (mt M9 u (u+1))) y.dA y.cg y.ct y.kF))))]) 7 U U U cn U U U U Y U dc (by exact (List.map_set (f:=ab.cells) (l:=U1) (i:=u) (a:=(ab.mk y.Id (I.mk (-(mt M9 (u+1) u)) (mt M9 u (u+1))) y.dA y.cg y.ct y.kF))).symm) U<|aB<|aI<|KK KD<|ao<|rP 2 [] mn ?_
  refine aB ?_
  have Kj:(vI (((u+1):Nat):Int))=(vI ((u:Int)+1)):=by exact cI om
  refine aY (Gw ⟨((u+1),(U1.set u (ab.mk y.Id (I.mk (-(mt M9 (u+1) u)) (mt M9 u (u+1))) y.dA y.cg y.ct y.kF))),⟨om,E.EI hx hy ⟨by have:=J.at_ u x hx om; simp only [mP,cond_false] at this; simp only; omega,by have:=J.at_ u x hx om; simp only; omega,by have:=J.at_ u x hx om; simp only [mP,cond_false] at this; simp only; omega⟩⟩⟩ _ _ _ U os (b_ 8<|aR U Kj<|cL.nil _) (aN [0,1,2,3,4,5,6,7]))
 refine bo<|ai<|ai<|aw<|aI<|KK IO ?_
 have Di:eL ts.length 0 ts U1:=by have e:u=ts.length:=om; rw [e] at E; exact E
 refine ao<|aU 1 U<|rS (SX (bJ (r:= .int .i64 2) U U U (iZ ⟨dc,dc⟩)) U U)<|aU 1 U<|RK KY<|ey fun R74 KZ=>al fun _ KF=>WS fun _ KG=>rP 1 [] mn ?_
 refine rS (SX (bJ (r:= .bool true) U U U nU) U U)<|RK KG<|aC U<|WK KF<|al fun _ KH=>ar<|al fun _ KI=>Gy (C':=[(bm Kr 142 ((fJ.cells (fJ.mk Value.nilFunc))++(fJ.cells (fJ.mk (Value.func (.func 102) [].toArray [].toArray)))++(fJ.cells (fJ.mk (Value.func (.func 103) [].toArray [].toArray))))),(bm b9 24 (ag.cells (ag.mk (aJ.mk AA ts.length Z)))),(bm b3 24 (ag.cells (ag.mk (aJ.mk none 0 0)))),(rd tsA ts.length 9 (ts.map ab.cells)).ro,(nt iV gm (dM (fun s=>vA (bj.cells s)) ml)).ro,(own AA Z 73 9 (U1.map ab.cells))]) [0,1,2,3,4,7] U U ?_
 have LD:U1.length=ts.length:=Di.len
 refine ao ?_
 refine tx U zt U (by rw [List.length_replicate]; decide) fun L=>?_
 refine RK KI<|al fun _ KL=>WS fun _ KM=>rP 2 [] mn ?_
 refine RK KM<|ar ?_
 have A:(0≤(ts.length+1))∧(Wd (ts.length+1) 0 true ts (List.replicate 169 (0:Int))):=by exact ⟨Nat.zero_le _,.zero⟩
 refine br (ι:={z:Nat×(List Int) // (z.1≤(ts.length+1))∧(Wd (ts.length+1) 0 true ts z.2)}) [1,4,6,7,8,9,10,32] [1,2,3,4,5,6] U U (fun z=>[(33,(vI (z.1.1:Int)))]) (fun z=>[(own (some ⟨L,0,none⟩) ((List.replicate 169 (0:Int)).length) 146 1 (z.1.2.map iC))]) (fun _=>rfl) (fun _=>rfl) (fun z=>(ts.length+1)-z.1.1) ⟨(0,(List.replicate 169 (0:Int))),A⟩ (bg U) (aN [1,2,3,4,5,6,0]) ?_
 clear A
 rintro ⟨⟨i,M⟩,⟨T,H⟩⟩ J82 HA
 try dsimp only at T H
 try dsimp only
 refine WS fun _ KN=>rP 1 [] mn ?_
 refine RK KN<|al fun _ KO=>cd U (aM fun Kw=>?_) (aL fun Kw=>?_)
 ·refine WK KO<|al fun _ KP=>ar<|WS fun _ KQ=>aU 2 U<|RK KQ<|WS fun _ KR=>rP 2 [] mn ?_
  refine RK KR<|ar ?_
  have A:(0≤(ts.length+1))∧(Wd (ts.length+1) 0 true ts M):=by exact ⟨Nat.zero_le _,H⟩
  refine br (ι:={z:Nat×(List Int) // (z.1≤(ts.length+1))∧(Wd (ts.length+1) 0 true ts z.2)}) [1,4,6,7,8,9,10,11,32,33,36] [0,1,2,3,4,5] U U (fun z=>[(37,(vI (z.1.1:Int)))]) (fun z=>[(own (some ⟨L,0,none⟩) ((List.replicate 169 (0:Int)).length) 146 1 (z.1.2.map iC))]) (fun _=>rfl) (fun _=>rfl) (fun z=>(ts.length+1)-z.1.1) ⟨(0,M),A⟩ (bg U) (aN [0,1,2,3,4,5,6]) ?_
  clear A
  rintro ⟨⟨j,M2⟩,⟨O,C⟩⟩ J89 g
  try dsimp only at O C
  try dsimp only
  refine WS fun _ KS=>rP 1 [] mn ?_
  refine RK KS<|al fun _ KT=>bH U (aL fun V=>?_) (aM fun V=>?_)
  ·refine bo<|ai<|ai<|aw<|aI<|KK KP<|ao<|rP 2 [] mn ?_
   refine aB ?_
   have Km:(vI (((i+1):Nat):Int))=(vI ((i:Int)+1)):=by exact cI om
   refine aY (HA ⟨((i+1),M2),⟨om,C⟩⟩ _ _ _ U os (b_ 8<|aR U Km<|cL.nil _) (aN [0,1,2,3,4,5,6]))
  refine WK KT<|al fun _ w=>ar<|WS fun _ KU=>aU 2 U<|RK KU<|WS fun _ KV=>rP 3 [] mn ?_
  refine RK KV<|bH U (aO fun AC=>?_) (aP fun AC=>?_)
  ·refine bS<|aI<|KK w<|ao<|rP 2 [] mn ?_
   refine aB ?_
   have Kl:(vI (((j+1):Nat):Int))=(vI ((j:Int)+1)):=by exact cI om
   refine aY (g ⟨((j+1),M2),⟨om,by first|exact C.fill om om om om dc|exact C⟩⟩ _ _ _ U os (b_ 11<|aR U Kl<|cL.nil _) (aN [0,1,2,3,4,5,6]))
  refine ao<|aU 2 U<|rS (SX (fc (k:=i) U U U gO om om) U U)<|rS (SX (fb (k:=j) (m':=((i*13+j)*1)) U U U gR om om om) U U)<|dB (k:=(i*13+j)) (o:=0) (vs:=[(vI 1073741824)]) (es':=(List.map iC (M2.set (i*13+j) 1073741824))) (C':=[_,_,_,_,_,_,(own (some ⟨L,0,none⟩) ((List.replicate 169 (0:Int)).length) 146 1 (List.map iC (M2.set (i*13+j) 1073741824)))]) 6 U U U vw U U U U (ez (i:=i) (k:=j) C.len om om) U dc (by exact (List.map_set (f:=iC) (l:=M2) (i:=(i*13+j)) (a:=1073741824)).symm) U<|aB<|aI<|KK w<|ao<|rP 2 [] mn ?_
  refine aB ?_
  have Kk:(vI (((j+1):Nat):Int))=(vI ((j:Int)+1)):=by exact cI om
  refine aY (g ⟨((j+1),(M2.set (i*13+j) 1073741824)),⟨om,by first|exact C.fill om om om om dc|exact C⟩⟩ _ _ _ U os (b_ 11<|aR U Kk<|cL.nil _) (aN [0,1,2,3,4,5,6]))
 refine bo<|ai<|ai<|aw<|KK KL<|al fun _ KW=>WS fun _ AR=>rP 4 [] (mc 1 U mn) ?_
 refine RK AR<|ar ?_
 have A:(0≤U1.length)∧(Wd (ts.length+1) 0 true ts M):=by exact ⟨Nat.zero_le _,H⟩
 refine br (ι:={z:Nat×(List Int) // (z.1≤U1.length)∧(Wd (ts.length+1) z.1 true ts z.2)}) [1,4,6,7,8,9,10,51] [0,1,2,3,4,5] U U (fun z=>[(52,(vI (z.1.1:Int)))]) (fun z=>[(own (some ⟨L,0,none⟩) ((List.replicate 169 (0:Int)).length) 146 1 (z.1.2.map iC))]) (fun _=>rfl) (fun _=>rfl) (fun z=>U1.length-z.1.1) ⟨(0,M),A⟩ (bg U) (aN [0,1,2,3,4,5,6]) ?_
 clear A
 rintro ⟨⟨t,M3⟩,⟨P,D⟩⟩ J101 AH
 try dsimp only at P D
 try dsimp only
 refine WS fun _ Ak=>rP 1 [] mn ?_
 refine RK Ak<|al fun _ Ay=>cd U (aM fun GE=>?_) (aL fun GE=>?_)
 ·refine WK Ay<|al fun _ A0=>ar<|WS fun _ A1=>rP 2 [] mn ?_
  refine RK A1<|al fun _ A2=>?_
  refine lq 5 U (by simp; omega) (fun S G=>?_)
  obtain ⟨x,hx⟩:=bh ts t om
  have Fs:=hst x (aG hx)
  simp only [a_,aF] at Fs
  obtain ⟨y,hy⟩:=bh U1 t om
  have Y:=bp ab.cells hy
  have GD:y.dA=x.dA:=by have:=(Di.at_ t x y hx hy).2.2; rw [if_neg (Nat.not_lt_zero _)] at this; exact this
  have LI:(0≤y.dA.Lo∧y.dA.Lo≤5000)∧0≤y.dA.Hi∧y.dA.Hi≤5000:=by rw [GD]; omega
  refine dK cx [11,12] [] [] [0,1,2,3,4,5,6] [] U U U U U<|eS U (MV U)<|eS U (SX (sa (k:=2) (o':=2) U U U wO U dc U) U U)<|eS U (FA 2 U fh U)<|eS U (L1 (Value.func (.func 103) [].toArray [].toArray) 0 U bQ U U)<|eS U (FA 0 U fh U)<|eS U (L1 (vS AA ts.length Z) 1 U bQ U U)<|eS U (MV U)<|eS U (HP t U G l5 om om)<|eS U (CL (wQ AA S (t*9) (by exact G)) (av) U)<|eS U (SX (jB U U G) U U)<|eS U (jq t 3 (I.cells y.dA) U bQ (aQ (n:=U1.length) 5 U sm) Y U dc U U)<|eJ U<|bU U fun T108 Do=>AL U cv fun K9=>aB (Do _ _ (aN [1,2,3,4,5,6,7]) ?_)
  refine bU U fun T110 EQ=>eC U cn U<|aB (EQ _ _ (aN [1,2,3,4,5,6,7]) ?_)
  refine fx U<|KK A2<|dK cx [13,15,16] [12] [] [0,1,2,3,4,5,6] [0,1,2,3,4,5,6,7] U U U U U<|eS U (MV U)<|eS U (MV U)<|eS U (BI U (iZ ⟨om,om⟩))<|eS U (MV U)<|eS U (BI U (iZ ⟨om,om⟩))<|eS U (MV U)<|eS U (FA 1 U fh U)<|eS U (L1 (vI y.dA.Hi) 0 U bQ U U)<|eS U (FA 0 U fh U)<|eS U (L1 (vI y.dA.Lo) 0 U bQ U U)<|eS U (NG U ⟨om,om⟩)<|eS U (SX (fc (k:=t) U U U gO om om) U U)<|fS U (SX (fb (k:=(t+1)) (m':=((t*13+(t+1))*1)) U U U gR om om om) U U)<|eS U (SX (fc (k:=(t+1)) U U U gO om om) U U)<|eJ U<|bU U fun T111 ER=>dB (k:=(t*13+(t+1))) (o:=0) (vs:=[(vI y.dA.Hi)]) (es':=(List.map iC (M3.set (t*13+(t+1)) y.dA.Hi))) (C':=[_,_,_,_,_,_,_,(own (some ⟨L,0,none⟩) ((List.replicate 169 (0:Int)).length) 146 1 (List.map iC (M3.set (t*13+(t+1)) y.dA.Hi)))]) 7 U U U vw U U U U (ez (i:=t) (k:=(t+1)) D.len om om) U dc (by exact (List.map_set (f:=iC) (l:=M3) (i:=(t*13+(t+1))) (a:=y.dA.Hi)).symm) U<|aB (ER _ _ (aN [0,1,2,3,4,5,6]) ?_)
  refine bU U fun T112 Eq=>rS (SX (fb (k:=t) (m':=(((t+1)*13+t)*1)) U U U gR om om om) U U)<|aB (Eq _ _ (aN [0,1,2,3,4,5,6]) ?_)
  refine bU U fun T113 E5=>dB (k:=((t+1)*13+t)) (o:=0) (vs:=[(vI (-y.dA.Lo))]) (es':=(List.map iC ((M3.set (t*13+(t+1)) y.dA.Hi).set ((t+1)*13+t) (-y.dA.Lo)))) (C':=[_,_,_,_,_,_,_,(own (some ⟨L,0,none⟩) ((List.replicate 169 (0:Int)).length) 146 1 (List.map iC ((M3.set (t*13+(t+1)) y.dA.Hi).set ((t+1)*13+t) (-y.dA.Lo))))]) 7 U U U vw U U U U (ez (i:=(t+1)) (k:=t) (mE D.len) om om) U dc (by exact (List.map_set (f:=iC) (l:=(M3.set (t*13+(t+1)) y.dA.Hi)) (i:=((t+1)*13+t)) (a:=(-y.dA.Lo))).symm) U<|aB (E5 _ _ (aN [0,1,2,3,4,5,6]) ?_)
  refine fx U<|aI<|KK A0<|ao<|rP 2 [] mn ?_
  refine aB ?_
  have FN:(vI (((t+1):Nat):Int))=(vI ((t:Int)+1)):=by exact cI om
  refine aY (AH ⟨((t+1),((M3.set (t*13+(t+1)) y.dA.Hi).set ((t+1)*13+t) (-y.dA.Lo))),⟨om,D.wz om om hx (by show _=x.dA.Hi; rw [GD]) (by show _= -x.dA.Lo; rw [GD]) ⟨⟨om,om⟩,om,om⟩⟩⟩ _ _ _ U os (b_ 8<|aR U FN<|cL.nil _) (aN [1,2,3,4,5,6,7]))
 refine bo<|ai<|ai<|aw<|KK KW<|al fun _ A3=>WS fun _ A4=>rP 1 [] mn ?_
 refine mZ (kV:=iV) (m:=dM (fun s=>vA (bj.cells s)) ml) 4 U U E0 U ⟨U,fun h=>h⟩ (by exact pw 4 U) U fun Kp=>?_
 try dsimp only
 refine RK A4<|ar ?_
 have A:(∀ e∈ml,e∈ml)∧(Wd (ts.length+1) ts.length true ts M3):=by exact ⟨fun _ h=>h,by have e:t=ts.length:=om; subst e; exact D⟩
 refine br (ι:={z:(List (Int×bj))×(List Int) // (∀ e∈z.1,e∈ml)∧(Wd (ts.length+1) ts.length true ts z.2)}) [1,4,6,7,8,9,10,83] [1,2,3,4,5,6] U U (fun z=>[]) (fun z=>[(vC iV Kp gm (dM (fun s=>vA (bj.cells s)) ml) (dM (fun s=>vA (bj.cells s)) z.1.1) none),(own (some ⟨L,0,none⟩) ((List.replicate 169 (0:Int)).length) 146 1 (z.1.2.map iC))]) (fun _=>rfl) (fun _=>rfl) (fun z=>z.1.1.length) ⟨(ml,M3),A⟩ (cL.nil _) (aN [1,2,3,4,5,6,0,7]) ?_
 clear A
 rintro ⟨⟨left,M4⟩,⟨F,B⟩⟩ J118 W
 try dsimp only at F B
 try dsimp only
 refine WS fun _ X=>l8 (jc oe).inj (f:=(fun s=>vA (bj.cells s))) 6 U U U U (fun Kn=>?_) (fun q z hm K4=>?_)
 rotate_left 1
 ·try dsimp only
  refine rP 1 [] mn ?_
  refine RK X<|al fun _ Ck=>aC U<|WK Ck<|ar<|WS fun _ Cp=>rS (SX (l9 6 U U U) U U) ?_
  have Fd:=hmm _ (F _ hm)
  simp only [eW,aF] at Fd
  refine aU 1 U<|AL U zW fun K_=>eC U yI U<|RK Cp<|WS fun _ Cx=>dE 2 [] (mc 0 U mn) U<|rS (SX (fP (m:=z.Kind) U U vX oe (eo (by first|assumption|omega))) U U)<|rP 2 [] mn ?_
  refine RK Cx<|bH U (aL fun V=>?_) (aM fun V=>?_)
  ·refine bS<|aI<|qq 7 U l0 U ?_
   refine aY (W ⟨((eV left q),M4),⟨ny F,by first|exact B|exact (B.less om om om om om om U).less om om om om om om U⟩⟩ _ _ _ U (ks hm) (bg U) (aN [1,2,3,4,5,6,7,8]))
  refine al fun _ C0=>dF cx 17 kr<|jA 8 [] (mc 0 U mn) U<|dS (SX (fc (k:=(z.cc).toNat) U U U gO om om) U U)<|dS (SX (fb (k:=(z.To).toNat) (m':=((((z.cc).toNat)*13+((z.To).toNat))*1)) U U U gR om om om) U U)<|dS (fT (((z.cc).toNat)*13+((z.To).toNat)) 0 (vI (mt M4 ((z.cc).toNat) ((z.To).toNat))) U bQ (aQ (n:=M4.length) 8 U sm) (ez (i:=(z.cc).toNat) (k:=(z.To).toNat) B.len om om) U dc U)<|jA 3 [] (mc 0 U mn) U<|dS (MN U)<|dS (SX (fc (k:=(z.cc).toNat) U U U gO om om) U U)<|dS (SX (fb (k:=(z.To).toNat) (m':=((((z.cc).toNat)*13+((z.To).toNat))*1)) U U U gR om om om) U U)<|cj<|dB (k:=(((z.cc).toNat)*13+((z.To).toNat))) (o:=0) (vs:=[(vI (min (mt M4 ((z.cc).toNat) ((z.To).toNat)) z.cM.Hi))]) (es':=(List.map iC (M4.set (((z.cc).toNat)*13+((z.To).toNat)) (min (mt M4 ((z.cc).toNat) ((z.To).toNat)) z.cM.Hi)))) (C':=[_,_,_,_,_,_,_,_,(own (some ⟨L,0,none⟩) ((List.replicate 169 (0:Int)).length) 146 1 (List.map iC (M4.set (((z.cc).toNat)*13+((z.To).toNat)) (min (mt M4 ((z.cc).toNat) ((z.To).toNat)) z.cM.Hi))))]) 8 U U U vw U U U U (ez (i:=(z.cc).toNat) (k:=(z.To).toNat) B.len om om) U dc (by exact (List.map_set (f:=iC) (l:=M4) (i:=(((z.cc).toNat)*13+((z.To).toNat))) (a:=(min (mt M4 ((z.cc).toNat) ((z.To).toNat)) z.cM.Hi))).symm) U<|RK C0<|dF cx 18 kr<|jA 8 [] (mc 0 U mn) U<|dS (SX (fc (k:=(z.To).toNat) U U U gO om om) U U)<|dS (SX (fb (k:=(z.cc).toNat) (m':=((((z.To).toNat)*13+((z.cc).toNat))*1)) U U U gR om om om) U U)<|dS (fT (((z.To).toNat)*13+((z.cc).toNat)) 0 (vI (mt (M4.set (((z.cc).toNat)*13+((z.To).toNat)) (min (mt M4 ((z.cc).toNat) ((z.To).toNat)) z.cM.Hi)) ((z.To).toNat) ((z.cc).toNat))) U bQ (aQ (n:=(M4.set (((z.cc).toNat)*13+((z.To).toNat)) (min (mt M4 ((z.cc).toNat) ((z.To).toNat)) z.cM.Hi)).length) 8 U sm) (ez (i:=(z.To).toNat) (k:=(z.cc).toNat) (mE B.len) om om) U dc U)<|dP 3 [] (mc 0 U mn) ?_
  refine dS (NG U ⟨om,om⟩)<|dS (MN U)<|dS (SX (fc (k:=(z.To).toNat) U U U gO om om) U U)<|dS (SX (fb (k:=(z.cc).toNat) (m':=((((z.To).toNat)*13+((z.cc).toNat))*1)) U U U gR om om om) U U)<|cj<|dB (k:=(((z.To).toNat)*13+((z.cc).toNat))) (o:=0) (vs:=[(vI (min (mt (M4.set (((z.cc).toNat)*13+((z.To).toNat)) (min (mt M4 ((z.cc).toNat) ((z.To).toNat)) z.cM.Hi)) ((z.To).toNat) ((z.cc).toNat)) (-z.cM.Lo)))]) (es':=(List.map iC ((M4.set (((z.cc).toNat)*13+((z.To).toNat)) (min (mt M4 ((z.cc).toNat) ((z.To).toNat)) z.cM.Hi)).set (((z.To).toNat)*13+((z.cc).toNat)) (min (mt (M4.set (((z.cc).toNat)*13+((z.To).toNat)) (min (mt M4 ((z.cc).toNat) ((z.To).toNat)) z.cM.Hi)) ((z.To).toNat) ((z.cc).toNat)) (-z.cM.Lo))))) (C':=[_,_,_,_,_,_,_,_,(own (some ⟨L,0,none⟩) ((List.replicate 169 (0:Int)).length) 146 1 (List.map iC ((M4.set (((z.cc).toNat)*13+((z.To).toNat)) (min (mt M4 ((z.cc).toNat) ((z.To).toNat)) z.cM.Hi)).set (((z.To).toNat)*13+((z.cc).toNat)) (min (mt (M4.set (((z.cc).toNat)*13+((z.To).toNat)) (min (mt M4 ((z.cc).toNat) ((z.To).toNat)) z.cM.Hi)) ((z.To).toNat) ((z.cc).toNat)) (-z.cM.Lo)))))]) 8 U U U vw U U U U (ez (i:=(z.To).toNat) (k:=(z.cc).toNat) (mE B.len) om om) U dc (by exact (List.map_set (f:=iC) (l:=(M4.set (((z.cc).toNat)*13+((z.To).toNat)) (min (mt M4 ((z.cc).toNat) ((z.To).toNat)) z.cM.Hi))) (i:=(((z.To).toNat)*13+((z.cc).toNat))) (a:=(min (mt (M4.set (((z.cc).toNat)*13+((z.To).toNat)) (min (mt M4 ((z.cc).toNat) ((z.To).toNat)) z.cM.Hi)) ((z.To).toNat) ((z.cc).toNat)) (-z.cM.Lo)))).symm) U<|aB<|aI<|qq 7 U l0 U ?_
  refine aY (W ⟨((eV left q),((M4.set (((z.cc).toNat)*13+((z.To).toNat)) (min (mt M4 ((z.cc).toNat) ((z.To).toNat)) z.cM.Hi)).set (((z.To).toNat)*13+((z.cc).toNat)) (min (mt (M4.set (((z.cc).toNat)*13+((z.To).toNat)) (min (mt M4 ((z.cc).toNat) ((z.To).toNat)) z.cM.Hi)) ((z.To).toNat) ((z.cc).toNat)) (-z.cM.Lo)))),⟨ny F,by first|exact B|exact (B.less om om om om om om U).less om om om om om om U⟩⟩ _ _ _ U (ks hm) (bg U) (aN [1,2,3,4,5,6,7,8]))
 refine aU 1 U<|RK X<|al fun _ Ky=>bw U<|bo<|ai<|ai<|aw<|KK A3<|al fun _ A5=>WS fun _ A6=>rP 1 [] mn ?_
 refine kS 7 U U U U (tT L ((List.replicate 169 (0:Int)).length) M4 (ts.length+1) om (by exact B.cl)) U m8 U (fun Kq Fn=>?_)
 obtain ⟨M9,K6⟩:=Kq
 try dsimp only
 refine rP 1 [] mn ?_
 refine RK A6<|cd U (fun AB=>?_) (fun AB=>?_)
 ·rw [Bool.not_eq_true'] at AB
  refine WS fun _ A7=>rS (SX (aS (xs:=[]) (cs:=(ag.cells (ag.mk (aJ.mk none 0 0)))) U U (aT u0 U)) U U)<|sT U lI U<|rP 1 [] mn ?_
  refine RK A7<|an ?_
  refine LX hQ (false,0,[],none,0) [] [0] (mc 2 U mn) U U U ?_ ?_
  ·first|rfl|(simp only [cond_true]; rw [b.len]; rfl)
  ·exact ⟨fun q=>Bool.noConfusion q,fun _=>⟨U,trivial⟩⟩
 rw [Bool.not_eq_false'] at AB
 refine WK A5<|al fun _ A8=>?_
 have N:=Fn AB
 have J:rn (ts.length+1) true ts M9:=rn.of B N.1 N.2
 refine ao<|rP 4 [] (mc 1 U mn) ?_
 refine RK A8<|ar ?_
 have A:(0≤ts.length)∧(eL ts.length 0 ts U1):=by exact ⟨Nat.zero_le _,Di⟩
 refine br (ι:={z:Nat×(List ab) // (z.1≤ts.length)∧(eL ts.length z.1 ts z.2)}) [1,4,6,7,8,9,10,134] [0,1,2,3,4,6,7] U U (fun z=>[(135,(vI (z.1.1:Int)))]) (fun z=>[(own AA Z 73 9 (z.1.2.map ab.cells))]) (fun _=>rfl) (fun _=>rfl) (fun z=>ts.length-z.1.1) ⟨(0,U1),A⟩ (bg U) (aN [0,1,2,3,4,6,7,5]) ?_
 clear A
 rintro ⟨⟨u,U2⟩,⟨R,E⟩⟩ J126 AO
 try dsimp only at R E
 try dsimp only
 refine WS fun _ A9=>rP 1 [] mn ?_
 refine RK A9<|al fun _ Bf=>bH U (aL fun GT=>?_) (aM fun GT=>?_)
 ·refine bo<|ai<|ai<|aw<|aI<|KK KH ?_
  have b:eL ts.length ts.length ts U2:=by have e:u=ts.length:=om; rw [e] at E; exact E
  refine ao<|aU 1 U<|rS (SX (bJ (r:= .int .i64 3) U U U (iZ ⟨dc,dc⟩)) U U)<|aU 1 U<|RK KZ<|ey fun R133 K1=>al fun _ Kz=>WS fun _ B9=>aU 1 U<|rS (SX (bJ (r:= .bool false) U U U nU) U U)<|RK B9<|bw U<|bo<|ai<|ai<|aw<|KK Ho<|WS fun _ Ci=>dE 1 [] (mc 1 U mn) U<|sT U lI U<|rP 1 [] mn ?_
  refine RK Ci<|an ?_
  refine LX hQ (true,0,U2,AA,Z) [7] [0] (mc 2 U mn) U U U ?_ ?_
  ·first|rfl|(simp only [cond_true]; rw [b.len]; rfl)
  ·exact ⟨fun _=>b,fun q=>Bool.noConfusion q⟩
 refine WK Bf<|al fun _ Bl=>ar<|WS fun _ Bs=>rP 2 [] mn ?_
 refine RK Bs ?_
 have Ko:U2.length=ts.length:=E.len
 refine lq 7 U (by simp; omega) (fun S G=>?_)
 obtain ⟨x,hx⟩:=bh ts u om
 obtain ⟨y,hy⟩:=bh U2 u om
 have Y:=bp ab.cells hy
 have K3:=(show Cl (ts.length+1) (ts.length+1) M9 from N.1).ET om (show u<(ts.length+1) by omega) (show u+1<(ts.length+1) by omega)
 have K2:=(show Cl (ts.length+1) (ts.length+1) M9 from N.1).ET om (show u+1<(ts.length+1) by omega) (show u<(ts.length+1) by omega)
 refine dF cx 24 kr<|fQ 1 U<|dS (SX (sa (k:=2) (o':=2) U U U wO U dc U) U U)<|jA 5 [0,1] (mc 0 U (mc 1 U mn)) U<|dS (HP u U G l5 om om)<|dS (CL (wQ AA S (u*9) (by exact G)) (av) U)<|fQ 3 U<|dS (SX (fc (k:=(u+1)) U U U gO om om) U U)<|dS (SX (fb (k:=u) (m':=(((u+1)*13+u)*1)) U U U gR om om om) U U)<|dS (fT ((u+1)*13+u) 0 (vI (mt M9 (u+1) u)) U bQ (aQ (n:=M9.length) 6 U sm) (ez (i:=(u+1)) (k:=u) J.len om om) U dc U)<|dS (NG U ⟨om,om⟩)<|fQ 3 U<|dS (SX (fc (k:=u) U U U gO om om) U U)<|dS (SX (fb (k:=(u+1)) (m':=((u*13+(u+1))*1)) U U U gR om om om) U U)<|dS (fT (u*13+(u+1)) 0 (vI (mt M9 u (u+1))) U bQ (aQ (n:=M9.length) 6 U sm) (ez (i:=u) (k:=(u+1)) J.len om om) U dc U)<|dS (SX (aS (xs:=[(0,.tmp 153),(1,.tmp 159)]) (cs:=(I.cells (I.mk (-(mt M9 (u+1) u)) (mt M9 u (u+1))))) U U (aT fm U)) U U)<|dS (SX (jB U U G) U U)<|cj<|dB (k:=u) (o:=3) (vs:=(I.cells (I.mk (-(mt M9 (u+1) u)) (mt M9 u (u+1))))) (es':=(List.map ab.cells (U2.set u (ab.mk y.Id y.di (I.mk (-(mt M9 (u+1) u)) (mt M9 u (u+1))) y.cg y.ct y.kF)))) (C':=[_,_,_,_,_,_,_,(own AA Z 73 9 (List.map ab.cells (U2.set u (ab.mk y.Id y.di (I.mk (-(mt M9 (u+1) u)) (mt M9 u (u+1))) y.cg y.ct y.kF))))]) 7 U U U cn U U U U Y U dc (by exact (List.map_set (f:=ab.cells) (l:=U2) (i:=u) (a:=(ab.mk y.Id y.di (I.mk (-(mt M9 (u+1) u)) (mt M9 u (u+1))) y.cg y.ct y.kF))).symm) U<|aB<|aI<|KK Bl<|ao<|rP 2 [] mn ?_
 refine aB ?_
 have FS:(vI (((u+1):Nat):Int))=(vI ((u:Int)+1)):=by exact cI om
 refine aY (AO ⟨((u+1),(U2.set u (ab.mk y.Id y.di (I.mk (-(mt M9 (u+1) u)) (mt M9 u (u+1))) y.cg y.ct y.kF))),⟨om,E.E2 hx hy ⟨by have:=J.at_ u x hx om; simp only [mP,cond_true] at this; simp only; omega,by have:=J.at_ u x hx om; simp only; omega,by have:=J.at_ u x hx om; simp only [mP,cond_true] at this; simp only; omega⟩⟩⟩ _ _ _ U os (b_ 8<|aR U FS<|cL.nil _) (aN [0,1,2,3,4,5,6,7]))
end
section
open Go.RowKit
theorem zA (ts:List ab) (tsA:OA) (tsC:Nat) (l:List bj) (lA:OA) (lC:Nat) (htr:a9 ts=true) (hside: ∀ x∈ts,0≤x.ct∧x.ct≤255) (hmo:h_ l ts.length):
 lx Tryz.prog 10 [(vA (ag.cells (ag.mk (aJ.mk tsA ts.length tsC)))),(vS lA l.length lC)] [(rd tsA ts.length 9 (ts.map ab.cells)),(rd lA l.length 5 (l.map bj.cells))] (fun (x:Bool×Int×(List ab)×(OA)×Nat)=>bif x.1 then (vT [(vA (ag.cells (ag.mk (aJ.mk x.2.2.2.1 x.2.2.1.length x.2.2.2.2)))),(vI 0)]) else (vT [(vA (ag.cells (ag.mk (aJ.mk none 0 0)))),(vI x.2.1)])) (fun (x:Bool×Int×(List ab)×(OA)×Nat)=>(x.1=true→eL ts.length ts.length ts x.2.2.1)∧(x.1=false→(x.2.1=8∧True))) (fun (x:Bool×Int×(List ab)×(OA)×Nat)=>bif x.1 then [(own x.2.2.2.1 x.2.2.2.2 73 9 (x.2.2.1.map ab.cells))] else []):=by
 have K:=cw htr
 have V:=l4 htr
 have W:=bT htr
 have f:=hmo.1
 refine dT kr Tryz.func10 U U fun k Q hQ hN=>?_
 try dsimp only
 refine WS fun _ T=>ej U fun h=>AL U qV fun i=>aU 1 U<|RK T<|WS fun _ AA=>rP 2 [] (mc 1 U mn) ?_
 refine cX (uL ts tsA tsC l lA lC htr hside (by exact hmo)) (aX [2,3]) U fun g X=>?_
 obtain ⟨S,Y⟩:=g
 try dsimp only
 have L:=X
 refine aU 4 U<|AL U uN fun j=>eC U vj U<|aU 2 U<|RK AA<|al fun _ C=>WS fun _ D=>aU 1 U<|rS (SX (bJ (r:= .bool false) U U U fW) U U)<|RK D<|bw U<|WK C<|WS fun _ A=>rP 2 [] (mc 0 U mn) ?_
 refine cX (EU ts tsA tsC S Y (by exact W) (by exact K) (by exact V) (by exact fun e he=>hmo.2 _ (L e he))) (aX [4,1]) U fun Z B=>?_
 obtain ⟨N,a,O,P,R⟩:=Z
 cases N
 rotate_left 1
 ·obtain M:=B.1 rfl
  try dsimp only [cond_true,cond_false,List.cons_append,List.nil_append]
  refine aU 3 U<|AL U qV fun d=>eC U lI U<|aU 1 U<|RK A<|al fun _ G=>WS fun _ H=>aU 2 U<|RK H<|bw U<|WK G<|WS fun _ AB=>dE 1 [] (mc 0 U mn) U<|Jn U lI U<|rP 1 [] mn ?_
  refine RK AB<|an<|LX hQ (true,0,O,P,R) [1] [0] (mc 4 U mn) U U U U ?_
  exact ⟨fun _=>M,fun q=>Bool.noConfusion q⟩
 obtain ⟨J,he⟩:=B.2 rfl
 try dsimp only at J he
 subst J
 try dsimp only [cond_true,cond_false,List.cons_append,List.nil_append]
 refine aU 3 U<|AL U qV fun c=>eC U lI U<|aU 1 U<|RK A<|al fun _ b=>WS fun _ E=>aU 2 U<|RK E<|aC U<|WS fun _ F=>rS (SX (aS (xs:=[]) (cs:=(ag.cells (ag.mk (aJ.mk none 0 0)))) U U (aT u0 U)) U U)<|BG U lI U<|rP 1 [] mn ?_
 refine RK F<|an<|LX hQ (false,8,[],none,0) [] [0] (mc 3 U mn) U U U U ?_
 exact ⟨fun q=>Bool.noConfusion q,fun _=>⟨U,trivial⟩⟩
end
section
open Go.RowKit
theorem CM (n lo hi:Int) (g1 g2:Nat):
 cz Tryz.prog 75 [(vI n),(vP g1),(vP g2)] [(bm g1 3 [(vI lo)]),(bm g2 3 [(vI hi)])] (vB (decide (n<lo∨hi<n))):=by
 refine bf kr Tryz.func75 U U fun D Q hQ hN=>?_
 try dsimp only
 refine WS fun _ B=>aU 1 U<|RK B<|WS fun _ A=>rP 4 [] (mr 0 U mn) ?_
 refine bx (t:=8) U (aM fun C=>?_) (aL fun C=>?_)
 ·refine rP 5 [] mn ?_
  refine RK A<|an<|Q1 hQ U U U ?_
  exact cB (bY om).symm
 refine rP 5 [] (mr 1 U mn) ?_
 refine RK A<|an<|Q1 hQ U U U ?_
 exact cB (eH.2 om)
theorem jm (lo hi:Int) (l:List Int) (lA:OA) (lC:Nat) (hlen:l.length≤1000000):
 cz Tryz.prog 38 [(vI lo),(vI hi),(vS lA l.length lC)] [(rd lA l.length 1 (l.map iC))] (vB (jZ lo hi l)):=by
 refine bf kr Tryz.func38 U U fun F Q hQ hN=>?_
 try dsimp only
 refine WS fun _ D=>o4 U U fun A=>o4 U U fun B=>aU 1 U<|RK D<|WS fun _ E=>rP 1 [] mn ?_
 refine rS (FU U) ?_
 refine rS (CL (jI l lA lC (Value.func (.func 75) [].toArray [(vP A),(vP B)].toArray) (fun C=>(decide (C<lo∨hi<C))) (ky [(bm A 3 [(vI lo)]),(bm B 3 [(vI hi)])]) (by intro C _; exact hZ (fi:=[]) (ca:=[(vP A),(vP B)]) (gu (CM C lo hi A B) (aX [0,1]))) hlen) (eM 2 U U<|aK (gJ (aX [1,0]))<|av) U) ?_
 refine rP 2 [] mn ?_
 refine RK E<|an ?_
 exact Q1 hQ U U U U
theorem mC (s:I) (lo hi:Int):
 cz Tryz.prog 141 [(vA (I.cells s)),(vI lo),(vI hi)] [] (vB (decide (s.Lo≤s.Hi∧lo≤s.Lo∧s.Hi≤hi))):=by
 refine bf kr Tryz.func141 U U fun F Q hQ hN=>?_
 try dsimp only
 refine WS fun _ B=>ej U fun E=>aU 1 U<|RK B<|WS fun _ A=>rP 6 [] (mc 0 U mn) ?_
 refine bX (xs:=[.tmp 10,.tmp 12]) (cs:=[(vI s.Lo),(vI s.Hi)]) U cK g6 U U U U (by simp [Value.cells]) U U fun C=>?_
 refine rS (CL (cz.eq (jm lo hi ([s.Lo,s.Hi]) (some ⟨C,0,none⟩) 2 sd) kq) (aK (aH 0 U U (by simp [bq]) U)<|av) U) ?_
 refine rP 1 [] mn ?_
 refine dq (t:=15) U (aL fun D=>?_) (aM fun D=>?_)
 ·refine rP 7 [] mn ?_
  refine RK A<|an<|Q1 hQ U U U ?_
  exact cB (aD om).symm
 refine rP 7 [] (mc 1 U mn) ?_
 refine RK A<|an<|Q1 hQ U U U ?_
 exact cB (eH.2 om)
theorem DG (b:bG) (hb:eF b):
 cz Tryz.prog 140 [(vA (bG.cells b))] [] (vB false):=by
 have C:=hb
 simp only [eF,aF] at C
 refine bf kr Tryz.func140 U U fun G Q hQ hN=>?_
 try dsimp only
 refine WS fun _ B=>ej U fun F=>aU 1 U<|RK B<|WS fun _ A=>aU 1 U<|rS (LP (I.cells b.lH) 0 U bQ U U U)<|rS (CL (mC b.lH 0 2000) (av) U)<|rP 2 [] mn ?_
 refine bx (t:=7) U (aP fun E=>?_) (aO fun E=>?_)
 ·refine rP 7 [] mn ?_
  refine RK A<|an<|Q1 hQ U U U ?_
  first|rfl|(simp; omega)|(exfalso; omega)
 refine rP 2 [] (mc 0 U mn) ?_
 refine bX (xs:=[.tmp 9]) (cs:=[(vI b.v_)]) U cK g6 U U U U (by simp [Value.cells]) U U fun D=>?_
 refine rS (CL (cz.eq (jm 0 9 ([b.v_]) (some ⟨D,0,none⟩) 1 sd) bR) (aK (aH 0 U U (by simp [bq]) U)<|av) U) ?_
 refine rP 3 [] mn ?_
 refine RK A<|an<|Q1 hQ U U U ?_
 first|rfl|(simp; omega)|(exfalso; omega)
theorem CC (h:aZ) (hb:dH h):
 cz Tryz.prog 142 [(vA (aZ.cells h))] [] (vB false):=by
 have C:=hb
 simp only [dH,aF] at C
 refine bf kr Tryz.func142 U U fun AA Q hQ hN=>?_
 try dsimp only
 refine WS fun _ B=>ej U fun H=>aU 1 U<|RK B<|WS fun _ A=>aU 1 U<|rS (LP (I.cells h.kx) 0 U bQ U U U)<|rS (CL (mC h.kx 0 50) (av) U)<|rP 2 [] mn ?_
 refine bx (t:=7) U (aP fun F=>?_) (aO fun F=>?_)
 ·refine rP 14 [] mn ?_
  refine RK A<|an<|Q1 hQ U U U ?_
  first|rfl|(simp; omega)|(exfalso; omega)
 refine rP 2 [] (mc 0 U mn) ?_
 refine bX (xs:=[.tmp 9]) (cs:=[(vI h.o7)]) U cK g6 U U U U (by simp [Value.cells]) U U fun D=>?_
 refine rS (CL (cz.eq (jm 0 60 ([h.o7]) (some ⟨D,0,none⟩) 1 sd) bR) (aK (aH 0 U U (by simp [bq]) U)<|av) U) ?_
 refine rP 3 [] mn ?_
 refine bx (t:=14) U (aP fun G=>?_) (aO fun G=>?_)
 ·refine rP 7 [] mn ?_
  refine RK A<|an<|Q1 hQ U U U ?_
  first|rfl|(simp; omega)|(exfalso; omega)
 refine rP 2 [] (mc 1 U mn) ?_
 refine bX (xs:=[.tmp 16]) (cs:=[(vI h.o2)]) U cK g6 U U U U (by simp [Value.cells]) U U fun E=>?_
 refine rS (CL (cz.eq (jm 0 12 ([h.o2]) (some ⟨E,0,none⟩) 1 sd) bR) (aK (aH 0 U U (by simp [bq]) U)<|av) U) ?_
 refine rP 3 [] mn ?_
 refine RK A<|an<|Q1 hQ U U U ?_
 first|rfl|(simp; omega)|(exfalso; omega)
theorem Al (l:List bG) (lA:OA) (lC:Nat) (f:Value) (p:bG→Bool) (X:au) (hf: ∀ x0,x0∈l→sR Tryz.prog f [.agg (bG.cells x0).toArray] [X] (.bool (p x0))) (hlen:l.length≤1000000) (hno: ∀ x∈l,p x=false):
 cz Tryz.prog 163 [(vS lA l.length lC),f] [(rd lA l.length 3 (l.map bG.cells)),X] (vI (-1)):=by
 refine bf kr Tryz.func163 U U fun P Q hQ hN=>?_
 try dsimp only
 refine WS fun _ F=>aU 1 U<|RK F<|al fun _ G=>WS fun _ H=>rP 3 [] mn ?_
 refine RK H<|ar ?_
 have A:(0≤l.length):=by exact Nat.zero_le _
 refine br (ι:={z:Nat // (z≤l.length)}) [0,1,7] [0,1] U U (fun z=>[(8,(vI (z.1:Int)))]) (fun z=>[]) (fun _=>rfl) (fun _=>rfl) (fun z=>l.length-z.1) ⟨0,A⟩ (bg U) (aN [0,1]) ?_
 clear A
 rintro ⟨i,M⟩ J4 E
 try dsimp only
 refine WS fun _ AA=>rP 1 [] mn ?_
 refine RK AA<|al fun _ J=>bH U (aL fun O=>?_) (aM fun O=>?_)
 ·refine bo<|ai<|ai<|aw<|KK G<|WS fun _ C=>rP 1 [] mn ?_
  refine RK C<|an<|Q1 hQ U U U ?_
  exact cI om
 refine WK J<|al fun _ K=>ar<|WS fun _ L=>aU 2 U<|RK L<|WS fun _ B=>rP 3 [] mn ?_
 obtain ⟨x,hx⟩:=bh l i om
 have N:=bp bG.cells hx
 refine rS (IA i U (ay 0 U) lJ dc om om)<|rS (jq i 0 (bG.cells x) U bQ (ay 0 U) N U dc U U)<|rS (SX (kb U U U (hf x (aG hx)) (aX [1])) U U)<|RK B<|cd U (fun hp=>?_) (fun hp=>?_)
 ·rw [hno _ (aG hx)] at hp; exact Bool.noConfusion hp
 refine bS<|aI<|KK K<|ao<|rP 2 [] mn ?_
 refine aB ?_
 have D:(vI (((i+1):Nat):Int))=(vI ((i:Int)+1)):=by exact cI om
 refine aY (E ⟨(i+1),(by first|omega|(simp only []; omega))⟩ _ _ _ U os (b_ 3<|aR U D<|cL.nil _) (aN [0,1]))
theorem zu (l:List bG) (lA:OA) (lC:Nat) (f:Value) (p:bG→Bool) (X:au) (hf: ∀ x0,x0∈l→sR Tryz.prog f [.agg (bG.cells x0).toArray] [X] (.bool (p x0))) (hlen:l.length≤1000000) (hno: ∀ x∈l,p x=false):
 cz Tryz.prog 143 [(vS lA l.length lC),f] [(rd lA l.length 3 (l.map bG.cells)),X] (vB false):=by
 refine bf kr Tryz.func143 U U fun C Q hQ hN=>?_
 try dsimp only
 refine WS fun _ A=>aU 1 U<|RK A<|WS fun _ B=>aU 2 U<|rS (CL (Al l lA lC f p X (by exact hf) hlen hno) (aX [0,1]) U)<|rS (SX (bJ (r:= .bool false) U U U pV) U U)<|rP 1 [] mn ?_
 refine RK B<|an<|Q1 hQ U U U ?_
 first|rfl|(simp; done)
theorem xz (l:List aZ) (lA:OA) (lC:Nat) (f:Value) (p:aZ→Bool) (X:au) (hf: ∀ x0,x0∈l→sR Tryz.prog f [.agg (aZ.cells x0).toArray] [X] (.bool (p x0))) (hlen:l.length≤1000000) (hno: ∀ x∈l,p x=false):
 cz Tryz.prog 164 [(vS lA l.length lC),f] [(rd lA l.length 5 (l.map aZ.cells)),X] (vI (-1)):=by
 refine bf kr Tryz.func164 U U fun P Q hQ hN=>?_
 try dsimp only
 refine WS fun _ F=>aU 1 U<|RK F<|al fun _ G=>WS fun _ H=>rP 3 [] mn ?_
 refine RK H<|ar ?_
 have A:(0≤l.length):=by exact Nat.zero_le _
 refine br (ι:={z:Nat // (z≤l.length)}) [0,1,7] [0,1] U U (fun z=>[(8,(vI (z.1:Int)))]) (fun z=>[]) (fun _=>rfl) (fun _=>rfl) (fun z=>l.length-z.1) ⟨0,A⟩ (bg U) (aN [0,1]) ?_
 clear A
 rintro ⟨i,M⟩ J4 E
 try dsimp only
 refine WS fun _ AA=>rP 1 [] mn ?_
 refine RK AA<|al fun _ J=>bH U (aL fun O=>?_) (aM fun O=>?_)
 ·refine bo<|ai<|ai<|aw<|KK G<|WS fun _ C=>rP 1 [] mn ?_
  refine RK C<|an<|Q1 hQ U U U ?_
  exact cI om
 refine WK J<|al fun _ K=>ar<|WS fun _ L=>aU 2 U<|RK L<|WS fun _ B=>rP 3 [] mn ?_
 obtain ⟨x,hx⟩:=bh l i om
 have N:=bp aZ.cells hx
 refine rS (IA i U (ay 0 U) lu dc om om)<|rS (jq i 0 (aZ.cells x) U bQ (ay 0 U) N U dc U U)<|rS (SX (kb U U U (hf x (aG hx)) (aX [1])) U U)<|RK B<|cd U (fun hp=>?_) (fun hp=>?_)
 ·rw [hno _ (aG hx)] at hp; exact Bool.noConfusion hp
 refine bS<|aI<|KK K<|ao<|rP 2 [] mn ?_
 refine aB ?_
 have D:(vI (((i+1):Nat):Int))=(vI ((i:Int)+1)):=by exact cI om
 refine aY (E ⟨(i+1),(by first|omega|(simp only []; omega))⟩ _ _ _ U os (b_ 3<|aR U D<|cL.nil _) (aN [0,1]))
theorem xI (l:List aZ) (lA:OA) (lC:Nat) (f:Value) (p:aZ→Bool) (X:au) (hf: ∀ x0,x0∈l→sR Tryz.prog f [.agg (aZ.cells x0).toArray] [X] (.bool (p x0))) (hlen:l.length≤1000000) (hno: ∀ x∈l,p x=false):
 cz Tryz.prog 144 [(vS lA l.length lC),f] [(rd lA l.length 5 (l.map aZ.cells)),X] (vB false):=by
 refine bf kr Tryz.func144 U U fun C Q hQ hN=>?_
 try dsimp only
 refine WS fun _ A=>aU 1 U<|RK A<|WS fun _ B=>aU 2 U<|rS (CL (xz l lA lC f p X (by exact hf) hlen hno) (aX [0,1]) U)<|rS (SX (bJ (r:= .bool false) U U U pV) U U)<|rP 1 [] mn ?_
 refine RK B<|an<|Q1 hQ U U U ?_
 first|rfl|(simp; done)
theorem yX (c:dx) (kA:OA) (kC:Nat) (bdA:OA) (bdC:Nat) (hrA:OA) (hrC:Nat) (hin:gn c) (hok:fE c=0):
 cz Tryz.prog 107 [(vA (bV.cells (bV.mk (ag.mk (aJ.mk kA c.ak.length kC)) (aJ.mk bdA c.cr.length bdC) (aJ.mk hrA c.bu.length hrC) c.dC c.cS c.eZ c.ep c.gb)))] [(rd kA c.ak.length 9 (c.ak.map ab.cells)),(rd bdA c.cr.length 3 (c.cr.map bG.cells)),(rd hrA c.bu.length 5 (c.bu.map aZ.cells))] (vI 0):=by
 have q:=hin.jP
 have d:=hin.side
 have i:=hin.yD
 have j:=hin.yA
 obtain ⟨D,A⟩:=gC hok
 have p:=bT D
 have h:=cw D
 have l:=A.ki
 have m:=A.gQ
 have a:=A.jE
 have b:=A.gS
 have o:=A.kj
 have n:=A.g8
 have k:=A.base
 simp only [aF] at a b
 have e:(if a9 c.ak=true then (0:Int) else 10)=0:=if_pos D
 refine bf kr Tryz.func107 U U fun s Q hQ hN=>?_
 try dsimp only
 refine WS fun _ S=>ej U fun r=>aU 1 U<|RK S<|al fun _ T=>WS fun _ AA=>rP 1 [] mn ?_
 refine rS (LP (ag.cells (ag.mk (aJ.mk kA c.ak.length kC))) 0 U bQ U U U) ?_
 refine rS (CL (kN c.ak kA kC sd sd) (aX [1]) U) ?_
 refine aU 1 U<|RK AA<|WS fun _ V=>rP 2 [] mn ?_
 refine RK V<|cd U (aP fun C=>?_) (aO fun C=>?_)
 ·exact absurd e C
 refine WK T<|WS fun _ W=>aU 1 U<|RK W<|WS fun _ X=>aU 1 U<|RK X<|al fun _ Y=>WS fun _ Z=>rP 9 [] (mc 0 U mn) ?_
 refine bx (t:=20) U (aP fun C=>?_) (aO fun C=>?_)
 ·exfalso; omega
 refine rP 3 [] (mc 0 U mn) ?_
 refine bX (xs:=[.tmp 23]) (cs:=[(vI (c.bu.length:Int))]) U cK g6 U U U U (by simp [Value.cells]) U U fun H=>?_
 refine rS (CL (cz.eq (jm 1 8 ([(c.bu.length:Int)]) (some ⟨H,0,none⟩) 1 sd) bR) (aK (aH 0 U U (by simp [bq]) U)<|av) U) ?_
 refine rP 3 [] mn ?_
 refine bx (t:=28) U (aP fun L=>?_) (aO fun L=>?_)
 ·exfalso; omega
 refine rP 3 [] (mc 1 U mn) ?_
 refine rS (CL (zu c.cr bdA bdC (Value.func (.func 140) [].toArray [].toArray) (fun _=>false) (ky []) (by intro f B; exact hZ (fi:=[]) (ca:=[]) (gu (DG f (by first|assumption|exact B|exact A.sV _ B|exact A.hour _ B|omega)) (av))) sd (by intro _ _; rfl)) (eM 3 U U<|aK (gJ (av))<|av) U) ?_
 refine rP 5 [] (mc 1 U mn) ?_
 refine rS (CL (xI c.bu hrA hrC (Value.func (.func 142) [].toArray [].toArray) (fun _=>false) (ky []) (by intro g B; exact hZ (fi:=[]) (ca:=[]) (gu (CC g (by first|assumption|exact B|exact A.sV _ B|exact A.hour _ B|omega)) (av))) sd (by intro _ _; rfl)) (eM 4 U U<|aK (gJ (av))<|av) U) ?_
 refine aU 1 U<|RK Z<|bw U<|WK Y<|al fun _ E=>WS fun _ F=>aU 1 U<|rS (LP (I.cells c.dC) 1 U bQ U U U)<|rS (CL (mC c.dC 0 20) (av) U)<|rP 2 [] mn ?_
 refine bx (t:=44) U (aP fun M=>?_) (aO fun M=>?_)
 ·exfalso; omega
 refine aU 1 U<|rS (LP (I.cells c.cS) 1 U bQ U U U)<|rS (CL (mC c.cS 1 100) (av) U)<|rP 3 [] mn ?_
 refine bx (t:=50) U (aP fun N=>?_) (aO fun N=>?_)
 ·exfalso; omega
 refine rP 2 [] (mc 1 U mn) ?_
 refine bX (xs:=[.tmp 52]) (cs:=[(vI c.eZ)]) U cK g6 U U U U (by simp [Value.cells]) U U fun AB=>?_
 refine rS (CL (cz.eq (jm 0 100 ([c.eZ]) (some ⟨AB,0,none⟩) 1 sd) bR) (aK (aH 0 U U (by simp [bq]) U)<|av) U) ?_
 refine rP 3 [] mn ?_
 refine bx (t:=57) U (aP fun O=>?_) (aO fun O=>?_)
 ·exfalso; omega
 refine rP 2 [] (mc 2 U mn) ?_
 refine bX (xs:=[.tmp 59]) (cs:=[(vI c.ep)]) U cK g6 U U U U (by simp [Value.cells]) U U fun J=>?_
 refine rS (CL (cz.eq (jm 0 2000 ([c.ep]) (some ⟨J,0,none⟩) 1 sd) bR) (aK (aH 0 U U (by simp [bq]) U)<|av) U) ?_
 refine rP 3 [] mn ?_
 refine bx (t:=64) U (aP fun P=>?_) (aO fun P=>?_)
 ·exfalso; omega
 refine rP 4 [] (mc 3 U mn) ?_
 refine bX (xs:=[.tmp 68]) (cs:=[(vI c.gb)]) U cK g6 U U U U (by simp [Value.cells]) U U fun K=>?_
 refine rS (CL (cz.eq (jm 0 c.ep ([c.gb]) (some ⟨K,0,none⟩) 1 sd) bR) (aK (aH 0 U U (by simp [bq]) U)<|av) U) ?_
 refine rP 2 [] mn ?_
 refine RK F<|cd U (aP fun R=>?_) (aO fun R=>?_)
 ·exfalso; omega
 refine WK E<|WS fun _ G=>rP 1 [] mn ?_
 refine RK G<|an<|Q1 hQ U U U ?_
 first|rfl|(simp; done)
end
section
open Go.RowKit
theorem BU (c:dx) (kA:OA) (kC:Nat) (bdA:OA) (bdC:Nat) (hrA:OA) (hrC:Nat) (hin:gn c) (hok:fE c=0):
 lx Tryz.prog 70 [(vA (bV.cells (bV.mk (ag.mk (aJ.mk kA c.ak.length kC)) (aJ.mk bdA c.cr.length bdC) (aJ.mk hrA c.bu.length hrC) c.dC c.cS c.eZ c.ep c.gb)))] [(rd kA c.ak.length 9 (c.ak.map ab.cells)),(rd bdA c.cr.length 3 (c.cr.map bG.cells)),(rd hrA c.bu.length 5 (c.bu.map aZ.cells))] (fun (x:Nat)=>(vT [(vP x),(vI 0)])) (fun (x:Nat)=>True) (fun (x:Nat)=>[(bm x 166 (iM.cells (iM.mk (bV.mk (ag.mk (aJ.mk kA c.ak.length kC)) (aJ.mk bdA c.cr.length bdC) (aJ.mk hrA c.bu.length hrC) c.dC c.cS c.eZ c.ep c.gb))))]):=by
 have J:=hin.jP
 have F:=hin.side
 have H:=hin.yD
 have AA:=hin.yA
 refine dT kr Tryz.func70 U U fun L Q hQ hN=>?_
 try dsimp only
 refine WS fun _ A=>ej U fun K=>aU 2 U<|RK A<|al fun _ B=>WS fun _ C=>dE 1 [] (mc 0 U mn) U<|rS (CL (yX c kA kC bdA bdC hrA hrC hin hok) (x_ 1 2 3 U U U U U U) U)<|aU 1 U<|RK C<|WS fun _ D=>aU 1 U<|rS (SX (bJ (r:= .bool false) U U U fW) U U)<|RK D<|bw U<|WK B<|WS fun _ E=>dE 1 [] (mc 0 U mn) U<|rS (SX (aS (xs:=[(0,.tmp 10)]) (cs:=(iM.cells (iM.mk (bV.mk (ag.mk (aJ.mk kA c.ak.length kC)) (aJ.mk bdA c.cr.length bdC) (aJ.mk hrA c.bu.length hrC) c.dC c.cS c.eZ c.ep c.gb)))) U U (aT G8 U)) U U)<|ej U fun G=>rP 2 [] mn ?_
 refine RK E<|an<|LX hQ G [0] [] mn U U U U ?_
 trivial
theorem xb (c:dx) (kA:OA) (kC:Nat) (bdA:OA) (bdC:Nat) (hrA:OA) (hrC gr:Nat) (pl:List (List Int)) (pz:List RA) (plA:OA) (plC:Nat) (hin:gn c) (hok:fE c=0) (hplan:ia c pl) (hpz:pz.length=pl.length):
 cz Tryz.prog 71 [(vP gr),(vS plA pl.length plC)] [(rd kA c.ak.length 9 (c.ak.map ab.cells)),(rd bdA c.cr.length 3 (c.cr.map bG.cells)),(rd hrA c.bu.length 5 (c.bu.map aZ.cells)),(bm gr 166 (iM.cells (iM.mk (bV.mk (ag.mk (aJ.mk kA c.ak.length kC)) (aJ.mk bdA c.cr.length bdC) (aJ.mk hrA c.bu.length hrC) c.dC c.cS c.eZ c.ep c.gb)))),(rd plA pl.length 1 (List.zipWith eI pl pz)),(ky (ei eY pl pz))] (vB true):=by
 have Di:=hin.jP
 have A9:=hin.side
 have Ck:=hin.yD
 have Cp:=hin.yA
 obtain ⟨s,D⟩:=gC hok
 have DN:=bT s
 have Bl:=cw s
 have C0:=D.ki
 have C1:=D.gQ
 have A3:=D.jE
 have A4:=D.gS
 have DA:=D.kj
 have C2:=D.g8
 have Cx:=D.base
 simp only [aF] at A3 A4
 have Bs:=hplan.len
 refine bf kr Tryz.func71 U U fun w0 Q hQ hN=>?_
 try dsimp only
 refine WS fun _ AO=>aU 1 U<|RK AO<|al fun _ AR=>WS fun _ Ak=>aU 3 U<|rS (SX (cu U U) U U)<|rP 5 [] (mr 3 U mn) ?_
 refine RK Ak<|cd U (aP fun h4=>?_) (aO fun h4=>?_)
 ·exfalso; omega
 refine WK AR<|al fun _ Ay=>WS fun _ A0=>rP 3 [] mn ?_
 refine RK A0<|ar ?_
 have A:(0≤pl.length):=by exact Nat.zero_le _
 refine br (ι:={z:Nat // (z≤pl.length)}) [0,17,18] [0,1,2,3,4,5] U U (fun z=>[(19,(vI (z.1:Int)))]) (fun z=>[]) (fun _=>rfl) (fun _=>rfl) (fun z=>pl.length-z.1) ⟨0,A⟩ (bg U) (aN [0,1,2,3,4,5]) ?_
 clear A
 rintro ⟨h,A5⟩ J7 S
 try dsimp only
 refine WS fun _ A1=>rP 1 [] mn ?_
 refine RK A1<|al fun _ A2=>bH U (aL fun u=>?_) (aM fun u=>?_)
 ·refine bo<|ai<|ai<|aw<|KK Ay<|WS fun _ i=>rP 1 [] mn ?_
  refine RK i<|an<|Q1 hQ U U U ?_
  first|rfl|(simp; done)
 refine WK A2<|al fun _ F=>ar<|WS fun _ T=>rP 1 [] mn ?_
 obtain ⟨l,hl⟩:=bh pl h om
 obtain ⟨la,B⟩:=bh pz h om
 have A6:(List.zipWith eI pl pz)[h]? =some (eI l la):=jv hl B
 refine rS (IA h U (ay 4 U) iO dc om om)<|rS (fT h 0 (vS la.1 l.length la.2) U bQ (ay 4 U) A6 U dc U)<|rP 2 [] mn ?_
 refine RK T<|al fun _ G=>al fun _ H=>?_
 obtain ⟨hr,E⟩:=bh c.bu h om
 have A8:=hplan.row h l hr hl E
 obtain ⟨B9,r,J⟩:=A8
 have j:=(hplan.row h l hr hl E).all
 have Bf:=(D.hour hr (aG E)).2.2
 have AB:=bp aZ.cells E
 refine ao<|aU 3 U<|rS (SX (cu U U) U U)<|dE 4 [] (mr 3 U mn) U<|rS (IA h U (ay 2 U) lu dc om om)<|rS (lp ((h*5)+3) U (ay 2 U) (Nat.mul_pos om dc) fh U)<|rS (fT h 3 (vI hr.o2) U bQ (ay 2 U) AB U dc U)<|rP 2 [] mn ?_
 refine bx (t:=36) U (aM fun AC=>?_) (aL fun AC=>?_)
 ·exfalso; omega
 refine rP 4 [] mn ?_
 refine dq (t:=40) U (aL fun AH=>?_) (aM fun AH=>?_)
 ·refine aU 14 U<|rS (SX (cu U U) U U)<|rP 6 [] (mr 3 U mn) ?_
  refine rS (CL (jm 0 ((c.cr.length:Int)-1) l la.1 la.2 sd) (aK (show iK _ (rd la.1 l.length 1 (l.map iC)).holds from (dD 5 U (cR hl B (by simp [eY]))))<|av) U) ?_
  refine rP 2 [] mn ?_
  refine RK H<|cd U (fun C=>?_) (fun C=>?_)
  ·rw [Bool.not_eq_true'] at C
   exfalso; first|exact Bool.noConfusion (C.symm.trans j)|(simp_all; done)
  rw [Bool.not_eq_false'] at C
  refine WK G<|WS fun _ a=>rP 4 [] mn ?_
  refine RK a<|ar ?_
  have A:(0≤l.length):=by exact Nat.zero_le _
  refine br (ι:={z:Nat // (z≤l.length)}) [0,5,6,17,18,19,67] [0,1,2,3,4,5] U U (fun z=>[(68,(vI (z.1:Int)))]) (fun z=>[]) (fun _=>rfl) (fun _=>rfl) (fun z=>l.length-z.1) ⟨0,A⟩ (bg U) (aN [0,1,2,3,4,5]) ?_
  clear A
  rintro ⟨k,M⟩ J26 R
  try dsimp only
  refine WS fun _ b=>rP 1 [] mn ?_
  refine RK b<|al fun _ d=>bH U (aL fun w=>?_) (aM fun w=>?_)
  ·refine bo<|ai<|ai<|aw<|aI<|KK F<|ao<|rP 2 [] mn ?_
   refine aB ?_
   have p:(vI (((h+1):Nat):Int))=(vI ((h:Int)+1)):=by exact cI om
   refine aY (S ⟨(h+1),(by first|omega|(simp only []; omega))⟩ _ _ _ U os (b_ 3<|aR U p<|cL.nil _) (aN [0,1,2,3,4,5]))
  refine WK d<|al fun _ e=>ar<|WS fun _ f=>aU 2 U<|RK f<|al fun _ g=>dF cx 10 kr<|dP 2 [] mn ?_
  obtain ⟨x,hx⟩:=bh l k om
  have N:=bp iC hx
  refine dS (IA k U (show iK _ (rd la.1 l.length 1 (l.map iC)).holds from (dD 5 U (cR hl B (by simp [eY])))) cK dc om om)<|dS (fT k 0 (vI x) U bQ (show iK _ (rd la.1 l.length 1 (l.map iC)).holds from (dD 5 U (cR hl B (by simp [eY])))) N U dc U)<|dP 3 [] mn ?_
  obtain ⟨y,hy⟩:=bh l (k+1) om
  have O:=bp iC hy
  refine dS (IA (k+1) U (show iK _ (rd la.1 l.length 1 (l.map iC)).holds from (dD 5 U (cR hl B (by simp [eY])))) cK dc om om)<|dS (fT (k+1) 0 (vI y) U bQ (show iK _ (rd la.1 l.length 1 (l.map iC)).holds from (dD 5 U (cR hl B (by simp [eY])))) O U dc U) ?_
  have A7:=(J (k+1) y hy).2 x (Nat.succ_pos _) (by rw [Nat.add_sub_cancel]; exact hx)
  refine dP 1 [] mn ?_
  refine cj<|RK g<|cd U (aM fun L=>?_) (aL fun L=>?_)
  ·exfalso; omega
  refine bS<|aI<|KK e<|ao<|rP 2 [] mn ?_
  refine aB ?_
  have o:(vI (((k+1):Nat):Int))=(vI ((k:Int)+1)):=by exact cI om
  refine aY (R ⟨(k+1),(by first|omega|(simp only []; omega))⟩ _ _ _ U os (b_ 7<|aR U o<|cL.nil _) (aN [0,1,2,3,4,5]))
 refine aU 1 U<|rS (SX (cu U U) U U)<|dE 4 [] (mr 3 U mn) U<|rS (IA h U (ay 2 U) lu dc om om)<|rS (lp ((h*5)+4) U (ay 2 U) (Nat.mul_pos om dc) fh U)<|rS (fT h 4 (vB hr.l7) U bQ (ay 2 U) AB U dc U)<|rP 4 [] mn ?_
 refine bx (t:=53) U (fun K=>?_) (fun K=>?_)
 ·rw [Bool.not_eq_true'] at K
  exfalso; rcases r with q|q; omega; simp_all
 rw [Bool.not_eq_false'] at K
 refine aU 1 U<|rS (SX (cu U U) U U)<|rP 6 [] (mr 3 U mn) ?_
 refine rS (CL (jm 0 ((c.cr.length:Int)-1) l la.1 la.2 sd) (aK (show iK _ (rd la.1 l.length 1 (l.map iC)).holds from (dD 5 U (cR hl B (by simp [eY]))))<|av) U) ?_
 refine rP 2 [] mn ?_
 refine RK H<|cd U (fun C=>?_) (fun C=>?_)
 ·rw [Bool.not_eq_true'] at C
  exfalso; first|exact Bool.noConfusion (C.symm.trans j)|(simp_all; done)
 rw [Bool.not_eq_false'] at C
 refine WK G<|WS fun _ AA=>rP 4 [] mn ?_
 refine RK AA<|ar ?_
 have A:(0≤l.length):=by exact Nat.zero_le _
 refine br (ι:={z:Nat // (z≤l.length)}) [0,5,6,17,18,19,67] [0,1,2,3,4,5] U U (fun z=>[(68,(vI (z.1:Int)))]) (fun z=>[]) (fun _=>rfl) (fun _=>rfl) (fun z=>l.length-z.1) ⟨0,A⟩ (bg U) (aN [0,1,2,3,4,5]) ?_
 clear A
 rintro ⟨k,M⟩ J16 P
 try dsimp only
 refine WS fun _ V=>rP 1 [] mn ?_
 refine RK V<|al fun _ W=>bH U (aL fun v=>?_) (aM fun v=>?_)
 ·refine bo<|ai<|ai<|aw<|aI<|KK F<|ao<|rP 2 [] mn ?_
  refine aB ?_
  have n:(vI (((h+1):Nat):Int))=(vI ((h:Int)+1)):=by exact cI om
  refine aY (S ⟨(h+1),(by first|omega|(simp only []; omega))⟩ _ _ _ U os (b_ 3<|aR U n<|cL.nil _) (aN [0,1,2,3,4,5]))
 refine WK W<|al fun _ X=>ar<|WS fun _ Y=>aU 2 U<|RK Y<|al fun _ Z=>dF cx 10 kr<|dP 2 [] mn ?_
 obtain ⟨x,hx⟩:=bh l k om
 have N:=bp iC hx
 refine dS (IA k U (show iK _ (rd la.1 l.length 1 (l.map iC)).holds from (dD 5 U (cR hl B (by simp [eY])))) cK dc om om)<|dS (fT k 0 (vI x) U bQ (show iK _ (rd la.1 l.length 1 (l.map iC)).holds from (dD 5 U (cR hl B (by simp [eY])))) N U dc U)<|dP 3 [] mn ?_
 obtain ⟨y,hy⟩:=bh l (k+1) om
 have O:=bp iC hy
 refine dS (IA (k+1) U (show iK _ (rd la.1 l.length 1 (l.map iC)).holds from (dD 5 U (cR hl B (by simp [eY])))) cK dc om om)<|dS (fT (k+1) 0 (vI y) U bQ (show iK _ (rd la.1 l.length 1 (l.map iC)).holds from (dD 5 U (cR hl B (by simp [eY])))) O U dc U) ?_
 have A7:=(J (k+1) y hy).2 x (Nat.succ_pos _) (by rw [Nat.add_sub_cancel]; exact hx)
 refine dP 1 [] mn ?_
 refine cj<|RK Z<|cd U (aM fun L=>?_) (aL fun L=>?_)
 ·exfalso; omega
 refine bS<|aI<|KK X<|ao<|rP 2 [] mn ?_
 refine aB ?_
 have m:(vI (((k+1):Nat):Int))=(vI ((k:Int)+1)):=by exact cI om
 refine aY (P ⟨(k+1),(by first|omega|(simp only []; omega))⟩ _ _ _ U os (b_ 7<|aR U m<|cL.nil _) (aN [0,1,2,3,4,5]))
theorem tH (c:dx) (kA:OA) (kC:Nat) (bdA:OA) (bdC:Nat) (hrA:OA) (hrC:Nat) (pl:List (List Int)) (pz:List RA) (plA:OA) (plC:Nat) (hin:gn c) (hok:fE c=0) (hplan:ia c pl) (hpz:pz.length=pl.length):
 lx Tryz.prog 35 [(vA (bV.cells (bV.mk (ag.mk (aJ.mk kA c.ak.length kC)) (aJ.mk bdA c.cr.length bdC) (aJ.mk hrA c.bu.length hrC) c.dC c.cS c.eZ c.ep c.gb))),(vS plA pl.length plC)] [(rd kA c.ak.length 9 (c.ak.map ab.cells)),(rd bdA c.cr.length 3 (c.cr.map bG.cells)),(rd hrA c.bu.length 5 (c.bu.map aZ.cells)),(rd plA pl.length 1 (List.zipWith eI pl pz)),(ky (ei eY pl pz))] (fun (x:Nat)=>(vT [(vP x),(vI 0)])) (fun (x:Nat)=>True) (fun (x:Nat)=>[(bm x 166 (iM.cells (iM.mk (bV.mk (ag.mk (aJ.mk kA c.ak.length kC)) (aJ.mk bdA c.cr.length bdC) (aJ.mk hrA c.bu.length hrC) c.dC c.cS c.eZ c.ep c.gb))))]):=by
 have L:=hin.jP
 have AA:=hin.side
 have J:=hin.yD
 have K:=hin.yA
 refine dT kr Tryz.func35 U U fun O Q hQ hN=>?_
 try dsimp only
 refine WS fun _ D=>ej U fun N=>aU 2 U<|RK D<|WS fun _ E=>rP 1 [] (mc 0 U mn) ?_
 refine cX (BU c kA kC bdA bdC hrA hrC hin hok) (x_ 1 2 3 U U U U U U) U fun A M=>?_
 try dsimp only
 refine aU 5 U<|RK E<|al fun _ F=>WS fun _ G=>aU 1 U<|rS (SX (bJ (r:= .bool false) U U U fW) U U)<|RK G<|bw U<|WK F<|al fun _ H=>WS fun _ B=>aU 2 U<|rS (CL (xb c kA kC bdA bdC hrA hrC A pl pz plA plC hin hok hplan hpz) (aX [2,3,4,0,5,6]) U)<|aU 1 U<|RK B<|bw U<|WK H<|WS fun _ C=>rP 3 [] mn ?_
 refine RK C<|an<|LX hQ A [0] [] mn U U U U ?_
 trivial
theorem E9 (c:dx) (kA:OA) (kC:Nat) (bdA:OA) (bdC:Nat) (hrA:OA) (hrC gr:Nat) (i h:Int) (b:bG) (hr:aZ) (hin:gn c) (hok:fE c=0) (hi:0≤i∧i<c.cr.length) (hh:0≤h∧h<c.bu.length) (hb:c.cr[i.toNat]? =some b) (hhr:c.bu[h.toNat]? =some hr):
 cz Tryz.prog 77 [(vP gr),(vI i),(vI h)] [(rd kA c.ak.length 9 (c.ak.map ab.cells)),(rd bdA c.cr.length 3 (c.cr.map bG.cells)),(rd hrA c.bu.length 5 (c.bu.map aZ.cells)),(bm gr 166 (iM.cells (iM.mk (bV.mk (ag.mk (aJ.mk kA c.ak.length kC)) (aJ.mk bdA c.cr.length bdC) (aJ.mk hrA c.bu.length hrC) c.dC c.cS c.eZ c.ep c.gb))))] (vA (I.cells (jr b hr c.dC))):=by
 have g:=hin.jP
 have S:=hin.side
 have V:=hin.yD
 have X:=hin.yA
 obtain ⟨E,A⟩:=gC hok
 have f:=bT E
 have T:=cw E
 have Z:=A.ki
 have a:=A.gQ
 have P:=A.jE
 have R:=A.gS
 have e:=A.kj
 have d:=A.g8
 have Y:=A.base
 simp only [aF] at P R
 have L:=A.sV b (aG hb)
 have O:=A.hour hr (aG hhr)
 obtain ⟨AA,C,D⟩:=L
 obtain ⟨M,B,W⟩:=O
 simp only [aF] at M
 have j:=jQ C D (show 0≤hr.kx.Lo by omega) (show hr.kx.Lo≤50 by omega)
 have k:=jQ C D (show 0≤hr.kx.Hi by omega) (show hr.kx.Hi≤50 by omega)
 have l:=jQ B.1 B.2 (show 0≤c.dC.Lo by omega) (show c.dC.Lo≤20 by omega)
 have m:=jQ B.1 B.2 (show 0≤c.dC.Hi by omega) (show c.dC.Hi≤20 by omega)
 refine bf kr Tryz.func77 U U fun p Q hQ hN=>?_
 try dsimp only
 refine WS fun _ F=>AL U cv fun n=>RK F<|al fun _ G=>?_
 have K:=bp bG.cells hb
 have N:=bp aZ.cells hhr
 refine dK cx [17,19] [] [] [0,1,2,3,4] [] U U U U U<|eS U (MV U)<|eS U (SX (cu U U) U U)<|eS U (FA 0 U fh U)<|eS U (FA 1 U fh U)<|eS U (Dp (vS bdA c.cr.length bdC) 4 U bQ U U)<|eS U (MV U)<|eS U (IA ((i).toNat) U (ay 2 U) lJ dc om om)<|eS U (lp ((((i).toNat)*3)+2) U (ay 2 U) (Nat.mul_pos om dc) fh U)<|eS U (fT ((i).toNat) 2 (vI b.v_) U bQ (ay 2 U) K U dc U)<|eS U (MV U)<|eS U (SX (cu U U) U U)<|eS U (FA 0 U fh U)<|eS U (FA 2 U fh U)<|eS U (Dp (vS hrA c.bu.length hrC) 4 U bQ U U)<|eS U (MV U)<|eS U (IA ((h).toNat) U (ay 3 U) lu dc om om)<|eS U (jq ((h).toNat) 0 (aZ.cells hr) U bQ (ay 3 U) N U dc U U)<|eS U (AG U)<|eJ U<|bU U fun T4 AB=>AL U nB fun o=>aB (AB _ _ (aN [1,2,3,4,5]) ?_)
 refine bU U fun T6 J=>eC U Gp U<|aB (J _ _ (aN [1,2,3,4,5]) ?_)
 refine fx U<|KK G<|al fun _ H=>dF cx 31 kr<|jA 4 [] (mc 0 U mn) U<|dS (BI U (iF ⟨om,om⟩))<|jA 3 [] (mc 0 U mn) U<|dS (SX (cu U U) U U)<|jA 4 [] (mr 5 U mn) U<|dS (BI U (iF ⟨om,om⟩))<|jA 5 [] (mc 0 U mn) U<|dS (BI U (iF ⟨om,om⟩))<|jA 3 [] (mc 0 U mn) U<|dS (SX (cu U U) U U)<|jA 4 [] (mr 5 U mn) U<|dS (BI U (iF ⟨om,om⟩))<|dP 1 [] mn ?_
 refine dS (SX (aS (xs:=[(0,.tmp 40),(1,.tmp 55)]) (cs:=(I.cells (I.mk ((b.v_*hr.kx.Lo)+(hr.o7*c.dC.Lo)) ((b.v_*hr.kx.Hi)+(hr.o7*c.dC.Hi))))) U U (aT fm U)) U U)<|cj<|oa U cn U<|RK H<|an ?_
 exact D7 hQ [0] (mc 1 U mn) U U
end
section
open Go.RowKit
theorem EH (gr:Nat) (plA:OA) (plN plC:Nat) (i:Int):
 lx Tryz.prog 39 [(vP gr),(vS plA plN plC),(vI i)] [] (fun (x:Nat×Nat×Nat)=>(Value.func (.func 76) [].toArray [(Value.pointer (some ⟨x.1,0,none⟩)),(Value.pointer (some ⟨x.2.1,0,none⟩)),(Value.pointer (some ⟨x.2.2,0,none⟩))].toArray)) (fun (x:Nat×Nat×Nat)=>True) (fun (x:Nat×Nat×Nat)=>[(bm x.1 102 [(vP gr)]),(bm x.2.1 3 [(vI i)]),(bm x.2.2 31 [(vS plA plN plC)])]):=by
 refine dT kr Tryz.func39 U U fun F Q hQ hN=>?_
 try dsimp only
 refine WS fun _ A=>o4 U U fun C=>o4 U U fun D=>o4 U U fun E=>aU 1 U<|RK A<|WS fun _ B=>rS (FU U)<|rP 1 [] mn ?_
 refine RK B<|an<|LX hQ (C,E,D) [2,0,1] [] mn U U U U ?_
 trivial
theorem yP (l:List Int) (lA:OA) (lC:Nat) (n:Int) (hlen:l.length≤1000000):
 cz Tryz.prog 110 [(vS lA l.length lC),(vI n)] [(rd lA l.length 1 (l.map iC))] (vI (eD (fun x=>decide (n=x)) l)):=by
 refine bf kr Tryz.func110 U U fun S Q hQ hN=>?_
 try dsimp only
 refine WS fun _ H=>aU 1 U<|RK H<|al fun _ AA=>WS fun _ J=>rP 3 [] mn ?_
 refine RK J<|ar ?_
 have B:(0≤l.length)∧((l.take 0).any (fun x=>decide (n=x))=false):=by simp
 refine br (ι:={z:Nat // (z≤l.length)∧((l.take z).any (fun x=>decide (n=x))=false)}) [0,1,7] [0] U U (fun z=>[(8,(vI (z.1:Int)))]) (fun z=>[]) (fun _=>rfl) (fun _=>rfl) (fun z=>l.length-z.1) ⟨0,B⟩ (bg U) (aN [0]) ?_
 clear B
 rintro ⟨i,⟨O,A⟩⟩ J4 G
 try dsimp only
 refine WS fun _ K=>rP 1 [] mn ?_
 refine RK K<|al fun _ L=>bH U (aL fun R=>?_) (aM fun R=>?_)
 ·refine bo<|ai<|ai<|aw<|KK AA<|WS fun _ E=>rP 1 [] mn ?_
  refine RK E<|an<|Q1 hQ U U U ?_
  first|exact cI (jH hx (bY hp) A).symm|exact cI (hH om A).symm
 refine WK L<|al fun _ M=>ar<|WS fun _ N=>aU 2 U<|RK N<|WS fun _ C=>rP 3 [] mn ?_
 obtain ⟨x,hx⟩:=bh l i om
 have P:=bp iC hx
 refine rS (IA i U (ay 0 U) cK dc om om)<|rS (fT i 0 (vI x) U bQ (ay 0 U) P U dc U)<|rP 1 [] mn ?_
 refine RK C<|cd U (aM fun hp=>?_) (aL fun hp=>?_)
 ·refine WS fun _ D=>rP 2 [] mn ?_
  refine RK D<|an<|Q1 hQ U U U ?_
  first|exact cI (jH hx (bY hp) A).symm|exact cI (hH om A).symm
 refine bS<|aI<|KK M<|ao<|rP 2 [] mn ?_
 refine aB ?_
 have F:(vI (((i+1):Nat):Int))=(vI ((i:Int)+1)):=by exact cI om
 refine aY (G ⟨(i+1),⟨om,lY hx A (aD hp)⟩⟩ _ _ _ U os (b_ 3<|aR U F<|cL.nil _) (aN [0]))
theorem ub (l:List Int) (lA:OA) (lC:Nat) (n:Int) (hlen:l.length≤1000000):
 cz Tryz.prog 78 [(vS lA l.length lC),(vI n)] [(rd lA l.length 1 (l.map iC))] (vB (decide (n∈l))):=by
 refine bf kr Tryz.func78 U U fun C Q hQ hN=>?_
 try dsimp only
 refine WS fun _ A=>aU 1 U<|RK A<|WS fun _ B=>aU 2 U<|rS (CL (yP l lA lC n hlen) (aX [0]) U)<|rP 2 [] mn ?_
 refine RK B<|an<|Q1 hQ U U U ?_
 exact cB (kB.trans Cm)
theorem zo (c:dx) (kA:OA) (kC:Nat) (bdA:OA) (bdC:Nat) (hrA:OA) (hrC gr:Nat) (pl:List (List Int)) (pz:List RA) (plA:OA) (plC:Nat) (i:Int) (g1 g2 g3:Nat) (b:bG) (hin:gn c) (hok:fE c=0) (hplan:ia c pl) (hpz:pz.length=pl.length) (hi:0≤i∧i<c.cr.length) (hb:c.cr[i.toNat]? =some b):
 x6 Tryz.prog 76 [] [(vP g1),(vP g2),(vP g3)] [(rd kA c.ak.length 9 (c.ak.map ab.cells)),(rd bdA c.cr.length 3 (c.cr.map bG.cells)),(rd hrA c.bu.length 5 (c.bu.map aZ.cells)),(bm gr 166 (iM.cells (iM.mk (bV.mk (ag.mk (aJ.mk kA c.ak.length kC)) (aJ.mk bdA c.cr.length bdC) (aJ.mk hrA c.bu.length hrC) c.dC c.cS c.eZ c.ep c.gb)))),(rd plA pl.length 1 (List.zipWith eI pl pz)),(ky (ei eY pl pz)),(bm g1 102 [(vP gr)]),(bm g2 3 [(vI i)]),(bm g3 31 [(vS plA pl.length plC)])] (qT b c.bu c.dC c.cS pl i):=by
 have Bs:=hin.jP
 have AH:=hin.side
 have A2:=hin.yD
 have A4:=hin.yA
 obtain ⟨h,B⟩:=gC hok
 have Bl:=bT h
 have AO:=cw h
 have A6:=B.ki
 have A7:=B.gQ
 have x:=B.jE
 have y:=B.gS
 have A9:=B.kj
 have A8:=B.g8
 have A5:=B.base
 simp only [aF] at x y
 have AR:=hplan.len
 have f:=B.sV b (aG hb)
 refine pg kr Tryz.func76 U U fun l J Z A0 w0 Q hY n m hQ hN=>?_
 try dsimp only
 refine al fun _ o=>?_
 have v:=bp bG.cells hb
 refine dK cx [9,10] [] [] [0,1,2,3,4,5,6,7,8,9] [] U U U U U<|eS U (Ft 7 U bQ U)<|eS U (SX (cu U U) U U)<|eS U (FA 0 U fh U)<|eS U (FA 1 U fh U)<|eS U (Dp (vS bdA c.cr.length bdC) 4 U bQ U U)<|eS U (Ft 8 U bQ U)<|eS U (IA ((i).toNat) U (ay 2 U) lJ dc om om)<|eS U (lp (((i).toNat)*3) U (ay 2 U) (Nat.mul_pos om dc) fh U)<|eS U (jq ((i).toNat) 0 (I.cells b.lH) U bQ (ay 2 U) v U dc U U)<|eJ U<|bU U fun T2 s=>AL U cv fun b3=>aB (s _ _ (aN [1,2,3,4,5,6,7,8,9,10]) ?_)
 refine bU U fun T4 t=>eC U cn U<|aB (t _ _ (aN [1,2,3,4,5,6,7,8,9,10]) ?_)
 refine fx U<|KK o<|al fun _ p=>al fun _ q=>?_
 have u:(I.cells b.lH)=(I.cells (gv b c.bu c.dC c.cS pl i 0)):=by rfl
 rw [u]
 refine ao<|dE 1 [] (mr 8 U mn) U<|rS (SX (cu U U) U U)<|rP 5 [] (mr 5 U mn) ?_
 refine RK q<|ar ?_
 have L:(0≤c.bu.length)∧(J 0 A0)∧(Fo A0 w0 A0):=by exact ⟨Nat.zero_le _,n,m⟩
 refine br (ι:={z:Nat×au // (z.1≤c.bu.length)∧(J z.1 z.2)∧(Fo A0 w0 z.2)}) [0,1,2,3,5,22] [2,3,4,5,6,7,8,9,10] U U (fun z=>[(23,(vI (z.1.1:Int)))]) (fun z=>[(bm b3 28 (I.cells (gv b c.bu c.dC c.cS pl i z.1.1))),z.1.2]) (fun _=>rfl) (fun _=>rfl) (fun z=>c.bu.length-z.1.1) ⟨(0,A0),L⟩ (bg U) (aN [2,3,4,5,6,7,8,9,10,0,1]) ?_
 clear L
 rintro ⟨⟨k,A⟩,⟨O,D,E⟩⟩ J8 P
 try dsimp only at O D E
 try dsimp only
 refine WS fun _ r=>rP 1 [] mn ?_
 refine RK r<|al fun _ R=>bH U (aL fun j=>?_) (aM fun j=>?_)
 ·refine bo<|ai<|ai<|aw<|KK p<|dF cx 8 kr<|jA 2 [] (mr 6 U mn) U<|dS (SX (cu U U) U U)<|dP 5 [0,1] (mr 3 U (mc 9 U mn)) ?_
  refine cj<|mD 10 hY D E U U U (zD om om) U U (fun B27 K AB=>?_) (fun B27 K AB=>?_)
  rotate_left 1
  ·refine aB ?_
   refine hN _ _ _ (fH (vs:=[]) trivial fun w hs=>rh 10 U K AB hs)
  refine aB ?_
  refine hN _ _ _ (fH (vs:=[]) trivial fun w hs=>BL 10 U (by rw [lM]; have e:c.bu.length+1=k+1:=om; rw [e]; exact K) AB hs)
 refine WK R<|al fun _ M=>ar<|WS fun _ S=>aU 2 U<|RK S<|al fun _ T=>WS fun _ N=>rP 3 [] (mc 9 U mn) ?_
 refine mD 10 hY D E U U U (qF om) U U (fun B16 G F=>?_) (fun B16 G F=>?_)
 rotate_left 1
 ·refine rP 1 [] mn ?_
  refine RK N<|aC U<|an ?_
  refine hQ _ _ _ (fH (vs:=[]) trivial fun w hs=>rh 10 U G F hs)
 refine rP 1 [] mn ?_
 refine RK N<|bw U<|WK T<|al fun _ AA=>?_
 obtain ⟨hr,C⟩:=bh c.bu k om
 have Bf:=yZ f (B.hour hr (aG C)) B.jE
 have A3:=C5 (pl:=pl) (i:=i) f B.hour B.jE B.gS k
 refine ao<|rP 3 [0,1] (mr 6 U (mr 7 U mn)) ?_
 refine rS (CL (E9 c kA kC bdA bdC hrA hrC gr i (k:Int) b hr (by exact hin) (by exact hok) hi sd (by exact hb) (by exact C)) (aX [0,1,2,3]) U) ?_
 refine AL U cv fun Ay=>eC U cn U<|RK AA<|WS fun _ V=>dE 5 [0,1] (mc 10 U (mc 0 U mn)) U<|rS (MX U)<|dE 5 [0,1] (mc 10 U (mc 0 U mn)) U<|rS (MX U)<|rS (SX (aS (xs:=[(0,.tmp 40),(1,.tmp 46)]) (cs:=(I.cells (I.mk (max 0 (((gv b c.bu c.dC c.cS pl i k).Lo)-((jr b hr c.dC).Hi))) (max 0 (((gv b c.bu c.dC c.cS pl i k).Hi)-((jr b hr c.dC).Lo)))))) U U (aT fm U)) U U)<|El U cn U<|RK V<|al fun _ W=>dF cx 6 kr<|dP 2 [] (mr 9 U mn) ?_
 obtain ⟨l,hl⟩:=bh pl k om
 obtain ⟨la,g⟩:=bh pz k om
 have AC:(List.zipWith eI pl pz)[k]? =some (eI l la):=jv hl g
 refine dS (IA k U (ay 5 U) iO dc om om)<|dS (fT k 0 (vS la.1 l.length la.2) U bQ (ay 5 U) AC U dc U)<|dP 1 [] (mr 8 U mn) ?_
 refine dS (CL (ub l la.1 la.2 i (by have:=(hplan.row k l hr hl C).1; have:=(B.hour hr (aG C)).2.2; omega)) (aK (show iK _ (rd la.1 l.length 1 (l.map iC)).holds from (dD 6 U (cR hl g (by simp [eY]))))<|av) U) ?_
 refine cj<|RK W<|bH U (aL fun H=>?_) (aM fun H=>?_)
 ·refine bS<|aI<|KK M ?_
  have a:(I.cells (I.mk (max 0 (((gv b c.bu c.dC c.cS pl i k).Lo)-((jr b hr c.dC).Hi))) (max 0 (((gv b c.bu c.dC c.cS pl i k).Hi)-((jr b hr c.dC).Lo)))))=(I.cells (gv b c.bu c.dC c.cS pl i (k+1))):=by first|exact congrArg I.cells (by rw [lK C hl]; unfold qg; rw [if_pos H]; rfl)|exact congrArg I.cells (by rw [lK C hl]; unfold qg; rw [if_neg H]; rfl)
  rw [a]
  refine ao<|rP 2 [] mn ?_
  refine aB ?_
  have d:(vI (((k+1):Nat):Int))=(vI ((k:Int)+1)):=by exact cI om
  refine aY (P ⟨((k+1),B16),⟨om,G,F⟩⟩ _ _ _ U os (b_ 6<|aR U d<|cL.nil _) (aN [1,2,3,4,5,6,7,8,9,10,11]))
 refine dF cx 19 kr<|jA 3 [0,1] (mc 10 U (mr 7 U mn)) U<|dS (SX (cu U U) U U)<|jA 8 [0,1,2] (mr 4 U (mc 10 U (mr 7 U mn))) U<|dS (SX (cu U U) U U)<|dP 5 [] (mr 4 U mn) ?_
 refine dS (SX (aS (xs:=[(0,.tmp 62),(1,.tmp 71)]) (cs:=(I.cells (I.mk ((max 0 (((gv b c.bu c.dC c.cS pl i k).Lo)-((jr b hr c.dC).Hi)))+c.cS.Lo) ((max 0 (((gv b c.bu c.dC c.cS pl i k).Hi)-((jr b hr c.dC).Lo)))+c.cS.Hi)))) U U (aT fm U)) U U)<|cj<|El U cn U<|aB<|aI<|KK M ?_
 have X:(I.cells (I.mk ((max 0 (((gv b c.bu c.dC c.cS pl i k).Lo)-((jr b hr c.dC).Hi)))+c.cS.Lo) ((max 0 (((gv b c.bu c.dC c.cS pl i k).Hi)-((jr b hr c.dC).Lo)))+c.cS.Hi)))=(I.cells (gv b c.bu c.dC c.cS pl i (k+1))):=by first|exact congrArg I.cells (by rw [lK C hl]; unfold qg; rw [if_pos H]; rfl)|exact congrArg I.cells (by rw [lK C hl]; unfold qg; rw [if_neg H]; rfl)
 rw [X]
 refine ao<|rP 2 [] mn ?_
 refine aB ?_
 have Y:(vI (((k+1):Nat):Int))=(vI ((k:Int)+1)):=by exact cI om
 refine aY (P ⟨((k+1),B16),⟨om,G,F⟩⟩ _ _ _ U os (b_ 6<|aR U Y<|cL.nil _) (aN [1,2,3,4,5,6,7,8,9,10,11]))
end
section
open Go.RowKit
theorem wC (c:dx) (kA:OA) (kC:Nat) (bdA:OA) (bdC:Nat) (hrA:OA) (hrC:Nat) (pl:List (List Int)) (pz:List RA) (plA:OA) (plC:Nat) (i n:Int) (b:bG) (hin:gn c) (hok:fE c=0) (hplan:ia c pl) (hpz:pz.length=pl.length) (hi:0≤i∧i<c.cr.length) (hb:c.cr[i.toNat]? =some b) (hn:0≤n∧n≤c.bu.length):
 cz Tryz.prog 13 [(vA (bV.cells (bV.mk (ag.mk (aJ.mk kA c.ak.length kC)) (aJ.mk bdA c.cr.length bdC) (aJ.mk hrA c.bu.length hrC) c.dC c.cS c.eZ c.ep c.gb))),(vS plA pl.length plC),(vI i),(vI n)] [(rd kA c.ak.length 9 (c.ak.map ab.cells)),(rd bdA c.cr.length 3 (c.cr.map bG.cells)),(rd hrA c.bu.length 5 (c.bu.map aZ.cells)),(rd plA pl.length 1 (List.zipWith eI pl pz)),(ky (ei eY pl pz))] (vT [(vA (I.cells (gv b c.bu c.dC c.cS pl i n.toNat))),(vI 0)]):=by
 have Bl:=hin.jP
 have AO:=hin.side
 have A3:=hin.yD
 have A4:=hin.yA
 obtain ⟨e,A⟩:=gC hok
 have Bf:=bT e
 have Ay:=cw e
 have A6:=A.ki
 have A7:=A.gQ
 have AC:=A.jE
 have AH:=A.gS
 have A9:=A.kj
 have A8:=A.g8
 have A5:=A.base
 simp only [aF] at AC AH
 have A0:=hplan.len
 refine bf kr Tryz.func13 U U fun w0 Q hQ hN=>?_
 try dsimp only
 refine WS fun _ AA=>ej U fun o=>o4 U U fun p=>AL U cv fun q=>aU 1 U<|RK AA<|WS fun _ Z=>rP 2 [] (mc 2 U mn) ?_
 refine cX (tH c kA kC bdA bdC hrA hrC pl pz plA plC (by exact hin) (by exact hok) (by exact hplan) (by exact hpz)) (aX [3,4,5,6,7]) U fun B Bs=>?_
 try dsimp only
 refine aU 5 U<|RK Z<|al fun _ a=>WS fun _ G=>aU 1 U<|rS (SX (bJ (r:= .bool false) U U U fW) U U)<|RK G<|bw U<|WK a<|al fun _ H=>WS fun _ AB=>rP 5 [] (mc 3 U mn) ?_
 refine bX (xs:=[.tmp 29]) (cs:=[(vI i)]) U cK g6 U U U U (by simp [Value.cells]) U U fun j=>?_
 refine rS (CL (cz.eq (jm 0 ((c.cr.length:Int)-1) ([i]) (some ⟨j,0,none⟩) 1 sd) bR) (aK (aH 0 U U (by simp [bq]) U)<|av) U) ?_
 refine rP 2 [] mn ?_
 refine bx (t:=33) U (aP fun s=>?_) (aO fun s=>?_)
 ·exfalso; omega
 refine rP 4 [0,1] (mc 4 U (mc 3 U mn)) ?_
 refine bX (xs:=[.tmp 37]) (cs:=[(vI n)]) U cK g6 U U U U (by simp [Value.cells]) U U fun m=>?_
 refine rS (CL (cz.eq (jm 0 (c.bu.length:Int) ([n]) (some ⟨m,0,none⟩) 1 sd) bR) (aK (aH 0 U U (by simp [bq]) U)<|av) U) ?_
 refine rP 2 [] mn ?_
 refine RK AB<|cd U (aP fun u=>?_) (aO fun u=>?_)
 ·exfalso; omega
 refine WK H<|WS fun _ J=>AL U cv fun N=>RK J<|al fun _ K=>WS fun _ L=>rP 3 [] mn ?_
 refine cX (EH B plA pl.length plC i) (av) U fun AR A1=>?_
 obtain ⟨C,D,E⟩:=AR
 try dsimp only
 refine RK L<|ar<|jS 10 U (by exact fun _ h=>h)<|jS 12 U (by exact fun _ h=>h)<|jS 14 U (by exact fun _ h=>h)<|jS 16 U (by exact fun _ h=>h)<|jS 18 U (by exact fun _ h=>h) ?_
 refine nY (L0:=[(4,(vP o)),(7,(vP p)),(8,(vP q)),(12,(vP N))]) (F:=[(rd kA c.ak.length 9 (c.ak.map ab.cells)).ro,(rd bdA c.cr.length 3 (c.cr.map bG.cells)).ro,(rd hrA c.bu.length 5 (c.bu.map aZ.cells)).ro,(bm B 166 (iM.cells (iM.mk (bV.mk (ag.mk (aJ.mk kA c.ak.length kC)) (aJ.mk bdA c.cr.length bdC) (aJ.mk hrA c.bu.length hrC) c.dC c.cS c.eZ c.ep c.gb)))),(rd plA pl.length 1 (List.zipWith eI pl pz)).ro,(ky (ei eY pl pz)).ro,(bm C 102 [(vP B)]),(bm D 3 [(vI i)]),(bm E 31 [(vS plA pl.length plC)])]) (xs:=(qT b c.bu c.dC c.cS pl i)) (fun k (y:Unit)=>(k≤n.toNat)) (fun k y=>[(bm N 28 (I.cells (I.mk 0 0))),(bm q 28 (I.cells (I.mk 0 0))),(bm p 3 [(vI n)]),(bm o 30 (bV.cells (bV.mk (ag.mk (aJ.mk kA c.ak.length kC)) (aJ.mk bdA c.cr.length bdC) (aJ.mk hrA c.bu.length hrC) c.dC c.cS c.eZ c.ep c.gb))),(rd kA c.ak.length 9 (c.ak.map ab.cells)).ro,(rd bdA c.cr.length 3 (c.cr.map bG.cells)).ro,(rd hrA c.bu.length 5 (c.bu.map aZ.cells)).ro,(rd plA pl.length 1 (List.zipWith eI pl pz)).ro,(ky (ei eY pl pz)).ro]) (fun c (z:Unit)=>(c= .exit 0)) (fun _ z=>[(bm N 28 (I.cells (gv b c.bu c.dC c.cS pl i n.toNat))),(bm q 28 (I.cells (I.mk 0 0))),(bm p 3 [(vI n)]),(bm o 30 (bV.cells (bV.mk (ag.mk (aJ.mk kA c.ak.length kC)) (aJ.mk bdA c.cr.length bdC) (aJ.mk hrA c.bu.length hrC) c.dC c.cS c.eZ c.ep c.gb))),(rd kA c.ak.length 9 (c.ak.map ab.cells)).ro,(rd bdA c.cr.length 3 (c.cr.map bG.cells)).ro,(rd hrA c.bu.length 5 (c.bu.map aZ.cells)).ro,(rd plA pl.length 1 (List.zipWith eI pl pz)).ro,(ky (ei eY pl pz)).ro]) [8,12,13,14,15,16,17,18,19] [4,3,2,11,1,0,5,6,7] () U U (zo c kA kC bdA bdC hrA hrC B pl pz plA plC i C D E b (by exact hin) (by exact hok) (by exact hplan) (by exact hpz) (by exact hi) (by exact hb)) U U U (by exact Nat.zero_le _) (by simp only [List.forall_mem_cons,List.not_mem_nil,false_imp_iff,implies_true,and_true]; exact ⟨⟨_,aG (i:=0) U,(fg (cm _))⟩,⟨_,aG (i:=1) U,(fg (cm _))⟩,⟨_,aG (i:=2) U,(fg (cm _))⟩,⟨_,aG (i:=3) U,(cm _)⟩,⟨_,aG (i:=4) U,(fg (cm _))⟩,⟨_,aG (i:=5) U,(fg (cm _))⟩,⟨_,aG (i:=6) U,(cm _)⟩,⟨_,aG (i:=7) U,(cm _)⟩,⟨_,aG (i:=8) U,(cm _)⟩⟩) (by exact xl) U (bg U) ?_ ?_ ?_ ?_
 rotate_left 1
 ·rintro B9 _ R
  have d:=R
  try dsimp only
  exfalso; rw [lM] at d; omega
 ·rintro Ci id _ f
  have hc:=f
  cases hc
  try dsimp only
  refine aw<|KK K<|WS fun _ M=>dE 1 [] (mc 10 U mn) U<|Je U cn U<|rP 1 [] mn ?_
  refine RK M<|an<|hQ _ _ _ (oA 0 U U<|fH (vs:=[(vA (I.cells (gv b c.bu c.dC c.cS pl i n.toNat))),(vI 0)]) ⟨⟨_,U,.inl ⟨_,_,bQ,mg (vs:=(I.cells (gv b c.bu c.dC c.cS pl i n.toNat))) 11 U U,U,U⟩⟩,U,trivial⟩ fun w hs=>xM ?_ hs)
  show (vT [(vA (I.cells (gv b c.bu c.dC c.cS pl i n.toNat))),(vI 0)])=(vT [(vA (I.cells (gv b c.bu c.dC c.cS pl i n.toNat))),(vI 0)])
  clear hs w hQ hN M L K J AB H G a Z AA
  first|rfl|(simp; done)
 ·rintro Ck _ g
  cases g
 rintro k x _ l ra rb S w1 K25 Qr26 hx P V O T Ak
 obtain ⟨hk,rfl⟩:=Ai hx
 have d:=P
 try dsimp only
 refine WS fun _ W=>rP 1 [] mn ?_
 refine RK W<|ao<|AL U cv fun A2=>eC U cn U<|aB<|j9 (fun _ _ h=>h) (aN [1,0,2,3,4,5,6,7,8,9,10])<|aY (V _ _ ?_)
 refine ar<|WS fun _ X=>rP 3 [] (mc 4 U mn) ?_
 refine RK X<|bH U (aL fun v=>?_) (aM fun v=>?_)
 ·refine bS<|aI ?_
  exact O () _ _ om (aN [0,2,3,4,5,6,7,8,9,10])
 refine WS fun _ Y=>rP 1 [] (mc 1 U mn) ?_
 refine sT U cn U<|RK Y<|bo<|fq U ?_
 obtain rfl:k=n.toNat:=by omega
 exact T _ () _ _ (by exact U) (aN [0,2,3,4,5,6,7,8,9,10])
end
section
open Go.RowKit
theorem BE (n:Nat) (hn2:n≤1000):
 lx Tryz.prog 72 [(vS none 0 0),(vI (n:Int))] [] (fun (x:(OA)×Nat)=>(vS x.1 0 x.2)) (fun (x:(OA)×Nat)=>True) (fun (x:(OA)×Nat)=>[(own x.1 x.2 3 1 [])]):=by
 refine dT kr Tryz.func72 U U fun N Q hQ hN=>?_
 try dsimp only
 refine WS fun _ E=>aU 1 U<|RK E<|al fun _ F=>WS fun _ G=>rP 2 [] mn ?_
 refine RK G<|cd U (aM fun L=>?_) (aL fun L=>?_)
 ·exfalso; omega
 refine WK F<|al fun _ C=>WS fun _ H=>aU 2 U<|rS (JB U CT)<|aU 2 U<|rS (SX (bJ (r:= .int .i64 0) U U U (pK ⟨dc,dc⟩)) U U)<|aU 2 U<|RK H<|WS fun _ AA=>rP 2 [] mn ?_
 refine RK AA<|bH U (aL fun M=>?_) (aM fun M=>?_)
 ·refine WK C<|WS fun _ B=>mG 3 1<|rP 2 [] mn ?_
  refine RK B<|an<|LX hQ (none,0) [0] [] mn U U U U ?_
  trivial
 refine ao<|rP 2 [] mn ?_
 refine rS (JB U CT) ?_
 refine rS (HK 0 U cK om (by first|omega|exact Nat.zero_le _|(simp; omega))) ?_
 refine rP 1 [] mn ?_
 rw [Int.sub_zero]
 refine Ff (n:=(n-0)) U U U od oe U om om dc fun K D J=>rP 2 [] mn ?_
 refine rS (HK 0 U cK om (by first|omega|exact Nat.zero_le _|(simp; omega))) ?_
 refine aU 1 U<|RK C<|WS fun _ A=>rP 2 [] mn ?_
 refine RK A<|an<|LX hQ ((some ⟨K,0,none⟩),D) [0] [] mn U U U U ?_
 trivial
theorem xn (pl:List (List Int)) (pz:List RA) (plA:OA) (plC:Nat) (hpz:pz.length=pl.length) (hpl:pl.length≤100) (hfl:pl.flatten.length≤1000) (hrl: ∀ l∈pl,l.length≤1000):
 lx Tryz.prog 36 [(vS plA pl.length plC)] [(rd plA pl.length 1 (List.zipWith eI pl pz)),(ky (ei eY pl pz))] (fun (x:(OA)×Nat)=>(vS x.1 pl.flatten.length x.2)) (fun (x:(OA)×Nat)=>True) (fun (x:(OA)×Nat)=>[(own x.1 x.2 3 1 (pl.flatten.map iC))]):=by
 refine dT kr Tryz.func36 U U fun s Q hQ hN=>?_
 try dsimp only
 refine WS fun _ f=>aU 1 U<|RK f<|WS fun _ g=>aU 1 U<|RK g<|al fun _ i=>WS fun _ j=>rP 3 [] mn ?_
 refine RK j<|ar ?_
 have A:(0≤pl.length):=by exact Nat.zero_le _
 have n:(vI ((pl.take 0).flatten.length:Int))=(vI 0):=by exact cI sm
 refine br (ι:={z:Nat // (z≤pl.length)}) [0,9,10] [0,1] U U (fun z=>[(3,(vI ((pl.take z.1).flatten.length:Int))),(11,(vI (z.1:Int)))]) (fun z=>[]) (fun _=>rfl) (fun _=>rfl) (fun z=>pl.length-z.1) ⟨0,A⟩ (aR U n<|bg U) (aN [0,1]) ?_
 clear A
 rintro ⟨h,o⟩ J6 e
 try dsimp only
 refine WS fun _ k=>rP 1 [] mn ?_
 refine RK k<|al fun _ m=>cd U (aM fun r=>?_) (aL fun r=>?_)
 ·refine WK m<|al fun _ F=>ar<|WS fun _ G=>?_
  obtain ⟨l,hl⟩:=bh pl h om
  obtain ⟨la,C⟩:=bh pz h om
  have D:(List.zipWith eI pl pz)[h]? =some (eI l la):=jv hl C
  refine rS (IA h U (ay 0 U) iO dc om om)<|rS (fT h 0 (vS la.1 l.length la.2) U bQ (ay 0 U) D U dc U)<|rP 1 [] mn ?_
  refine RK G<|al fun _ H=>?_
  have V:=sM (h:=h+1) (pl:=pl)
  rw [kM hl,List.length_append] at V
  refine ao<|aU 5 U<|RK H<|WS fun _ AB=>rP 2 [] mn ?_
  refine RK AB<|cd U (aM fun b=>?_) (aL fun b=>?_)
  ·exfalso; omega
  refine bS<|aI<|KK F<|ao<|rP 2 [] mn ?_
  refine aB ?_
  have S:(vI (((pl.take (h+1)).flatten.length:Nat):Int))=(vI (((pl.take h).flatten.length:Int)+(l.length:Int))):=by exact cI (by rw [kM hl,List.length_append]; omega)
  have T:(vI (((h+1):Nat):Int))=(vI ((h:Int)+1)):=by exact cI om
  refine aY (e ⟨(h+1),(by first|omega|(simp only []; omega))⟩ _ _ _ U os (b_ 3<|aR U S<|aR U T<|cL.nil _) (aN [0,1]))
 refine bo<|ai<|ai<|aw<|KK i<|al fun _ J=>?_
 obtain rfl:h=pl.length:=by omega
 rw [show (pl.take pl.length).flatten=pl.flatten from by rw [List.take_length]]
 refine ao<|rP 1 [] mn ?_
 refine cX (BE pl.flatten.length hfl) (av) U fun p q=>?_
 obtain ⟨W,Y⟩:=p
 try dsimp only
 refine aU 1 U<|RK J<|al fun _ K=>WS fun _ L=>rP 3 [] mn ?_
 refine RK L<|ar ?_
 have A:(0≤pl.length):=by exact Nat.zero_le _
 refine br (ι:={z:Nat×(OA)×Nat // (z.1≤pl.length)}) [0,25,26] [1,2] U U (fun z=>[(6,(vS z.1.2.1 ((pl.take z.1.1).flatten.length) z.1.2.2)),(27,(vI (z.1.1:Int)))]) (fun z=>[(own z.1.2.1 z.1.2.2 3 1 ((pl.take z.1.1).flatten.map iC))]) (fun _=>rfl) (fun _=>rfl) (fun z=>pl.length-z.1.1) ⟨(0,W,Y),A⟩ (bg U) (aN [1,2,0]) ?_
 clear A
 rintro ⟨⟨h,a,c⟩,B⟩ J24 E
 try dsimp only at B
 try dsimp only
 refine WS fun _ M=>rP 1 [] mn ?_
 refine RK M<|al fun _ N=>bH U (aL fun d=>?_) (aM fun d=>?_)
 ·refine bo<|ai<|ai<|aw<|KK K<|al fun _ R=>?_
  obtain rfl:h=pl.length:=by omega
  rw [show (pl.take pl.length).flatten=pl.flatten from by rw [List.take_length]]
  refine ao<|rP 2 [] mn ?_
  refine RK R<|an<|LX hQ (a,c) [2] [] mn U U U U ?_
  trivial
 refine WK N<|al fun _ O=>ar<|WS fun _ P=>?_
 obtain ⟨l,hl⟩:=bh pl h om
 obtain ⟨la,C⟩:=bh pz h om
 have D:(List.zipWith eI pl pz)[h]? =some (eI l la):=jv hl C
 refine rS (IA h U (ay 0 U) iO dc om om)<|rS (fT h 0 (vS la.1 l.length la.2) U bQ (ay 0 U) D U dc U)<|aU 1 U<|RK P<|ao<|rP 2 [] mn ?_
 refine eN (es2:=(List.map iC ((pl.take (h+1)).flatten))) (m':=((pl.take (h+1)).flatten).length) 2 U U U od U U (by rw [List.length_map]) (show iK _ (rd la.1 l.length 1 (l.map iC)).holds from (dD 1 U (cR hl C (by simp [eY])))) (lk _) (by have:=sM (h:=h+1) (pl:=pl); rw [kM hl,List.length_append] at this; omega) (by have:=sM (h:=h+1) (pl:=pl); rw [kM hl,List.length_append] at this; simp only [maxLen]; omega) (by rw [kM hl]; simp) (by rw [List.length_map]) U fun X Z=>?_
 try dsimp only
 refine aU 1 U<|aB<|aI<|KK O<|ao<|rP 2 [] mn ?_
 refine aB ?_
 have AA:(vI (((h+1):Nat):Int))=(vI ((h:Int)+1)):=by exact cI om
 refine aY (E ⟨((h+1),X,Z),(by first|omega|(simp only []; omega))⟩ _ _ _ U os (b_ 4<|aR U AA<|cL.nil _) (aN [0,1,2]))
theorem py (c:dx) (kA:OA) (kC:Nat) (bdA:OA) (bdC:Nat) (hrA:OA) (hrC:Nat) (pl:List (List Int)) (pz:List RA) (plA:OA) (plC:Nat) (hin:gn c) (hok:fE c=0) (hplan:ia c pl) (hpz:pz.length=pl.length):
 cz Tryz.prog 12 [(vA (bV.cells (bV.mk (ag.mk (aJ.mk kA c.ak.length kC)) (aJ.mk bdA c.cr.length bdC) (aJ.mk hrA c.bu.length hrC) c.dC c.cS c.eZ c.ep c.gb))),(vS plA pl.length plC)] [(rd kA c.ak.length 9 (c.ak.map ab.cells)),(rd bdA c.cr.length 3 (c.cr.map bG.cells)),(rd hrA c.bu.length 5 (c.bu.map aZ.cells)),(rd plA pl.length 1 (List.zipWith eI pl pz)),(ky (ei eY pl pz))] (vT [(vA (I.cells (dj c.ak c.eZ pl.flatten pl.flatten.length))),(vI 0)]):=by
 have Ak:=hin.jP
 have g:=hin.side
 have w:=hin.yD
 have y:=hin.yA
 obtain ⟨E,A⟩:=gC hok
 have S:=bT E
 have j:=cw E
 have AH:=A.ki
 have AO:=A.gQ
 have a:=A.jE
 have b:=A.gS
 have C:=A.kj
 have AR:=A.g8
 have AC:=A.base
 simp only [aF] at a b
 have m:=hplan.len
 have Z:=x4 hplan A
 refine bf kr Tryz.func12 U U fun w0 Q hQ hN=>?_
 try dsimp only
 refine WS fun _ V=>ej U fun b2=>AL U cv fun b3=>aU 1 U<|RK V<|al fun _ W=>WS fun _ X=>rP 2 [] (mc 1 U mn) ?_
 refine cX (tH c kA kC bdA bdC hrA hrC pl pz plA plC (by exact hin) (by exact hok) (by exact hplan) (by exact hpz)) (aX [2,3,4,5,6]) U fun v A1=>?_
 try dsimp only
 refine aU 5 U<|RK X<|WS fun _ Y=>rP 1 [] mn ?_
 refine rS (SX (bJ (r:= .bool false) U U U fW) U U)<|RK Y<|bw U<|WK W<|WS fun _ G=>AL U cv fun T=>RK G<|al fun _ H=>al fun _ AB=>?_
 try dsimp only
 refine ao<|rP 1 [] mn ?_
 refine cX (xn pl pz plA plC (by exact hpz) om om (by exact Z.2)) (aX [7,8]) U fun i o=>?_
 obtain ⟨p,u⟩:=i
 try dsimp only
 refine rP 2 [] mn ?_
 refine RK AB<|ar ?_
 have B:(0≤pl.flatten.length):=by exact Nat.zero_le _
 refine br (ι:={z:Nat // (z≤pl.flatten.length)}) [2,4,8,25,26] [0,3,4,5,6,7,8,9] U U (fun z=>[(27,(vI (z.1:Int)))]) (fun z=>[(bm T 28 (I.cells (dj c.ak c.eZ pl.flatten z.1)))]) (fun _=>rfl) (fun _=>rfl) (fun z=>pl.flatten.length-z.1) ⟨0,B⟩ (bg U) (aN [0,3,4,5,6,7,8,9,1]) ?_
 clear B
 rintro ⟨k,d⟩ J18 F
 try dsimp only
 refine WS fun _ J=>rP 1 [] mn ?_
 refine RK J<|al fun _ K=>bH U (aL fun AA=>?_) (aM fun AA=>?_)
 ·refine bo<|ai<|ai<|aw<|KK H<|al fun _ O=>?_
  obtain rfl:k=pl.flatten.length:=by omega
  refine ao<|dE 1 [] (mc 8 U mn) U<|oa U cn U<|rP 1 [] mn ?_
  refine RK O<|an<|l6 hQ [0] (mc 1 U mn) U ?_
  first|rfl|(simp; done)
 refine WK K<|al fun _ L=>ar<|WS fun _ M=>?_
 obtain ⟨x,hx⟩:=bh pl.flatten k om
 have h:=bp iC hx
 refine rS (IA k U (aQ (n:=pl.flatten.length) 0 U (by rw [List.length_map])) cK dc om om)<|rS (fT k 0 (vI x) U bQ (aQ (n:=pl.flatten.length) 0 U (by rw [List.length_map])) h U dc U)<|rP 1 [] mn ?_
 refine RK M<|al fun _ N=>?_
 have A0:=hplan.flat x (aG hx)
 have Ay:=vU (l:=pl.flatten) S C k
 have e:=fr S x.toNat 1
 have D:=kE (ts:=c.ak) (f:=x) (t:=x+1) E om
 rw [show (x+1-x).toNat=1 by omega] at D
 rw [← D.2.1] at e
 have m1:=jQ C.1 C.2 (show 0≤(j2 c.ak x (x+1)).Lo by omega) (show (j2 c.ak x (x+1)).Lo≤30000 by omega)
 have m2:=jQ C.1 C.2 (show 0≤(j2 c.ak x (x+1)).Hi by omega) (show (j2 c.ak x (x+1)).Hi≤30000 by omega)
 refine ao<|aU 1 U<|rS (LP (ag.cells (ag.mk (aJ.mk kA c.ak.length kC))) 2 U bQ U U U)<|rP 3 [] mn ?_
 refine rS (CL (Aj c.ak kA kC x (x+1) sd sd) (aX [3]) U) ?_
 refine aU 4 U<|AL U cv fun q=>AL U cv fun s=>oa U cn U<|eC U cn U<|aU 1 U<|RK N<|ao<|dE 6 [0,1,2] (mc 10 U (mc 4 U (mc 1 U mn))) U<|rS (BI U (iF ⟨om,om⟩))<|dE 7 [0,1,2] (mc 10 U (mc 4 U (mc 1 U mn))) U<|rS (BI U (iF ⟨om,om⟩))<|rP 1 [] mn ?_
 refine rS (SX (aS (xs:=[(0,.tmp 48),(1,.tmp 56)]) (cs:=(I.cells (I.mk (((dj c.ak c.eZ pl.flatten k).Lo)+(c.eZ*((j2 c.ak x (x+1)).Lo))) (((dj c.ak c.eZ pl.flatten k).Hi)+(c.eZ*((j2 c.ak x (x+1)).Hi)))))) U U (aT fm U)) U U)<|El U cn U<|aB<|aI<|KK L ?_
 have P:(I.cells (I.mk (((dj c.ak c.eZ pl.flatten k).Lo)+(c.eZ*((j2 c.ak x (x+1)).Lo))) (((dj c.ak c.eZ pl.flatten k).Hi)+(c.eZ*((j2 c.ak x (x+1)).Hi)))))=(I.cells (dj c.ak c.eZ pl.flatten (k+1))):=by exact congrArg I.cells ((k3 hx).trans (by rw [D.2.1])).symm
 rw [P]
 refine ao<|rP 2 [] mn ?_
 refine aB ?_
 have R:(vI (((k+1):Nat):Int))=(vI ((k:Int)+1)):=by exact cI om
 refine aY (F ⟨(k+1),(by first|omega|(simp only []; omega))⟩ _ _ _ U (by show _-(k+1)<_-k; omega) (b_ 5<|aR U R<|cL.nil _) (aN [2,3,4,5,6,7,8,9,10]))
end
section
open Go.RowKit
theorem iz (n lo hi:Int):
 cz Tryz.prog 25 [(vI n),(vI lo),(vI hi)] [] (vB (decide (lo≤n∧n≤hi))):=by
 refine bf kr Tryz.func25 U U fun D Q hQ hN=>?_
 try dsimp only
 refine WS fun _ B=>aU 1 U<|RK B<|WS fun _ A=>rP 4 [] mn ?_
 refine bx (t:=10) U (aM fun C=>?_) (aL fun C=>?_)
 ·refine rP 5 [] mn ?_
  refine RK A<|an<|Q1 hQ U U U ?_
  exact cB (eH.2 om)
 refine rP 5 [] mn ?_
 refine RK A<|an<|Q1 hQ U U U ?_
 exact cB (aD om).symm
theorem mj (s:I) (lo hi:Int):
 cz Tryz.prog 54 [(vA (I.cells s)),(vI lo),(vI hi)] [] (vB (decide (s.Lo≤s.Hi∧lo≤s.Lo∧s.Hi≤hi))):=by
 refine bf kr Tryz.func54 U U fun F Q hQ hN=>?_
 try dsimp only
 refine WS fun _ B=>ej U fun E=>aU 1 U<|RK B<|WS fun _ A=>rP 5 [] (mc 0 U mn) ?_
 refine dq (t:=11) U (aL fun C=>?_) (aM fun C=>?_)
 ·refine rP 13 [] mn ?_
  refine RK A<|an<|Q1 hQ U U U ?_
  exact cB (aD om).symm
 refine rP 7 [] (mc 0 U mn) ?_
 refine dq (t:=18) U (aL fun D=>?_) (aM fun D=>?_)
 ·refine rP 6 [] mn ?_
  refine RK A<|an<|Q1 hQ U U U ?_
  exact cB (aD om).symm
 refine rP 6 [] (mc 0 U mn) ?_
 refine RK A<|an<|Q1 hQ U U U ?_
 exact cB (eH.2 om)
theorem xJ (ts:List ab) (tsA:OA) (tsC:Nat) (hlen:ts.length≤1000000):
 cz Tryz.prog 23 [(vA (ag.cells (ag.mk (aJ.mk tsA ts.length tsC))))] [(rd tsA ts.length 9 (ts.map ab.cells))] (vI (if a9 ts=true then 0 else 10)):=by
 refine bf kr Tryz.func23 U U fun H Q hQ hN=>?_
 try dsimp only
 refine WS fun _ A=>ej U fun G=>aU 1 U<|RK A<|al fun _ B=>WS fun _ C=>dE 1 [] (mc 0 U mn) U<|rS (CL (my ts tsA tsC hlen) (aX [1]) U)<|rP 1 [] mn ?_
 refine RK C<|cd U (fun F=>?_) (fun F=>?_)
 ·rw [Bool.not_eq_true'] at F
  refine WS fun _ D=>rP 1 [] mn ?_
  refine RK D<|an<|Q1 hQ U U U ?_
  clear hQ hN D C B A
  first|exact cI (if_pos asm).symm|exact cI (if_neg (by simp_all)).symm|(simp [*]; done)
 rw [Bool.not_eq_false'] at F
 refine WK B<|WS fun _ E=>rP 1 [] mn ?_
 refine RK E<|an<|Q1 hQ U U U ?_
 clear hQ hN E C B A
 first|exact cI (if_pos asm).symm|exact cI (if_neg (by simp_all)).symm|(simp [*]; done)
theorem EV (c:dx) (kA:OA) (kC:Nat) (bdA:OA) (bdC:Nat) (hrA:OA) (hrC:Nat) (hin:gn c):
 cz Tryz.prog 24 [(vA (bV.cells (bV.mk (ag.mk (aJ.mk kA c.ak.length kC)) (aJ.mk bdA c.cr.length bdC) (aJ.mk hrA c.bu.length hrC) c.dC c.cS c.eZ c.ep c.gb)))] [(rd kA c.ak.length 9 (c.ak.map ab.cells)),(rd bdA c.cr.length 3 (c.cr.map bG.cells)),(rd hrA c.bu.length 5 (c.bu.map aZ.cells))] (vB (decide (nP c))):=by
 have C1:=hin.jP
 have Bs:=hin.side
 have Cx:=hin.yD
 have C0:=hin.yA
 refine bf kr Tryz.func24 U U fun w0 Q hQ hN=>?_
 try dsimp only
 refine WS fun _ A5=>ej U fun b2=>aU 1 U<|RK A5<|al fun _ A6=>WS fun _ G=>rP 9 [] (mc 0 U mn) ?_
 refine bx (t:=14) U (aP fun h5=>?_) (aO fun h5=>?_)
 ·refine aU 38 U<|RK G<|aC U<|WS fun _ A7=>rP 1 [] mn ?_
  refine RK A7<|an<|Q1 hQ U U U ?_
  first|exact cB (bY ⟨om,⟨om,om⟩,by simp only [aF]; omega,by simp only [aF]; omega,om,om,om,cE (P:=eF) om B,cE (P:=dH) om C⟩).symm|exact cB (aD fun q=>by have A:=q.sV _ (aG hb); simp only [eF,aF] at A; omega).symm|exact cB (aD fun q=>by have A:=q.hour _ (aG hh); simp only [dH,aF] at A; omega).symm|exact cB (aD fun q=>by have A:=q.ki; have H:=q.gQ; have D:=q.jE; have E:=q.gS; have AB:=q.kj; have J:=q.g8; have K:=q.base; simp only [aF] at D E; omega).symm
 refine dE 3 [] (mc 0 U mn) U<|rS (CL (iz (c.bu.length:Int) 1 8) (av) U)<|rP 3 [] mn ?_
 refine bx (t:=21) U (aP fun h7=>?_) (aO fun h7=>?_)
 ·refine aU 31 U<|RK G<|aC U<|WS fun _ A8=>rP 1 [] mn ?_
  refine RK A8<|an<|Q1 hQ U U U ?_
  first|exact cB (bY ⟨om,⟨om,om⟩,by simp only [aF]; omega,by simp only [aF]; omega,om,om,om,cE (P:=eF) om B,cE (P:=dH) om C⟩).symm|exact cB (aD fun q=>by have A:=q.sV _ (aG hb); simp only [eF,aF] at A; omega).symm|exact cB (aD fun q=>by have A:=q.hour _ (aG hh); simp only [dH,aF] at A; omega).symm|exact cB (aD fun q=>by have A:=q.ki; have H:=q.gQ; have D:=q.jE; have E:=q.gS; have AB:=q.kj; have J:=q.g8; have K:=q.base; simp only [aF] at D E; omega).symm
 refine aU 1 U<|rS (LP (I.cells c.dC) 0 U bQ U U U)<|rS (CL (mj c.dC 0 20) (av) U)<|rP 3 [] mn ?_
 refine bx (t:=27) U (aP fun h9=>?_) (aO fun h9=>?_)
 ·refine aU 25 U<|RK G<|aC U<|WS fun _ R=>rP 1 [] mn ?_
  refine RK R<|an<|Q1 hQ U U U ?_
  first|exact cB (bY ⟨om,⟨om,om⟩,by simp only [aF]; omega,by simp only [aF]; omega,om,om,om,cE (P:=eF) om B,cE (P:=dH) om C⟩).symm|exact cB (aD fun q=>by have A:=q.sV _ (aG hb); simp only [eF,aF] at A; omega).symm|exact cB (aD fun q=>by have A:=q.hour _ (aG hh); simp only [dH,aF] at A; omega).symm|exact cB (aD fun q=>by have A:=q.ki; have H:=q.gQ; have D:=q.jE; have E:=q.gS; have AB:=q.kj; have J:=q.g8; have K:=q.base; simp only [aF] at D E; omega).symm
 refine aU 1 U<|rS (LP (I.cells c.cS) 0 U bQ U U U)<|rS (CL (mj c.cS 1 100) (av) U)<|rP 3 [] mn ?_
 refine bx (t:=33) U (aP fun AC=>?_) (aO fun AC=>?_)
 ·refine aU 19 U<|RK G<|aC U<|WS fun _ S=>rP 1 [] mn ?_
  refine RK S<|an<|Q1 hQ U U U ?_
  first|exact cB (bY ⟨om,⟨om,om⟩,by simp only [aF]; omega,by simp only [aF]; omega,om,om,om,cE (P:=eF) om B,cE (P:=dH) om C⟩).symm|exact cB (aD fun q=>by have A:=q.sV _ (aG hb); simp only [eF,aF] at A; omega).symm|exact cB (aD fun q=>by have A:=q.hour _ (aG hh); simp only [dH,aF] at A; omega).symm|exact cB (aD fun q=>by have A:=q.ki; have H:=q.gQ; have D:=q.jE; have E:=q.gS; have AB:=q.kj; have J:=q.g8; have K:=q.base; simp only [aF] at D E; omega).symm
 refine dE 2 [] (mc 0 U mn) U<|rS (CL (iz c.eZ 0 100) (av) U)<|rP 3 [] mn ?_
 refine bx (t:=39) U (aP fun AH=>?_) (aO fun AH=>?_)
 ·refine aU 13 U<|RK G<|aC U<|WS fun _ T=>rP 1 [] mn ?_
  refine RK T<|an<|Q1 hQ U U U ?_
  first|exact cB (bY ⟨om,⟨om,om⟩,by simp only [aF]; omega,by simp only [aF]; omega,om,om,om,cE (P:=eF) om B,cE (P:=dH) om C⟩).symm|exact cB (aD fun q=>by have A:=q.sV _ (aG hb); simp only [eF,aF] at A; omega).symm|exact cB (aD fun q=>by have A:=q.hour _ (aG hh); simp only [dH,aF] at A; omega).symm|exact cB (aD fun q=>by have A:=q.ki; have H:=q.gQ; have D:=q.jE; have E:=q.gS; have AB:=q.kj; have J:=q.g8; have K:=q.base; simp only [aF] at D E; omega).symm
 refine dE 2 [] (mc 0 U mn) U<|rS (CL (iz c.ep 0 2000) (av) U)<|rP 3 [] mn ?_
 refine bx (t:=45) U (aP fun AO=>?_) (aO fun AO=>?_)
 ·refine aU 7 U<|RK G<|aC U<|WS fun _ AA=>rP 1 [] mn ?_
  refine RK AA<|an<|Q1 hQ U U U ?_
  first|exact cB (bY ⟨om,⟨om,om⟩,by simp only [aF]; omega,by simp only [aF]; omega,om,om,om,cE (P:=eF) om B,cE (P:=dH) om C⟩).symm|exact cB (aD fun q=>by have A:=q.sV _ (aG hb); simp only [eF,aF] at A; omega).symm|exact cB (aD fun q=>by have A:=q.hour _ (aG hh); simp only [dH,aF] at A; omega).symm|exact cB (aD fun q=>by have A:=q.ki; have H:=q.gQ; have D:=q.jE; have E:=q.gS; have AB:=q.kj; have J:=q.g8; have K:=q.base; simp only [aF] at D E; omega).symm
 refine dE 4 [] (mc 0 U mn) U<|rS (CL (iz c.gb 0 c.ep) (av) U)<|rP 2 [] mn ?_
 refine RK G<|cd U (aP fun AR=>?_) (aO fun AR=>?_)
 ·refine WS fun _ V=>rP 1 [] mn ?_
  refine RK V<|an<|Q1 hQ U U U ?_
  first|exact cB (bY ⟨om,⟨om,om⟩,by simp only [aF]; omega,by simp only [aF]; omega,om,om,om,cE (P:=eF) om B,cE (P:=dH) om C⟩).symm|exact cB (aD fun q=>by have A:=q.sV _ (aG hb); simp only [eF,aF] at A; omega).symm|exact cB (aD fun q=>by have A:=q.hour _ (aG hh); simp only [dH,aF] at A; omega).symm|exact cB (aD fun q=>by have A:=q.ki; have H:=q.gQ; have D:=q.jE; have E:=q.gS; have AB:=q.kj; have J:=q.g8; have K:=q.base; simp only [aF] at D E; omega).symm
 refine WK A6<|al fun _ W=>WS fun _ X=>rP 1 [] mn ?_
 refine RK X<|ar ?_
 have F:(0≤c.cr.length)∧(∀ (j:Nat) y,j<0→c.cr[j]? =some y→eF y):=by exact ⟨Nat.zero_le _,fun j y hj=>absurd hj (Nat.not_lt_zero _)⟩
 refine br (ι:={z:Nat // (z≤c.cr.length)∧(∀ (j:Nat) y,j<z→c.cr[j]? =some y→eF y)}) [1] [0,1,2,3] U U (fun z=>[(3,(vI (z.1:Int)))]) (fun z=>[]) (fun _=>rfl) (fun _=>rfl) (fun z=>c.cr.length-z.1) ⟨0,F⟩ (bg U) (aN [0,1,2,3]) ?_
 clear F
 rintro ⟨i,⟨Bf,B⟩⟩ J21 N
 try dsimp only
 refine al fun _ Y=>WS fun _ Z=>rP 5 [] (mc 0 U mn) ?_
 refine RK Z<|cd U (aM fun Ak=>?_) (aL fun Ak=>?_)
 ·refine WK Y<|al fun _ a=>ar<|WS fun _ M=>rP 3 [] (mc 0 U mn) ?_
  obtain ⟨b,hb⟩:=bh c.cr i om
  have x:=bp bG.cells hb
  refine rS (IA i U (ay 2 U) lJ dc om om)<|rS (lp (i*3) U (ay 2 U) (Nat.mul_pos om dc) fh U)<|rS (jq i 0 (I.cells b.lH) U bQ (ay 2 U) x U dc U U)<|rS (CL (mj b.lH 0 2000) (av) U)<|rP 2 [] mn ?_
  refine bx (t:=68) U (aP fun Ay=>?_) (aO fun Ay=>?_)
  ·refine aU 9 U<|RK M<|aC U<|WS fun _ d=>rP 1 [] mn ?_
   refine RK d<|an<|Q1 hQ U U U ?_
   first|exact cB (bY ⟨om,⟨om,om⟩,by simp only [aF]; omega,by simp only [aF]; omega,om,om,om,cE (P:=eF) om B,cE (P:=dH) om C⟩).symm|exact cB (aD fun q=>by have A:=q.sV _ (aG hb); simp only [eF,aF] at A; omega).symm|exact cB (aD fun q=>by have A:=q.hour _ (aG hh); simp only [dH,aF] at A; omega).symm|exact cB (aD fun q=>by have A:=q.ki; have H:=q.gQ; have D:=q.jE; have E:=q.gS; have AB:=q.kj; have J:=q.g8; have K:=q.base; simp only [aF] at D E; omega).symm
  refine dE 3 [] (mc 0 U mn) U<|rS (IA i U (ay 2 U) lJ dc om om)<|rS (lp ((i*3)+2) U (ay 2 U) (Nat.mul_pos om dc) fh U)<|rS (fT i 2 (vI b.v_) U bQ (ay 2 U) x U dc U)<|rS (CL (iz b.v_ 0 9) (av) U)<|rP 2 [] mn ?_
  refine RK M<|bH U (aO fun A0=>?_) (aP fun A0=>?_)
  ·refine bS<|aI<|KK a<|ao<|rP 3 [] mn ?_
   refine aB ?_
   have v:(vI (((i+1):Nat):Int))=(vI ((i:Int)+1)):=by exact cI om
   refine aY (N ⟨(i+1),⟨om,pj (P:=fun _ y=>eF y) B hb (by simp only [eF,aF]; omega)⟩⟩ _ _ _ U os (cL.cons U<|aR U v<|cL.nil _) (aN [0,1,2,3]))
  refine WS fun _ e=>rP 1 [] mn ?_
  refine RK e<|an<|Q1 hQ U U U ?_
  first|exact cB (bY ⟨om,⟨om,om⟩,by simp only [aF]; omega,by simp only [aF]; omega,om,om,om,cE (P:=eF) om B,cE (P:=dH) om C⟩).symm|exact cB (aD fun q=>by have A:=q.sV _ (aG hb); simp only [eF,aF] at A; omega).symm|exact cB (aD fun q=>by have A:=q.hour _ (aG hh); simp only [dH,aF] at A; omega).symm|exact cB (aD fun q=>by have A:=q.ki; have H:=q.gQ; have D:=q.jE; have E:=q.gS; have AB:=q.kj; have J:=q.g8; have K:=q.base; simp only [aF] at D E; omega).symm
 refine bo<|ai<|ai<|aw<|KK W<|al fun _ f=>WS fun _ g=>rP 1 [] mn ?_
 refine RK g<|ar ?_
 have F:(0≤c.bu.length)∧(∀ (j:Nat) y,j<0→c.bu[j]? =some y→dH y):=by exact ⟨Nat.zero_le _,fun j y hj=>absurd hj (Nat.not_lt_zero _)⟩
 refine br (ι:={z:Nat // (z≤c.bu.length)∧(∀ (j:Nat) y,j<z→c.bu[j]? =some y→dH y)}) [1] [0,1,2,3] U U (fun z=>[(4,(vI (z.1:Int)))]) (fun z=>[]) (fun _=>rfl) (fun _=>rfl) (fun z=>c.bu.length-z.1) ⟨0,F⟩ (bg U) (aN [0,1,2,3]) ?_
 clear F
 rintro ⟨m,⟨Bl,C⟩⟩ J34 O
 try dsimp only
 refine al fun _ k=>WS fun _ l=>rP 5 [] (mc 0 U mn) ?_
 refine RK l<|bH U (aL fun A1=>?_) (aM fun A1=>?_)
 ·refine bo<|ai<|ai<|aw<|KK f<|WS fun _ u=>rP 1 [] mn ?_
  refine RK u<|an<|Q1 hQ U U U ?_
  first|exact cB (bY ⟨om,⟨om,om⟩,by simp only [aF]; omega,by simp only [aF]; omega,om,om,om,cE (P:=eF) om B,cE (P:=dH) om C⟩).symm|exact cB (aD fun q=>by have A:=q.sV _ (aG hb); simp only [eF,aF] at A; omega).symm|exact cB (aD fun q=>by have A:=q.hour _ (aG hh); simp only [dH,aF] at A; omega).symm|exact cB (aD fun q=>by have A:=q.ki; have H:=q.gQ; have D:=q.jE; have E:=q.gS; have AB:=q.kj; have J:=q.g8; have K:=q.base; simp only [aF] at D E; omega).symm
 refine WK k<|al fun _ n=>ar<|WS fun _ o=>rP 3 [] (mc 0 U mn) ?_
 obtain ⟨h,hh⟩:=bh c.bu m om
 have A9:=bp aZ.cells hh
 refine rS (IA m U (ay 3 U) lu dc om om)<|rS (jq m 0 (aZ.cells h) U bQ (ay 3 U) A9 U dc U U)<|AL U nB fun B9=>eC U Gp U<|RK o<|WS fun _ L=>aU 1 U<|rS (LP (I.cells h.kx) 0 U bQ U U U)<|rS (CL (mj h.kx 0 50) (av) U)<|rP 2 [] mn ?_
 refine bx (t:=94) U (aP fun A2=>?_) (aO fun A2=>?_)
 ·refine aU 11 U<|RK L<|aC U<|WS fun _ p=>rP 1 [] mn ?_
  refine RK p<|an<|Q1 hQ U U U ?_
  first|exact cB (bY ⟨om,⟨om,om⟩,by simp only [aF]; omega,by simp only [aF]; omega,om,om,om,cE (P:=eF) om B,cE (P:=dH) om C⟩).symm|exact cB (aD fun q=>by have A:=q.sV _ (aG hb); simp only [eF,aF] at A; omega).symm|exact cB (aD fun q=>by have A:=q.hour _ (aG hh); simp only [dH,aF] at A; omega).symm|exact cB (aD fun q=>by have A:=q.ki; have H:=q.gQ; have D:=q.jE; have E:=q.gS; have AB:=q.kj; have J:=q.g8; have K:=q.base; simp only [aF] at D E; omega).symm
 refine dE 2 [] (mc 0 U mn) U<|rS (CL (iz h.o7 0 60) (av) U)<|rP 3 [] mn ?_
 refine bx (t:=100) U (aP fun A3=>?_) (aO fun A3=>?_)
 ·refine aU 5 U<|RK L<|aC U<|WS fun _ r=>rP 1 [] mn ?_
  refine RK r<|an<|Q1 hQ U U U ?_
  first|exact cB (bY ⟨om,⟨om,om⟩,by simp only [aF]; omega,by simp only [aF]; omega,om,om,om,cE (P:=eF) om B,cE (P:=dH) om C⟩).symm|exact cB (aD fun q=>by have A:=q.sV _ (aG hb); simp only [eF,aF] at A; omega).symm|exact cB (aD fun q=>by have A:=q.hour _ (aG hh); simp only [dH,aF] at A; omega).symm|exact cB (aD fun q=>by have A:=q.ki; have H:=q.gQ; have D:=q.jE; have E:=q.gS; have AB:=q.kj; have J:=q.g8; have K:=q.base; simp only [aF] at D E; omega).symm
 refine dE 2 [] (mc 0 U mn) U<|rS (CL (iz h.o2 0 12) (av) U)<|rP 2 [] mn ?_
 refine RK L<|bH U (aO fun A4=>?_) (aP fun A4=>?_)
 ·refine bS<|aI<|KK n<|ao<|rP 3 [] mn ?_
  refine aB ?_
  have w:(vI (((m+1):Nat):Int))=(vI ((m:Int)+1)):=by exact cI om
  refine aY (O ⟨(m+1),⟨om,pj (P:=fun _ y=>dH y) C hh (by simp only [dH,aF]; omega)⟩⟩ _ _ _ U os (cL.cons U<|aR U w<|cL.nil _) (aN [1,2,3,4]))
 refine WS fun _ s=>rP 1 [] mn ?_
 refine RK s<|an<|Q1 hQ U U U ?_
 first|exact cB (bY ⟨om,⟨om,om⟩,by simp only [aF]; omega,by simp only [aF]; omega,om,om,om,cE (P:=eF) om B,cE (P:=dH) om C⟩).symm|exact cB (aD fun q=>by have A:=q.sV _ (aG hb); simp only [eF,aF] at A; omega).symm|exact cB (aD fun q=>by have A:=q.hour _ (aG hh); simp only [dH,aF] at A; omega).symm|exact cB (aD fun q=>by have A:=q.ki; have H:=q.gQ; have D:=q.jE; have E:=q.gS; have AB:=q.kj; have J:=q.g8; have K:=q.base; simp only [aF] at D E; omega).symm
theorem yq (c:dx) (kA:OA) (kC:Nat) (bdA:OA) (bdC:Nat) (hrA:OA) (hrC:Nat) (hin:gn c):
 cz Tryz.prog 6 [(vA (bV.cells (bV.mk (ag.mk (aJ.mk kA c.ak.length kC)) (aJ.mk bdA c.cr.length bdC) (aJ.mk hrA c.bu.length hrC) c.dC c.cS c.eZ c.ep c.gb)))] [(rd kA c.ak.length 9 (c.ak.map ab.cells)),(rd bdA c.cr.length 3 (c.cr.map bG.cells)),(rd hrA c.bu.length 5 (c.bu.map aZ.cells))] (vI (fE c)):=by
 have O:=hin.jP
 have L:=hin.side
 have M:=hin.yD
 have N:=hin.yA
 refine bf kr Tryz.func6 U U fun R Q hQ hN=>?_
 try dsimp only
 refine WS fun _ D=>ej U fun P=>aU 1 U<|RK D<|al fun _ E=>WS fun _ F=>rP 1 [] mn ?_
 refine rS (LP (ag.cells (ag.mk (aJ.mk kA c.ak.length kC))) 0 U bQ U U U) ?_
 refine rS (CL (xJ c.ak kA kC sd) (aX [1]) U) ?_
 refine aU 1 U<|RK F<|WS fun _ G=>rP 2 [] mn ?_
 refine RK G<|cd U (aP fun B=>?_) (aO fun B=>?_)
 ·refine WS fun _ H=>rP 2 [] mn ?_
  refine RK H<|an<|Q1 hQ U U U ?_
  first|(rw [km (by by_cases q:a9 c.ak=true; exact q; exact absurd (if_neg q) (by rw [B]; decide)) A]; done)|(rw [oj (by by_cases q:a9 c.ak=true; exact q; exact absurd (if_neg q) (by rw [B]; decide)) A]; done)|(rw [m6 (by by_cases q:a9 c.ak=true; exact absurd (if_pos q) B; simpa using q),if_neg (by intro q; exact B (if_pos q))]; done)
 refine WK E<|al fun _ AA=>WS fun _ J=>dE 1 [] (mc 0 U mn) U<|rS (CL (EV c kA kC bdA bdC hrA hrC hin) (x_ 1 2 3 U U U U U U) U)<|rP 1 [] mn ?_
 refine RK J<|cd U (aP fun A=>?_) (aO fun A=>?_)
 ·refine WS fun _ K=>rP 1 [] mn ?_
  refine RK K<|an<|Q1 hQ U U U ?_
  first|(rw [km (by by_cases q:a9 c.ak=true; exact q; exact absurd (if_neg q) (by rw [B]; decide)) A]; done)|(rw [oj (by by_cases q:a9 c.ak=true; exact q; exact absurd (if_neg q) (by rw [B]; decide)) A]; done)|(rw [m6 (by by_cases q:a9 c.ak=true; exact absurd (if_pos q) B; simpa using q),if_neg (by intro q; exact B (if_pos q))]; done)
 refine WK AA<|WS fun _ C=>rP 1 [] mn ?_
 refine RK C<|an<|Q1 hQ U U U ?_
 first|(rw [km (by by_cases q:a9 c.ak=true; exact q; exact absurd (if_neg q) (by rw [B]; decide)) A]; done)|(rw [oj (by by_cases q:a9 c.ak=true; exact q; exact absurd (if_neg q) (by rw [B]; decide)) A]; done)|(rw [m6 (by by_cases q:a9 c.ak=true; exact absurd (if_pos q) B; simpa using q),if_neg (by intro q; exact B (if_pos q))]; done)
theorem xH (c:dx) (kA:OA) (kC:Nat) (bdA:OA) (bdC:Nat) (hrA:OA) (hrC:Nat) (pl:List (List Int)) (pz:List RA) (plA:OA) (plC:Nat) (hpz:pz.length=pl.length):
 cz Tryz.prog 5 [(vA (bV.cells (bV.mk (ag.mk (aJ.mk kA c.ak.length kC)) (aJ.mk bdA c.cr.length bdC) (aJ.mk hrA c.bu.length hrC) c.dC c.cS c.eZ c.ep c.gb))),(vS plA pl.length plC)] [(rd kA c.ak.length 9 (c.ak.map ab.cells)),(rd bdA c.cr.length 3 (c.cr.map bG.cells)),(rd hrA c.bu.length 5 (c.bu.map aZ.cells)),(rd plA pl.length 1 (List.zipWith eI pl pz)),(ky (ei eY pl pz))] (vB (decide (zm c pl))):=by
 refine bf kr Tryz.func5 U U fun g Q hQ hN=>?_
 try dsimp only
 refine WS fun _ AA=>ej U fun f=>aU 1 U<|RK AA<|al fun _ V=>WS fun _ C=>aU 1 U<|rS (LP (ag.cells (ag.mk (aJ.mk kA c.ak.length kC))) 0 U bQ U U U)<|rS (CL (wy c.ak kA kC) (aX [1]) U)<|rP 1 [] mn ?_
 refine bx (t:=9) U (aM fun b=>?_) (aL fun b=>?_)
 ·refine aU 16 U<|RK C<|aC U<|WS fun _ W=>rP 1 [] mn ?_
  refine RK W<|an<|Q1 hQ U U U ?_
  first|exact cB (bY (.inl om)).symm|exact cB (bY (.inr ⟨l,aG hl,om⟩)).symm|exact cB (aD (fun q=>by rcases q with q|⟨y,hy,q⟩<;>first|omega|exact cE (P:=fun (y:List Int)=> ¬ 20<(y.length:Int)) om A y hy q)).symm
 refine rP 6 [] (mc 0 U mn) ?_
 refine bx (t:=15) U (aM fun d=>?_) (aL fun d=>?_)
 ·refine aU 10 U<|RK C<|aC U<|WS fun _ X=>rP 1 [] mn ?_
  refine RK X<|an<|Q1 hQ U U U ?_
  first|exact cB (bY (.inl om)).symm|exact cB (bY (.inr ⟨l,aG hl,om⟩)).symm|exact cB (aD (fun q=>by rcases q with q|⟨y,hy,q⟩<;>first|omega|exact cE (P:=fun (y:List Int)=> ¬ 20<(y.length:Int)) om A y hy q)).symm
 refine rP 6 [] (mc 0 U mn) ?_
 refine bx (t:=21) U (aM fun e=>?_) (aL fun e=>?_)
 ·refine aU 4 U<|RK C<|aC U<|WS fun _ E=>rP 1 [] mn ?_
  refine RK E<|an<|Q1 hQ U U U ?_
  first|exact cB (bY (.inl om)).symm|exact cB (bY (.inr ⟨l,aG hl,om⟩)).symm|exact cB (aD (fun q=>by rcases q with q|⟨y,hy,q⟩<;>first|omega|exact cE (P:=fun (y:List Int)=> ¬ 20<(y.length:Int)) om A y hy q)).symm
 refine rP 4 [] mn ?_
 refine RK C<|cd U (aM fun R=>?_) (aL fun R=>?_)
 ·refine WS fun _ F=>rP 1 [] mn ?_
  refine RK F<|an<|Q1 hQ U U U ?_
  first|exact cB (bY (.inl om)).symm|exact cB (bY (.inr ⟨l,aG hl,om⟩)).symm|exact cB (aD (fun q=>by rcases q with q|⟨y,hy,q⟩<;>first|omega|exact cE (P:=fun (y:List Int)=> ¬ 20<(y.length:Int)) om A y hy q)).symm
 refine WK V<|al fun _ G=>WS fun _ H=>rP 1 [] mn ?_
 refine RK H<|ar ?_
 have B:(0≤pl.length)∧(∀ (j:Nat) y,j<0→pl[j]? =some y→ ¬ 20<(y.length:Int)):=by exact ⟨Nat.zero_le _,fun j y hj=>absurd hj (Nat.not_lt_zero _)⟩
 refine br (ι:={z:Nat // (z≤pl.length)∧(∀ (j:Nat) y,j<z→pl[j]? =some y→ ¬ 20<(y.length:Int))}) [1] [1,2,3,4,5] U U (fun z=>[(5,(vI (z.1:Int)))]) (fun z=>[]) (fun _=>rfl) (fun _=>rfl) (fun z=>pl.length-z.1) ⟨0,B⟩ (bg U) (aN [1,2,3,4,5]) ?_
 clear B
 rintro ⟨i,⟨Y,A⟩⟩ J15 D
 try dsimp only
 refine al fun _ AB=>WS fun _ J=>rP 4 [] mn ?_
 refine RK J<|bH U (aL fun S=>?_) (aM fun S=>?_)
 ·refine bo<|ai<|ai<|aw<|KK G<|WS fun _ N=>rP 1 [] mn ?_
  refine RK N<|an<|Q1 hQ U U U ?_
  first|exact cB (bY (.inl om)).symm|exact cB (bY (.inr ⟨l,aG hl,om⟩)).symm|exact cB (aD (fun q=>by rcases q with q|⟨y,hy,q⟩<;>first|omega|exact cE (P:=fun (y:List Int)=> ¬ 20<(y.length:Int)) om A y hy q)).symm
 refine WK AB<|al fun _ K=>ar<|WS fun _ L=>rP 2 [] mn ?_
 obtain ⟨l,hl⟩:=bh pl i om
 obtain ⟨la,Z⟩:=bh pz i om
 have a:(List.zipWith eI pl pz)[i]? =some (eI l la):=jv hl Z
 refine rS (IA i U (ay 3 U) iO dc om om)<|rS (fT i 0 (vS la.1 l.length la.2) U bQ (ay 3 U) a U dc U)<|rP 2 [] mn ?_
 refine RK L<|bH U (aL fun T=>?_) (aM fun T=>?_)
 ·refine bS<|aI<|KK K<|ao<|rP 3 [] mn ?_
  refine aB ?_
  have O:(vI (((i+1):Nat):Int))=(vI ((i:Int)+1)):=by exact cI om
  refine aY (D ⟨(i+1),⟨om,pj (P:=fun _ (y:List Int)=> ¬ 20<(y.length:Int)) A hl om⟩⟩ _ _ _ U os (cL.cons U<|aR U O<|cL.nil _) (aN [0,1,2,3,4]))
 refine WS fun _ M=>rP 1 [] mn ?_
 refine RK M<|an<|Q1 hQ U U U ?_
 first|exact cB (bY (.inl om)).symm|exact cB (bY (.inr ⟨l,aG hl,om⟩)).symm|exact cB (aD (fun q=>by rcases q with q|⟨y,hy,q⟩<;>first|omega|exact cE (P:=fun (y:List Int)=> ¬ 20<(y.length:Int)) om A y hy q)).symm
theorem AE (c:dx) (kA:OA) (kC:Nat) (bdA:OA) (bdC:Nat) (hrA:OA) (hrC:Nat) (pl:List (List Int)) (pz:List RA) (plA:OA) (plC:Nat) (hin:gn c) (hpz:pz.length=pl.length) (hpl:pl.length≤1000000) (hrl: ∀ l∈pl,l.length≤1000000):
 cz Tryz.prog 7 [(vA (bV.cells (bV.mk (ag.mk (aJ.mk kA c.ak.length kC)) (aJ.mk bdA c.cr.length bdC) (aJ.mk hrA c.bu.length hrC) c.dC c.cS c.eZ c.ep c.gb))),(vS plA pl.length plC)] [(rd kA c.ak.length 9 (c.ak.map ab.cells)),(rd bdA c.cr.length 3 (c.cr.map bG.cells)),(rd hrA c.bu.length 5 (c.bu.map aZ.cells)),(rd plA pl.length 1 (List.zipWith eI pl pz)),(ky (ei eY pl pz))] (vB (decide (ia c pl))):=by
 have DA:=hin.jP
 have Cx:=hin.side
 have C1:=hin.yD
 have C2:=hin.yA
 refine bf kr Tryz.func7 U U fun w0 Q hQ hN=>?_
 try dsimp only
 refine WS fun _ A9=>ej U fun b2=>aU 1 U<|RK A9<|al fun _ Bf=>WS fun _ Bl=>rP 6 [] (mc 0 U mn) ?_
 refine RK Bl<|cd U (aP fun h5=>?_) (aO fun h5=>?_)
 ·refine WS fun _ Bs=>rP 1 [] mn ?_
  refine RK Bs<|an<|Q1 hQ U U U ?_
  first|exact cB (bY (jg om om A)).symm|exact cB (aD (fun q=>by have:=q.len; omega)).symm|exact cB (aD (fun q=>by have B:=q.row _ _ _ hl G; have H:=B.1; first|omega|exact B.2.1.elim (fun E=>by omega) (fun E=>Bool.noConfusion ((show hr.l7=false by assumption).symm.trans E)))).symm|exact cB (aD (fun q=>by obtain ⟨L,K,B⟩:=q.get hl; have H:=B.2.2 _ _ hx; first|omega|(have E:=H.2 _ om hy; omega))).symm
 refine WK Bf<|al fun _ B9=>WS fun _ Ci=>rP 1 [] mn ?_
 refine RK Ci<|ar ?_
 have C:(0≤pl.length)∧(oE c pl 0):=by exact ⟨Nat.zero_le _,x2⟩
 refine br (ι:={z:Nat // (z≤pl.length)∧(oE c pl z)}) [1,2] [0,1,2,3,4,5] U U (fun z=>[(5,(vI (z.1:Int)))]) (fun z=>[]) (fun _=>rfl) (fun _=>rfl) (fun z=>pl.length-z.1) ⟨0,C⟩ (bg U) (aN [0,1,2,3,4,5]) ?_
 clear C
 rintro ⟨i,⟨Ck,A⟩⟩ J9 g
 try dsimp only
 refine al fun _ h=>WS fun _ j=>rP 4 [] mn ?_
 refine RK j<|bH U (aL fun A4=>?_) (aM fun A4=>?_)
 ·refine bo<|ai<|ai<|aw<|KK B9<|WS fun _ AR=>rP 1 [] mn ?_
  refine RK AR<|an<|Q1 hQ U U U ?_
  first|exact cB (bY (jg om om A)).symm|exact cB (aD (fun q=>by have:=q.len; omega)).symm|exact cB (aD (fun q=>by have B:=q.row _ _ _ hl G; have H:=B.1; first|omega|exact B.2.1.elim (fun E=>by omega) (fun E=>Bool.noConfusion ((show hr.l7=false by assumption).symm.trans E)))).symm|exact cB (aD (fun q=>by obtain ⟨L,K,B⟩:=q.get hl; have H:=B.2.2 _ _ hx; first|omega|(have E:=H.2 _ om hy; omega))).symm
 refine WK h<|al fun _ T=>ar<|al fun _ AA=>al fun _ M=>dF cx 29 kr<|dP 2 [] mn ?_
 obtain ⟨l,hl⟩:=bh pl i om
 obtain ⟨la,F⟩:=bh pz i om
 have AB:(List.zipWith eI pl pz)[i]? =some (eI l la):=jv hl F
 refine dS (IA i U (ay 4 U) iO dc om om)<|dS (fT i 0 (vS la.1 l.length la.2) U bQ (ay 4 U) AB U dc U)<|dP 4 [] (mc 0 U mn) ?_
 obtain ⟨hr,G⟩:=bh c.bu i om
 have X:=bp aZ.cells G
 refine dS (IA i U (ay 3 U) lu dc om om)<|dS (lp ((i*5)+3) U (ay 3 U) (Nat.mul_pos om dc) fh U)<|dS (fT i 3 (vI hr.o2) U bQ (ay 3 U) X U dc U)<|dP 2 [] mn ?_
 refine dY (t:=31) U (aM fun A6=>?_) (aL fun A6=>?_)
 ·refine fQ 16 U<|cj<|RK M<|aC U<|WS fun _ m=>rP 1 [] mn ?_
  refine RK m<|an<|Q1 hQ U U U ?_
  first|exact cB (bY (jg om om A)).symm|exact cB (aD (fun q=>by have:=q.len; omega)).symm|exact cB (aD (fun q=>by have B:=q.row _ _ _ hl G; have H:=B.1; first|omega|exact B.2.1.elim (fun E=>by omega) (fun E=>Bool.noConfusion ((show hr.l7=false by assumption).symm.trans E)))).symm|exact cB (aD (fun q=>by obtain ⟨L,K,B⟩:=q.get hl; have H:=B.2.2 _ _ hx; first|omega|(have E:=H.2 _ om hy; omega))).symm
 refine fQ 2 U<|dS (IA i U (ay 4 U) iO dc om om)<|dS (fT i 0 (vS la.1 l.length la.2) U bQ (ay 4 U) AB U dc U)<|dP 3 [] mn ?_
 refine gj (t:=38) U (aL fun A8=>?_) (aM fun A8=>?_)
 ·refine dP 9 [] mn ?_
  refine cj<|RK M<|bw U<|WK AA<|al fun _ v=>?_
  have J:l.length=0∨hr.l7=true:=by first|(left; omega)|(right; simp_all; done)|(by_cases q:l.length=0; exact .inl q; exact .inr (by simp_all))
  refine ao<|rP 1 [] mn ?_
  refine RK v<|ar ?_
  have Cp:=hrl l (aG hl)
  have C:(0≤l.length)∧(j6 c.cr.length l 0):=by exact ⟨Nat.zero_le _,qt⟩
  refine br (ι:={z:Nat // (z≤l.length)∧(j6 c.cr.length l z)}) [1,2,5] [0,1,2,3,4,5] U U (fun z=>[(6,(vI (z.1:Int)))]) (fun z=>[]) (fun _=>rfl) (fun _=>rfl) (fun z=>l.length-z.1) ⟨0,C⟩ (bg U) (aN [0,1,2,3,4,5]) ?_
  clear C
  rintro ⟨k,⟨d,D⟩⟩ J31 S
  try dsimp only
  refine al fun _ w=>WS fun _ AC=>aU 3 U<|rS (IA i U (ay 4 U) iO dc om om)<|rS (fT i 0 (vS la.1 l.length la.2) U bQ (ay 4 U) AB U dc U)<|rP 2 [] mn ?_
  refine RK AC<|bH U (aL fun A7=>?_) (aM fun A7=>?_)
  ·refine bo<|ai<|ai<|aw<|aI<|KK T<|ao<|rP 3 [] mn ?_
   refine aB ?_
   have A3:(vI (((i+1):Nat):Int))=(vI ((i:Int)+1)):=by exact cI om
   refine aY (g ⟨(i+1),⟨om,ry A hl G (vY om om J D)⟩⟩ _ _ _ U os (cL.cons U<|cL.cons U<|aR U A3<|cL.nil _) (aN [0,1,2,3,4,5]))
  refine WK w<|al fun _ W=>ar<|al fun _ O=>dF cx 35 kr<|fQ 2 U<|dS (IA i U (ay 4 U) iO dc om om)<|dS (fT i 0 (vS la.1 l.length la.2) U bQ (ay 4 U) AB U dc U)<|dP 1 [] mn ?_
  obtain ⟨x,hx⟩:=bh l k om
  have P:=bp iC hx
  refine dS (IA k U (show iK _ (rd la.1 l.length 1 (l.map iC)).holds from (dD 5 U (cR hl F (by simp [eY])))) cK dc om om)<|dS (fT k 0 (vI x) U bQ (show iK _ (rd la.1 l.length 1 (l.map iC)).holds from (dD 5 U (cR hl F (by simp [eY])))) P U dc U)<|jA 4 [] (mc 0 U mn) U<|dS (CL (iz x 0 ((c.cr.length:Int)-1)) (av) U)<|dP 2 [] mn ?_
  refine dY (t:=70) U (aP fun Z=>?_) (aO fun Z=>?_)
  ·refine fQ 21 U<|cj<|RK O<|aC U<|WS fun _ AH=>rP 1 [] mn ?_
   refine RK AH<|an<|Q1 hQ U U U ?_
   first|exact cB (bY (jg om om A)).symm|exact cB (aD (fun q=>by have:=q.len; omega)).symm|exact cB (aD (fun q=>by have B:=q.row _ _ _ hl G; have H:=B.1; first|omega|exact B.2.1.elim (fun E=>by omega) (fun E=>Bool.noConfusion ((show hr.l7=false by assumption).symm.trans E)))).symm|exact cB (aD (fun q=>by obtain ⟨L,K,B⟩:=q.get hl; have H:=B.2.2 _ _ hx; first|omega|(have E:=H.2 _ om hy; omega))).symm
  refine dP 3 [] mn ?_
  refine gj (t:=73) U (aL fun a=>?_) (aM fun a=>?_)
  ·refine fQ 18 U<|cj<|RK O<|bw U<|bS<|aI<|KK W<|ao<|rP 3 [] mn ?_
   refine aB ?_
   have A2:(vI (((k+1):Nat):Int))=(vI ((k:Int)+1)):=by exact cI om
   refine aY (S ⟨(k+1),⟨om,kR D hx om (fun z f hz=>by first|omega|(rw [hy] at hz; cases hz; omega))⟩⟩ _ _ _ rfl os (b_ 3<|aR rfl A2<|cL.nil _) (aN [0,1,2,3,4,5]))
  refine fQ 2 U<|dS (IA i U (ay 4 U) iO dc om om)<|dS (fT i 0 (vS la.1 l.length la.2) U bQ (ay 4 U) AB U dc U)<|fQ 1 U<|dS (IA k U (show iK _ (rd la.1 l.length 1 (l.map iC)).holds from (dD 5 U (cR hl F (by simp [eY])))) cK dc om om)<|dS (fT k 0 (vI x) U bQ (show iK _ (rd la.1 l.length 1 (l.map iC)).holds from (dD 5 U (cR hl F (by simp [eY])))) P U dc U)<|fQ 2 U<|dS (IA i U (ay 4 U) iO dc om om)<|dS (fT i 0 (vS la.1 l.length la.2) U bQ (ay 4 U) AB U dc U)<|dP 2 [] mn ?_
  obtain ⟨y,hy⟩:=bh l (k-1) om
  have e:=bp iC hy
  refine dS (IA (k-1) U (show iK _ (rd la.1 l.length 1 (l.map iC)).holds from (dD 5 U (cR hl F (by simp [eY])))) cK dc om om)<|dS (fT (k-1) 0 (vI y) U bQ (show iK _ (rd la.1 l.length 1 (l.map iC)).holds from (dD 5 U (cR hl F (by simp [eY])))) e U dc U)<|dP 3 [] mn ?_
  refine cj<|RK O<|bH U (aL fun b=>?_) (aM fun b=>?_)
  ·refine bS<|aI<|KK W<|ao<|rP 3 [] mn ?_
   refine aB ?_
   have A1:(vI (((k+1):Nat):Int))=(vI ((k:Int)+1)):=by exact cI om
   refine aY (S ⟨(k+1),⟨om,kR D hx om (fun z f hz=>by first|omega|(rw [hy] at hz; cases hz; omega))⟩⟩ _ _ _ rfl os (b_ 3<|aR rfl A1<|cL.nil _) (aN [0,1,2,3,4,5]))
  refine WS fun _ AO=>rP 1 [] mn ?_
  refine RK AO<|an<|Q1 hQ U U U ?_
  first|exact cB (bY (jg om om A)).symm|exact cB (aD (fun q=>by have:=q.len; omega)).symm|exact cB (aD (fun q=>by have B:=q.row _ _ _ hl G; have H:=B.1; first|omega|exact B.2.1.elim (fun E=>by omega) (fun E=>Bool.noConfusion ((show hr.l7=false by assumption).symm.trans E)))).symm|exact cB (aD (fun q=>by obtain ⟨L,K,B⟩:=q.get hl; have H:=B.2.2 _ _ hx; first|omega|(have E:=H.2 _ om hy; omega))).symm
 refine jA 3 [] (mc 0 U mn) U<|dS (IA i U (ay 3 U) lu dc om om)<|dS (lp ((i*5)+4) U (ay 3 U) (Nat.mul_pos om dc) fh U)<|dS (fT i 4 (vB hr.l7) U bQ (ay 3 U) X U dc U)<|dP 3 [] mn ?_
 refine cj<|RK M<|cd U (fun Y=>?_) (fun Y=>?_)
 ·rw [Bool.not_eq_true'] at Y
  refine WS fun _ n=>rP 1 [] mn ?_
  refine RK n<|an<|Q1 hQ U U U ?_
  first|exact cB (bY (jg om om A)).symm|exact cB (aD (fun q=>by have:=q.len; omega)).symm|exact cB (aD (fun q=>by have B:=q.row _ _ _ hl G; have H:=B.1; first|omega|exact B.2.1.elim (fun E=>by omega) (fun E=>Bool.noConfusion ((show hr.l7=false by assumption).symm.trans E)))).symm|exact cB (aD (fun q=>by obtain ⟨L,K,B⟩:=q.get hl; have H:=B.2.2 _ _ hx; first|omega|(have E:=H.2 _ om hy; omega))).symm
 rw [Bool.not_eq_false'] at Y
 refine WK AA<|al fun _ o=>?_
 have J:l.length=0∨hr.l7=true:=by first|(left; omega)|(right; simp_all; done)|(by_cases q:l.length=0; exact .inl q; exact .inr (by simp_all))
 refine ao<|rP 1 [] mn ?_
 refine RK o<|ar ?_
 have Cp:=hrl l (aG hl)
 have C:(0≤l.length)∧(j6 c.cr.length l 0):=by exact ⟨Nat.zero_le _,qt⟩
 refine br (ι:={z:Nat // (z≤l.length)∧(j6 c.cr.length l z)}) [1,2,5] [0,1,2,3,4,5] U U (fun z=>[(6,(vI (z.1:Int)))]) (fun z=>[]) (fun _=>rfl) (fun _=>rfl) (fun z=>l.length-z.1) ⟨0,C⟩ (bg U) (aN [0,1,2,3,4,5]) ?_
 clear C
 rintro ⟨k,⟨d,D⟩⟩ J19 R
 try dsimp only
 refine al fun _ p=>WS fun _ r=>aU 3 U<|rS (IA i U (ay 4 U) iO dc om om)<|rS (fT i 0 (vS la.1 l.length la.2) U bQ (ay 4 U) AB U dc U)<|rP 2 [] mn ?_
 refine RK r<|bH U (aL fun A5=>?_) (aM fun A5=>?_)
 ·refine bo<|ai<|ai<|aw<|aI<|KK T<|ao<|rP 3 [] mn ?_
  refine aB ?_
  have A0:(vI (((i+1):Nat):Int))=(vI ((i:Int)+1)):=by exact cI om
  refine aY (g ⟨(i+1),⟨om,ry A hl G (vY om om J D)⟩⟩ _ _ _ U os (cL.cons U<|cL.cons U<|aR U A0<|cL.nil _) (aN [0,1,2,3,4,5]))
 refine WK p<|al fun _ V=>ar<|al fun _ N=>dF cx 35 kr<|fQ 2 U<|dS (IA i U (ay 4 U) iO dc om om)<|dS (fT i 0 (vS la.1 l.length la.2) U bQ (ay 4 U) AB U dc U)<|dP 1 [] mn ?_
 obtain ⟨x,hx⟩:=bh l k om
 have P:=bp iC hx
 refine dS (IA k U (show iK _ (rd la.1 l.length 1 (l.map iC)).holds from (dD 5 U (cR hl F (by simp [eY])))) cK dc om om)<|dS (fT k 0 (vI x) U bQ (show iK _ (rd la.1 l.length 1 (l.map iC)).holds from (dD 5 U (cR hl F (by simp [eY])))) P U dc U)<|jA 4 [] (mc 0 U mn) U<|dS (CL (iz x 0 ((c.cr.length:Int)-1)) (av) U)<|dP 2 [] mn ?_
 refine dY (t:=70) U (aP fun Z=>?_) (aO fun Z=>?_)
 ·refine fQ 21 U<|cj<|RK N<|aC U<|WS fun _ s=>rP 1 [] mn ?_
  refine RK s<|an<|Q1 hQ U U U ?_
  first|exact cB (bY (jg om om A)).symm|exact cB (aD (fun q=>by have:=q.len; omega)).symm|exact cB (aD (fun q=>by have B:=q.row _ _ _ hl G; have H:=B.1; first|omega|exact B.2.1.elim (fun E=>by omega) (fun E=>Bool.noConfusion ((show hr.l7=false by assumption).symm.trans E)))).symm|exact cB (aD (fun q=>by obtain ⟨L,K,B⟩:=q.get hl; have H:=B.2.2 _ _ hx; first|omega|(have E:=H.2 _ om hy; omega))).symm
 refine dP 3 [] mn ?_
 refine gj (t:=73) U (aL fun a=>?_) (aM fun a=>?_)
 ·refine fQ 18 U<|cj<|RK N<|bw U<|bS<|aI<|KK V<|ao<|rP 3 [] mn ?_
  refine aB ?_
  have Ay:(vI (((k+1):Nat):Int))=(vI ((k:Int)+1)):=by exact cI om
  refine aY (R ⟨(k+1),⟨om,kR D hx om (fun z f hz=>by first|omega|(rw [hy] at hz; cases hz; omega))⟩⟩ _ _ _ rfl os (b_ 3<|aR rfl Ay<|cL.nil _) (aN [0,1,2,3,4,5]))
 refine fQ 2 U<|dS (IA i U (ay 4 U) iO dc om om)<|dS (fT i 0 (vS la.1 l.length la.2) U bQ (ay 4 U) AB U dc U)<|fQ 1 U<|dS (IA k U (show iK _ (rd la.1 l.length 1 (l.map iC)).holds from (dD 5 U (cR hl F (by simp [eY])))) cK dc om om)<|dS (fT k 0 (vI x) U bQ (show iK _ (rd la.1 l.length 1 (l.map iC)).holds from (dD 5 U (cR hl F (by simp [eY])))) P U dc U)<|fQ 2 U<|dS (IA i U (ay 4 U) iO dc om om)<|dS (fT i 0 (vS la.1 l.length la.2) U bQ (ay 4 U) AB U dc U)<|dP 2 [] mn ?_
 obtain ⟨y,hy⟩:=bh l (k-1) om
 have e:=bp iC hy
 refine dS (IA (k-1) U (show iK _ (rd la.1 l.length 1 (l.map iC)).holds from (dD 5 U (cR hl F (by simp [eY])))) cK dc om om)<|dS (fT (k-1) 0 (vI y) U bQ (show iK _ (rd la.1 l.length 1 (l.map iC)).holds from (dD 5 U (cR hl F (by simp [eY])))) e U dc U)<|dP 3 [] mn ?_
 refine cj<|RK N<|bH U (aL fun b=>?_) (aM fun b=>?_)
 ·refine bS<|aI<|KK V<|ao<|rP 3 [] mn ?_
  refine aB ?_
  have Ak:(vI (((k+1):Nat):Int))=(vI ((k:Int)+1)):=by exact cI om
  refine aY (R ⟨(k+1),⟨om,kR D hx om (fun z f hz=>by first|omega|(rw [hy] at hz; cases hz; omega))⟩⟩ _ _ _ rfl os (b_ 3<|aR rfl Ak<|cL.nil _) (aN [0,1,2,3,4,5]))
 refine WS fun _ u=>rP 1 [] mn ?_
 refine RK u<|an<|Q1 hQ U U U ?_
 first|exact cB (bY (jg om om A)).symm|exact cB (aD (fun q=>by have:=q.len; omega)).symm|exact cB (aD (fun q=>by have B:=q.row _ _ _ hl G; have H:=B.1; first|omega|exact B.2.1.elim (fun E=>by omega) (fun E=>Bool.noConfusion ((show hr.l7=false by assumption).symm.trans E)))).symm|exact cB (aD (fun q=>by obtain ⟨L,K,B⟩:=q.get hl; have H:=B.2.2 _ _ hx; first|omega|(have E:=H.2 _ om hy; omega))).symm
end
section
open Go.RowKit
theorem gY (n lo hi:Int):
 cz Tryz.prog 111 [(vI n),(vI lo),(vI hi)] [] (vB (decide (lo≤n∧n≤hi))):=by
 refine bf kr Tryz.func111 U U fun D Q hQ hN=>?_
 try dsimp only
 refine WS fun _ B=>aU 1 U<|RK B<|WS fun _ A=>rP 4 [] mn ?_
 refine bx (t:=10) U (aM fun C=>?_) (aL fun C=>?_)
 ·refine rP 5 [] mn ?_
  refine RK A<|an<|Q1 hQ U U U ?_
  exact cB (eH.2 om)
 refine rP 5 [] mn ?_
 refine RK A<|an<|Q1 hQ U U U ?_
 exact cB (aD om).symm
theorem tO (ts:List ab) (tsA:OA) (tsC:Nat) (hst: ∀ x∈ts,a_ x) (hlen:ts.length≤12):
 lx Tryz.prog 165 [(vA (ag.cells (ag.mk (aJ.mk tsA ts.length tsC))))] [(rd tsA ts.length 9 (ts.map ab.cells))] (fun (x:(OA)×Nat)=>(vS x.1 ((eP ts (ts.length+1)).length) x.2)) (fun (x:(OA)×Nat)=>True) (fun (x:(OA)×Nat)=>[(own x.1 x.2 28 2 ((eP ts (ts.length+1)).map I.cells))]):=by
 refine dT kr Tryz.func165 U U fun V Q hQ hN=>?_
 try dsimp only
 refine WS fun _ J=>ej U fun AA=>aU 1 U<|RK J<|WS fun _ K=>aU 1 U<|RK K<|al fun _ L=>WS fun _ M=>rP 1 [] mn ?_
 refine RK M<|ar<|f_ 28 2 ?_
 have A:(0≤ts.length+1):=by exact Nat.zero_le _
 refine br (ι:={z:Nat×(OA)×Nat // (z.1≤ts.length+1)}) [1] [1,2] U U (fun z=>[(3,(vS z.1.2.1 ((eP ts z.1.1).length) z.1.2.2)),(4,(vI (z.1.1:Int)))]) (fun z=>[(own z.1.2.1 z.1.2.2 28 2 ((eP ts z.1.1).map I.cells))]) (fun _=>rfl) (fun _=>rfl) (fun z=>ts.length+1-z.1.1) ⟨(0,none,0),A⟩ (bg U) (aN [1,2,0]) ?_
 clear A
 rintro ⟨⟨i,a,c⟩,B⟩ J6 AB
 try dsimp only at B
 try dsimp only
 refine al fun _ N=>WS fun _ O=>rP 5 [] (mc 0 U mn) ?_
 refine RK O<|bH U (aL fun T=>?_) (aM fun T=>?_)
 ·refine bo<|ai<|ai<|aw<|KK L<|WS fun _ E=>?_
  obtain rfl:i=ts.length+1:=by omega
  refine rP 2 [] mn ?_
  refine RK E<|an<|LX hQ (a,c) [2] [] mn U U U U ?_
  trivial
 refine WK N<|al fun _ C=>ar<|WS fun _ D=>dE 2 [] (mc 0 U mn) U<|rS (CL (su ts tsA tsC 0 (i:Int) hst hlen om) (aX [1]) U)<|aU 3 U<|AL U cv fun P=>AL U cv fun R=>oa U cn U<|eC U cn U<|RK D<|ao<|rP 2 [] (mc 1 U mn) ?_
 refine bX (xs:=[.tmp 21]) (cs:=(I.cells (bW ts (0:Int).toNat ((i:Int)-0).toNat))) U hU cv U U U U (by simp [Value.cells,I.aq]) U U fun S=>?_
 refine eN (es2:=(List.map I.cells (eP ts (i+1)))) (m':=(eP ts (i+1)).length) 5 U U U Gf U U sm (aH (es:=List.map I.cells [(bW ts (0:Int).toNat ((i:Int)-0).toNat)]) 0 U U (by simp [I.aq]) U) (lD _) (by simp only [kd]; omega) (by simp only [maxLen,kd]; omega) (by rw [tU]; simp) sm U fun G H=>?_
 try dsimp only
 refine aU 1 U<|aB<|aI<|KK C<|ao<|rP 3 [] mn ?_
 refine aB ?_
 have F:(vI (((i+1):Nat):Int))=(vI ((i:Int)+1)):=by exact cI om
 refine aY (AB ⟨((i+1),G,H),(by first|omega|(simp only []; omega))⟩ _ _ _ U os (cL.cons U<|cL.cons U<|aR U F<|cL.nil _) (aN [3,4,5]))
theorem FG (ts:List ab) (tsA:OA) (tsC:Nat) (s:ae) (hlen:ts.length≤1000000) (hside: ∀ x∈ts,0≤x.ct∧x.ct≤255):
 cz Tryz.prog 147 [(vA (ag.cells (ag.mk (aJ.mk tsA ts.length tsC)))),(vA (ae.cells s))] [(rd tsA ts.length 9 (ts.map ab.cells))] (vT [(vA (I.cells (D0 ts s))),(vI (wB ts s))]):=by
 refine bf kr Tryz.func147 U U fun r Q hQ hN=>?_
 try dsimp only
 refine WS fun _ R=>ej U fun i=>ej U fun k=>AL U cv fun l=>aU 1 U<|RK R<|al fun _ S=>WS fun _ T=>dE 1 [] (mc 2 U mn) U<|rS (CL (my ts tsA tsC hlen) (aX [3]) U)<|rP 1 [] mn ?_
 refine RK T<|cd U (fun AB=>?_) (fun AB=>?_)
 ·rw [Bool.not_eq_true'] at AB
  refine WS fun _ AA=>rS (SX (aS (xs:=[]) (cs:=(I.cells (I.mk 0 0))) U U (aT fm U)) U U)<|eC U cn U<|rP 1 [] mn ?_
  refine RK AA<|an<|l6 hQ [0] (mc 0 U mn) U ?_
  (have e:=AD (s:=s) (by simpa using AB); rw [e.1,e.2]<;>rfl)
 rw [Bool.not_eq_false'] at AB
 refine WK S<|al fun _ V=>WS fun _ W=>?_
 have M:=bT AB
 have Z:=cw AB
 refine dE 2 [0,1] (mc 2 U (mc 1 U mn)) U<|rS (CL (ju ts tsA tsC s asm asm) (aX [3]) U)<|rP 1 [] mn ?_
 refine RK W<|cd U (aP fun D=>?_) (aO fun D=>?_)
 ·refine WS fun _ O=>rS (SX (aS (xs:=[]) (cs:=(I.cells (I.mk 0 0))) U U (aT fm U)) U U)<|eC U cn U<|rP 1 [] mn ?_
  refine RK O<|an<|l6 hQ [0] (mc 0 U mn) U ?_
  (have e:=zl AB D; rw [e.1,e.2]<;>rfl)
 refine WK V<|al fun _ H=>mH cx [0,2,3] [1,4,5,6,7] [false,false,false] [] [(bm l 28 (I.cells (I.mk 0 0))),(bm k 37 (ae.cells s)),(bm i 24 (ag.cells (ag.mk (aJ.mk tsA ts.length tsC)))),(rd tsA ts.length 9 (ts.map ab.cells)).ro] [] kr (aN [0,1,2,3]) (aN []) ?_
 have q:=D.1
 have N:=lS M D
 have p:(eP ts (ts.length+1)).length=ts.length+1:=kd
 refine eS U (LW 2 U bQ U U)<|eS U (FA 0 U fh U)<|eS U (L1 (vI s.ax) 1 U bQ U U)<|eJ U<|dz [1,6] kr (bD ?_<|bD ?_<|en)
 rotate_left 1
 ·refine NO U U [1,4,5,7] fun T12 J=>AL U cv fun f=>RD J 1 U<|N1 1<|NO U U [4,5,7] fun T14 P=>cX (tO ts tsA tsC asm asm) (aX [4]) U fun Y b=>?_
  obtain ⟨d,o⟩:=Y
  try dsimp only
  refine RD P 2 U<|N1 4<|NO U U [5,7] fun T19 E=>?_
  obtain ⟨z,hz⟩:=bh (eP ts (ts.length+1)) ((s.ax).toNat) om
  have A:=bp I.cells hz
  refine rS (IA ((s.ax).toNat) U (aQ (n:=(eP ts (ts.length+1)).length) 0 U sm) hU dc om om)<|RD E 2 U<|N1 5<|NO U U [7] fun T20 F=>rS (jq ((s.ax).toNat) 0 (I.cells z) U bQ (aQ (n:=(eP ts (ts.length+1)).length) 0 U sm) A U dc U U)<|RD F 2 U<|N1 7<|NO U U [] fun T21 C=>oa U cn U<|RD C 2 U<|mQ<|KK H<|WS fun _ B=>rP 1 [] mn ?_
  have A:=kT hz
  have G:=fr M 0 s.ax.toNat
  unfold iJ at N
  rw [← A] at G
  refine dE 11 [0,1,0,1] (mc 1 U (mc 3 U mn)) U<|rS (SX (aS (xs:=[(0,.tmp 27),(1,.tmp 33)]) (cs:=(I.cells (I.mk (z.Lo+s.hG.Lo) (z.Hi+s.hG.Hi)))) U U (aT fm U)) U U)<|sT U cn U<|rP 1 [] mn ?_
  refine RK B<|an<|l6 hQ [0] (mc 2 U mn) U ?_
  (have e:=qn AB D; subst A; rw [e.1,e.2]<;>rfl)
 refine NO U U [4,5,6,7] fun T12 J=>cX (tO ts tsA tsC asm asm) (aX [3]) U fun X a=>?_
 obtain ⟨c,m⟩:=X
 try dsimp only
 refine RD J 1 U<|dz [4,6] kr (bD ?_<|bD ?_<|en)
 rotate_left 1
 ·refine NO U U [4,5,7] fun T17 K=>AL U cv fun g=>RD K 2 U<|N1 4<|NO U U [5,7] fun T19 E=>?_
  obtain ⟨z,hz⟩:=bh (eP ts (ts.length+1)) ((s.ax).toNat) om
  have A:=bp I.cells hz
  refine rS (IA ((s.ax).toNat) U (aQ (n:=(eP ts (ts.length+1)).length) 1 U sm) hU dc om om)<|RD E 2 U<|N1 5<|NO U U [7] fun T20 F=>rS (jq ((s.ax).toNat) 0 (I.cells z) U bQ (aQ (n:=(eP ts (ts.length+1)).length) 1 U sm) A U dc U U)<|RD F 2 U<|N1 7<|NO U U [] fun T21 C=>eC U cn U<|RD C 2 U<|mQ<|KK H<|WS fun _ B=>rP 1 [] mn ?_
  have A:=kT hz
  have G:=fr M 0 s.ax.toNat
  unfold iJ at N
  rw [← A] at G
  refine dE 11 [0,1,0,1] (mc 0 U (mc 3 U mn)) U<|rS (SX (aS (xs:=[(0,.tmp 27),(1,.tmp 33)]) (cs:=(I.cells (I.mk (z.Lo+s.hG.Lo) (z.Hi+s.hG.Hi)))) U U (aT fm U)) U U)<|sT U cn U<|rP 1 [] mn ?_
  refine RK B<|an<|l6 hQ [0] (mc 2 U mn) U ?_
  (have e:=qn AB D; subst A; rw [e.1,e.2]<;>rfl)
 refine NO U U [5,6,7] fun T17 K=>?_
 obtain ⟨z,hz⟩:=bh (eP ts (ts.length+1)) ((s.ax).toNat) om
 have A:=bp I.cells hz
 refine rS (IA ((s.ax).toNat) U (aQ (n:=(eP ts (ts.length+1)).length) 0 U sm) hU dc om om)<|RD K 1 U<|dz [5,6] kr (bD ?_<|bD ?_<|en)
 rotate_left 1
 ·refine NO U U [5,7] fun T18 L=>AL U cv fun h=>RD L 2 U<|N1 5<|NO U U [7] fun T20 F=>rS (jq ((s.ax).toNat) 0 (I.cells z) U bQ (aQ (n:=(eP ts (ts.length+1)).length) 1 U sm) A U dc U U)<|RD F 2 U<|N1 7<|NO U U [] fun T21 C=>eC U cn U<|RD C 2 U<|mQ<|KK H<|WS fun _ B=>rP 1 [] mn ?_
  have A:=kT hz
  have G:=fr M 0 s.ax.toNat
  unfold iJ at N
  rw [← A] at G
  refine dE 11 [0,1,0,1] (mc 0 U (mc 3 U mn)) U<|rS (SX (aS (xs:=[(0,.tmp 27),(1,.tmp 33)]) (cs:=(I.cells (I.mk (z.Lo+s.hG.Lo) (z.Hi+s.hG.Hi)))) U U (aT fm U)) U U)<|sT U cn U<|rP 1 [] mn ?_
  refine RK B<|an<|l6 hQ [0] (mc 2 U mn) U ?_
  (have e:=qn AB D; subst A; rw [e.1,e.2]<;>rfl)
 refine NO U U [6,7] fun T18 L=>rS (jq ((s.ax).toNat) 0 (I.cells z) U bQ (aQ (n:=(eP ts (ts.length+1)).length) 0 U sm) A U dc U U)<|RD L 1 U<|N1 6<|NO U U [7] fun T19 E=>AL U cv fun j=>RD E 2 U<|N1 7<|NO U U [] fun T21 C=>eC U cn U<|RD C 2 U<|mQ<|KK H<|WS fun _ B=>rP 1 [] mn ?_
 have A:=kT hz
 have G:=fr M 0 s.ax.toNat
 unfold iJ at N
 rw [← A] at G
 refine dE 11 [0,1,0,1] (mc 0 U (mc 3 U mn)) U<|rS (SX (aS (xs:=[(0,.tmp 27),(1,.tmp 33)]) (cs:=(I.cells (I.mk (z.Lo+s.hG.Lo) (z.Hi+s.hG.Hi)))) U U (aT fm U)) U U)<|sT U cn U<|rP 1 [] mn ?_
 refine RK B<|an<|l6 hQ [0] (mc 2 U mn) U ?_
 (have e:=qn AB D; subst A; rw [e.1,e.2]<;>rfl)
theorem yf (ts:List ab) (tsA:OA) (tsC:Nat) (p:ae) (q:ae) (hlen:ts.length≤1000000) (hside: ∀ x∈ts,0≤x.ct∧x.ct≤255) (hord: ¬ q.ax<p.ax):
 cz Tryz.prog 148 [(vA (ag.cells (ag.mk (aJ.mk tsA ts.length tsC)))),(vA (ae.cells p)),(vA (ae.cells q))] [(rd tsA ts.length 9 (ts.map ab.cells))] (vT [(vA (I.cells (eb ts p q))),(vI (iQ ts p q))]):=by
 refine bf kr Tryz.func148 U U fun k Q hQ hN=>?_
 try dsimp only
 refine WS fun _ N=>ej U fun f=>ej U fun g=>ej U fun i=>AL U cv fun j=>aU 1 U<|RK N<|al fun _ O=>WS fun _ P=>dE 1 [] (mc 3 U mn) U<|rS (CL (my ts tsA tsC hlen) (aX [4]) U)<|rP 1 [] mn ?_
 refine RK P<|cd U (fun A=>?_) (fun A=>?_)
 ·rw [Bool.not_eq_true'] at A
  refine WS fun _ R=>rS (SX (aS (xs:=[]) (cs:=(I.cells (I.mk 0 0))) U U (aT fm U)) U U)<|eC U cn U<|rP 1 [] mn ?_
  refine RK R<|an<|l6 hQ [0] (mc 0 U mn) U ?_
  (have e:=oc (a:=p) (b:=q) (by simpa using A); rw [e.1,e.2]<;>rfl)
 rw [Bool.not_eq_false'] at A
 refine WK O<|al fun _ S=>WS fun _ E=>?_
 have D:=bT A
 have M:=cw A
 refine dE 2 [0,1] (mc 3 U (mc 2 U mn)) U<|rS (CL (ju ts tsA tsC p asm asm) (aX [4]) U)<|rP 2 [] mn ?_
 refine bx (t:=20) U (aP fun B=>?_) (aO fun B=>?_)
 ·refine aU 5 U<|RK E<|aC U<|WS fun _ G=>rS (SX (aS (xs:=[]) (cs:=(I.cells (I.mk 0 0))) U U (aT fm U)) U U)<|eC U cn U<|rP 1 [] mn ?_
  refine RK G<|an<|l6 hQ [0] (mc 0 U mn) U ?_
  (have e:=kJ (a:=p) (b:=q) A (fun h=>by first|exact B h.1|exact C h.2); rw [e.1,e.2]<;>rfl)
 refine dE 2 [0,1] (mc 3 U (mc 1 U mn)) U<|rS (CL (ju ts tsA tsC q asm asm) (aX [4]) U)<|rP 2 [] mn ?_
 refine RK E<|cd U (aP fun C=>?_) (aO fun C=>?_)
 ·refine WS fun _ H=>rS (SX (aS (xs:=[]) (cs:=(I.cells (I.mk 0 0))) U U (aT fm U)) U U)<|eC U cn U<|rP 1 [] mn ?_
  refine RK H<|an<|l6 hQ [0] (mc 0 U mn) U ?_
  (have e:=kJ (a:=p) (b:=q) A (fun h=>by first|exact B h.1|exact C h.2); rw [e.1,e.2]<;>rfl)
 refine WK S<|al fun _ AB=>WS fun _ J=>?_
 have AA:cD ts p∧cD ts q:=⟨B,C⟩
 have T:=lS D B
 have V:=lS D C
 have c:=B.1
 have d:=C.1
 have Y:=ku D M C B
 unfold iJ at T V
 refine rP 5 [0,1] (mc 1 U (mc 2 U mn)) ?_
 refine RK J<|cd U (aM fun F=>?_) (aL fun F=>?_)
 ·exfalso; omega
 refine WK AB<|WS fun _ K=>rP 2 [] (mc 3 U mn) ?_
 have Z:=fr D p.ax.toNat (q.ax-p.ax).toNat
 refine dE 3 [0,1] (mc 2 U (mc 1 U mn)) U<|rS (CL (su ts tsA tsC p.ax q.ax asm asm om) (aX [4]) U)<|aU 3 U<|AL U cv fun W=>AL U cv fun X=>oa U cn U<|eC U cn U<|RK K<|WS fun _ L=>dE 20 [0,1,2,0,1,2] (mc 1 U (mc 3 U (mc 4 U mn))) U<|rS (SX (aS (xs:=[(0,.tmp 64),(1,.tmp 74)]) (cs:=(I.cells (I.mk ((((bW ts p.ax.toNat (q.ax-p.ax).toNat).Lo)+q.hG.Lo)-p.hG.Hi) ((((bW ts p.ax.toNat (q.ax-p.ax).toNat).Hi)+q.hG.Hi)-p.hG.Lo)))) U U (aT fm U)) U U)<|sT U cn U<|rP 1 [] mn ?_
 refine RK L<|an<|l6 hQ [0] (mc 2 U mn) U ?_
 (have e:=fR A AA; rw [e.1,e.2,mh F]<;>rfl)
theorem z7 (ts:List ab) (tsA:OA) (tsC:Nat) (p:ae) (q:ae) (hlen:ts.length≤1000000) (hside: ∀ x∈ts,0≤x.ct∧x.ct≤255):
 cz Tryz.prog 148 [(vA (ag.cells (ag.mk (aJ.mk tsA ts.length tsC)))),(vA (ae.cells p)),(vA (ae.cells q))] [(rd tsA ts.length 9 (ts.map ab.cells))] (vT [(vA (I.cells (eb ts p q))),(vI (iQ ts p q))]):=by
 refine bf kr Tryz.func148 U U fun u Q hQ hN=>?_
 try dsimp only
 refine WS fun _ S=>ej U fun n=>ej U fun o=>ej U fun r=>AL U cv fun s=>aU 1 U<|RK S<|al fun _ T=>WS fun _ AA=>dE 1 [] (mc 3 U mn) U<|rS (CL (my ts tsA tsC hlen) (aX [4]) U)<|rP 1 [] mn ?_
 refine RK AA<|cd U (fun A=>?_) (fun A=>?_)
 ·rw [Bool.not_eq_true'] at A
  refine WS fun _ V=>rS (SX (aS (xs:=[]) (cs:=(I.cells (I.mk 0 0))) U U (aT fm U)) U U)<|eC U cn U<|rP 1 [] mn ?_
  refine RK V<|an<|l6 hQ [0] (mc 0 U mn) U ?_
  (have e:=oc (a:=p) (b:=q) (by simpa using A); rw [e.1,e.2]<;>rfl)
 rw [Bool.not_eq_false'] at A
 refine WK T<|al fun _ W=>WS fun _ E=>?_
 have D:=bT A
 have P:=cw A
 refine dE 2 [0,1] (mc 3 U (mc 2 U mn)) U<|rS (CL (ju ts tsA tsC p asm asm) (aX [4]) U)<|rP 2 [] mn ?_
 refine bx (t:=20) U (aP fun B=>?_) (aO fun B=>?_)
 ·refine aU 5 U<|RK E<|aC U<|WS fun _ G=>rS (SX (aS (xs:=[]) (cs:=(I.cells (I.mk 0 0))) U U (aT fm U)) U U)<|eC U cn U<|rP 1 [] mn ?_
  refine RK G<|an<|l6 hQ [0] (mc 0 U mn) U ?_
  (have e:=kJ (a:=p) (b:=q) A (fun h=>by first|exact B h.1|exact C h.2); rw [e.1,e.2]<;>rfl)
 refine dE 2 [0,1] (mc 3 U (mc 1 U mn)) U<|rS (CL (ju ts tsA tsC q asm asm) (aX [4]) U)<|rP 2 [] mn ?_
 refine RK E<|cd U (aP fun C=>?_) (aO fun C=>?_)
 ·refine WS fun _ H=>rS (SX (aS (xs:=[]) (cs:=(I.cells (I.mk 0 0))) U U (aT fm U)) U U)<|eC U cn U<|rP 1 [] mn ?_
  refine RK H<|an<|l6 hQ [0] (mc 0 U mn) U ?_
  (have e:=kJ (a:=p) (b:=q) A (fun h=>by first|exact B h.1|exact C h.2); rw [e.1,e.2]<;>rfl)
 refine WK W<|al fun _ AB=>WS fun _ J=>?_
 have R:cD ts p∧cD ts q:=⟨B,C⟩
 have X:=lS D B
 have Y:=lS D C
 have l:=B.1
 have m:=C.1
 have j:=ku D P C B
 unfold iJ at X Y
 refine rP 5 [0,1] (mc 1 U (mc 2 U mn)) ?_
 refine RK J<|cd U (aM fun F=>?_) (aL fun F=>?_)
 ·refine WS fun _ K=>dE 3 [0,1,2] (mc 3 U (mc 1 U (mc 2 U mn))) U<|rS (CL (yf ts tsA tsC q p hlen hside om) (aX [4]) U)<|aU 3 U<|AL U cv fun d=>eC U cn U<|aU 1 U<|RK K<|WS fun _ L=>rP 2 [] (mc 0 U mn) ?_
  have O:eb ts q p=dQ ts q p:=(fR A ⟨C,B⟩).2
  have Z: -400000≤(eb ts q p).Lo∧(eb ts q p).Hi≤400000:=by rw [O]; omega
  have c:(eb ts q p).Lo≤(eb ts q p).Hi:=by rw [O]; omega
  refine rS (NG U ⟨om,om⟩)<|dE 2 [] (mc 0 U mn) U<|rS (NG U ⟨om,om⟩)<|rS (SX (aS (xs:=[(0,.tmp 41),(1,.tmp 44)]) (cs:=(I.cells (I.mk (-((eb ts q p).Hi)) (-((eb ts q p).Lo))))) U U (aT fm U)) U U)<|oa U cn U<|rP 1 [] mn ?_
  refine RK L<|an<|l6 hQ [0] (mc 1 U mn) U ?_
  (have e:=fR A R; have i:=fR A ⟨C,B⟩; rw [e.1,e.2,i.2,uI F]<;>rfl)
 refine WK AB<|WS fun _ M=>rP 2 [] (mc 3 U mn) ?_
 have k:=fr D p.ax.toNat (q.ax-p.ax).toNat
 refine dE 3 [0,1] (mc 2 U (mc 1 U mn)) U<|rS (CL (su ts tsA tsC p.ax q.ax asm asm om) (aX [4]) U)<|aU 3 U<|AL U cv fun f=>AL U cv fun g=>oa U cn U<|eC U cn U<|RK M<|WS fun _ N=>dE 20 [0,1,2,0,1,2] (mc 1 U (mc 3 U (mc 4 U mn))) U<|rS (SX (aS (xs:=[(0,.tmp 64),(1,.tmp 74)]) (cs:=(I.cells (I.mk ((((bW ts p.ax.toNat (q.ax-p.ax).toNat).Lo)+q.hG.Lo)-p.hG.Hi) ((((bW ts p.ax.toNat (q.ax-p.ax).toNat).Hi)+q.hG.Hi)-p.hG.Lo)))) U U (aT fm U)) U U)<|sT U cn U<|rP 1 [] mn ?_
 refine RK N<|an<|l6 hQ [0] (mc 2 U mn) U ?_
 (have e:=fR A R; rw [e.1,e.2,mh F]<;>rfl)
end
section
open Go.RowKit
theorem tq (d m:Int) (hd:0≤d∧d≤1000) (hm:0≤m∧m≤90000000):
 cz Tryz.prog 146 [(vI d),(vI m)] [] (vI (CE (d*m) 1000000)):=by
 have J:=jQ (a:=d) (b:=m) (A:=1000) (B:=90000000) hd.1 hd.2 hm.1 hm.2
 refine bf kr Tryz.func146 U U fun K Q hQ hN=>?_
 try dsimp only
 refine WS fun _ C=>aU 1 U<|RK C<|WS fun _ D=>aU 2 U<|rS (BI U (iF ⟨om,om⟩))<|aU 1 U<|RK D<|al fun _ E=>WS fun _ F=>aU 1 U<|rS (BI U (zb om om))<|rP 1 [] mn ?_
 refine RK F<|cd U (aM fun AA=>?_) (aL fun AA=>?_)
 ·refine WS fun _ G=>aU 1 U<|rS (BI U (oP om om om))<|rP 2 [] mn ?_
  refine RK G<|an<|Q1 hQ U U U ?_
  exact cI (by unfold CE; omega)
 refine WK E<|WS fun _ H=>aU 1 U<|rS (BI U (oP om om om))<|rP 1 [] mn ?_
 refine RK H<|an<|Q1 hQ U U U ?_
 exact cI (by unfold CE; omega)
theorem yG (c:bK) (sA:OA) (sC:Nat) (hlen:c.bO.length≤1000000):
 cz Tryz.prog 112 [(vA (e_.cells (e_.mk c.gp (aJ.mk sA c.bO.length sC))))] [(rd sA c.bO.length 3 (c.bO.map dN.cells))] (vB (decide (fj c))):=by
 refine bf kr Tryz.func112 U U fun w0 Q hQ hN=>?_
 try dsimp only
 refine WS fun _ DA=>ej U fun b2=>aU 1 U<|RK DA<|al fun _ DN=>WS fun _ A4=>dE 2 [] (mc 0 U mn) U<|rS (CL (gY c.gp 0 1000) (av) U)<|rP 2 [] mn ?_
 refine bx (t:=14) U (aP fun B9=>?_) (aO fun B9=>?_)
 ·refine aU 6 U<|RK A4<|aC U<|WS fun _ Di=>rP 1 [] mn ?_
  refine RK Di<|an<|Q1 hQ U U U ?_
  exact cB (aD fun h=>by have q1:=h.zX; have q2:=h.len; omega).symm
 refine dE 3 [] (mc 0 U mn) U<|rS (CL (gY (c.bO.length:Int) 1 5) (av) U)<|rP 2 [] mn ?_
 refine RK A4<|cd U (aP fun Ci=>?_) (aO fun Ci=>?_)
 ·refine WS fun _ Do=>rP 1 [] mn ?_
  refine RK Do<|an<|Q1 hQ U U U ?_
  exact cB (aD fun h=>by have q1:=h.zX; have q2:=h.len; omega).symm
 refine WK DN<|al fun _ EI=>WS fun _ EQ=>rP 1 [] mn ?_
 refine RK EQ<|ar ?_
 have A:(0≤c.bO.length)∧(∀ (j:Nat) y,j<0→c.bO[j]? =some y→dR c j y):=by exact ⟨Nat.zero_le _,fun j y hj=>absurd hj (Nat.not_lt_zero _)⟩
 refine br (ι:={z:Nat // (z≤c.bO.length)∧(∀ (j:Nat) y,j<z→c.bO[j]? =some y→dR c j y)}) [1] [0,1] U U (fun z=>[(3,(vI (z.1:Int)))]) (fun z=>[]) (fun _=>rfl) (fun _=>rfl) (fun z=>c.bO.length-z.1) ⟨0,A⟩ (bg U) (aN [0,1]) ?_
 clear A
 rintro ⟨i,⟨a,C⟩⟩ J9 f
 try dsimp only
 have FN:=AZ a C
 refine al fun _ g=>WS fun _ l=>rP 5 [] (mc 0 U mn) ?_
 refine RK l<|cd U (aM fun Ck=>?_) (aL fun Ck=>?_)
 ·refine WK g<|al fun _ AA=>ar<|WS fun _ n=>rP 3 [] (mc 0 U mn) ?_
  obtain ⟨x,hx⟩:=bh c.bO i om
  have b:=bp dN.cells hx
  refine rS (IA i U (ay 1 U) oS dc om om)<|rS (jq i 0 (dN.cells x) U bQ (ay 1 U) b U dc U U)<|AL U oM fun E2=>eC U qx U<|RK n<|al fun _ B=>dF cx 41 kr<|jA 2 [] (mc 0 U mn) U<|dS (CL (gY x.At 0 86400000) (av) U)<|dP 2 [] mn ?_
  refine dY (t:=37) U (aP fun Cp=>?_) (aO fun Cp=>?_)
  ·refine fQ 36 U<|cj<|RK B<|aC U<|WS fun _ p=>rP 1 [] mn ?_
   refine RK p<|an<|Q1 hQ U U U ?_
   exact cB (aD fun h=>by have q:=h.sync i x hx; unfold dR at q; (rw [ek om] at q; omega)).symm
  refine dP 3 [] mn ?_
  refine gj (t:=40) U (aL fun Cx=>?_) (aM fun Cx=>?_)
  ·refine dP 19 [] (mc 0 U mn) ?_
   refine dY (t:=59) U (aM fun X=>?_) (aL fun X=>?_)
   ·refine fQ 14 U<|cj<|RK B<|aC U<|WS fun _ w=>rP 1 [] mn ?_
    refine RK w<|an<|Q1 hQ U U U ?_
    exact cB (aD fun h=>by have q:=h.sync i x hx; unfold dR at q; (rw [ek om] at q; omega)).symm
   refine dP 9 [] (mc 0 U mn) ?_
   refine dY (t:=68) U (aM fun Y=>?_) (aL fun Y=>?_)
   ·refine fQ 5 U<|cj<|RK B<|aC U<|WS fun _ AC=>rP 1 [] mn ?_
    refine RK AC<|an<|Q1 hQ U U U ?_
    exact cB (aD fun h=>by have q:=h.sync i x hx; unfold dR at q; (rw [ek om] at q; omega)).symm
   refine dP 5 [] (mc 0 U mn) ?_
   refine cj<|RK B<|bH U (aL fun Z=>?_) (aM fun Z=>?_)
   ·refine bS<|aI<|KK AA<|ao<|rP 3 [] mn ?_
    refine aB ?_
    have A7:(vI (((i+1):Nat):Int))=(vI ((i:Int)+1)):=by exact cI om
    refine aY (f ⟨(i+1),⟨om,jz C hx (by unfold dR; (rw [ek om]; omega))⟩⟩ _ _ _ U os (cL.cons U<|aR U A7<|cL.nil _) (aN [1,2]))
   refine WS fun _ AH=>rP 1 [] mn ?_
   refine RK AH<|an<|Q1 hQ U U U ?_
   exact cB (aD fun h=>by have q:=h.sync i x hx; unfold dR at q; (rw [ek om] at q; omega)).symm
  refine dP 6 [0,1] (mc 0 U (mc 1 U mn)) ?_
  obtain ⟨y,hy⟩:=bh c.bO (i-1) om
  have d:=bp dN.cells hy
  refine dS (IA (i-1) U (ay 2 U) oS dc om om)<|dS (lp ((i-1)*3) U (ay 2 U) (Nat.mul_pos om dc) fh U)<|dS (fT (i-1) 0 (vI y.At) U bQ (ay 2 U) d U dc U)<|dP 4 [] mn ?_
  refine dY (t:=53) U (aM fun C0=>?_) (aL fun C0=>?_)
  ·refine fQ 20 U<|cj<|RK B<|aC U<|WS fun _ r=>rP 1 [] mn ?_
   refine RK r<|an<|Q1 hQ U U U ?_
   exact cB (aD fun h=>by have q:=h.sync i x hx; unfold dR at q; (rw [pJ om hy] at q; omega)).symm
  refine dP 6 [] (mc 0 U mn) ?_
  refine dY (t:=59) U (aM fun X=>?_) (aL fun X=>?_)
  ·refine fQ 14 U<|cj<|RK B<|aC U<|WS fun _ s=>rP 1 [] mn ?_
   refine RK s<|an<|Q1 hQ U U U ?_
   exact cB (aD fun h=>by have q:=h.sync i x hx; unfold dR at q; (rw [ek om] at q; omega)).symm
  refine dP 9 [] (mc 0 U mn) ?_
  refine dY (t:=68) U (aM fun Y=>?_) (aL fun Y=>?_)
  ·refine fQ 5 U<|cj<|RK B<|aC U<|WS fun _ u=>rP 1 [] mn ?_
   refine RK u<|an<|Q1 hQ U U U ?_
   exact cB (aD fun h=>by have q:=h.sync i x hx; unfold dR at q; (rw [ek om] at q; omega)).symm
  refine dP 5 [] (mc 0 U mn) ?_
  refine cj<|RK B<|bH U (aL fun Z=>?_) (aM fun Z=>?_)
  ·refine bS<|aI<|KK AA<|ao<|rP 3 [] mn ?_
   refine aB ?_
   have A6:(vI (((i+1):Nat):Int))=(vI ((i:Int)+1)):=by exact cI om
   refine aY (f ⟨(i+1),⟨om,jz C hx (by unfold dR; (rw [pJ om hy]; omega))⟩⟩ _ _ _ U os (cL.cons U<|aR U A6<|cL.nil _) (aN [1,2]))
  refine WS fun _ v=>rP 1 [] mn ?_
  refine RK v<|an<|Q1 hQ U U U ?_
  exact cB (aD fun h=>by have q:=h.sync i x hx; unfold dR at q; (rw [ek om] at q; omega)).symm
 refine bo<|ai<|ai<|aw<|KK EI<|al fun _ AO=>WS fun _ AR=>rP 1 [] mn ?_
 refine RK AR<|ar ?_
 have A:(0≤c.bO.length)∧(nI c 0):=by exact ⟨Nat.zero_le _,fun j y hj=>absurd hj (Nat.not_lt_zero _)⟩
 refine br (ι:={z:Nat // (z≤c.bO.length)∧(nI c z)}) [1] [0,1] U U (fun z=>[(5,(vI (z.1:Int)))]) (fun z=>[]) (fun _=>rfl) (fun _=>rfl) (fun z=>c.bO.length-z.1) ⟨0,A⟩ (bg U) (aN [0,1]) ?_
 clear A
 rintro ⟨m,⟨A9,G⟩⟩ J28 e
 try dsimp only
 have F:=qA (P:=dR c) om C
 refine al fun _ Ak=>WS fun _ Ay=>rP 5 [] (mc 0 U mn) ?_
 refine RK Ay<|bH U (aL fun C1=>?_) (aM fun C1=>?_)
 ·refine bo<|ai<|ai<|aw<|KK AO<|WS fun _ A5=>rP 1 [] mn ?_
  refine RK A5<|an<|Q1 hQ U U U ?_
  exact cB (bY (Au om om (qA om C) om G)).symm
 refine WK Ak<|al fun _ A0=>ar<|WS fun _ A1=>rP 1 [] mn ?_
 refine RK A1<|ar ?_
 have A:(0≤m)∧(∀ y,c.bO[m]? =some y→wM c y 0):=by exact ⟨Nat.zero_le _,fun y _ j o hj=>absurd hj (Nat.not_lt_zero _)⟩
 refine br (ι:={z:Nat // (z≤m)∧(∀ y,c.bO[m]? =some y→wM c y z)}) [1,5] [0,1] U U (fun z=>[(6,(vI (z.1:Int)))]) (fun z=>[]) (fun _=>rfl) (fun _=>rfl) (fun z=>m-z.1) ⟨0,A⟩ (bg U) (aN [0,1]) ?_
 clear A
 rintro ⟨k,⟨Bf,D⟩⟩ J33 T
 try dsimp only
 refine al fun _ A2=>WS fun _ A3=>rP 3 [] mn ?_
 refine RK A3<|bH U (aL fun C2=>?_) (aM fun C2=>?_)
 ·refine bo<|ai<|ai<|aw<|aI<|KK A0<|ao<|rP 3 [] mn ?_
  refine aB ?_
  have A8:(vI (((m+1):Nat):Int))=(vI ((m:Int)+1)):=by exact cI om
  refine aY (e ⟨(m+1),⟨om,vy G D om⟩⟩ _ _ _ U os (cL.cons U<|aR U A8<|cL.nil _) (aN [0,1]))
 refine WK A2<|al fun _ V=>ar<|al fun _ W=>mH cx [0,1,2,3,4,5,6,7,8,9] [10,11,12,13] [false,false,false,false,false,false,false,false,false,false] [] [(bm b2 116 (e_.cells (e_.mk c.gp (aJ.mk sA c.bO.length sC)))),(rd sA c.bO.length 3 (c.bO.map dN.cells)).ro] [] kr (aN [0,1]) (aN [])<|eS U (FA 1 U fh U)<|eS U (L1 (vS sA c.bO.length sC) 0 U bQ U U)<|eS U (MV U) ?_
 obtain ⟨x,hx⟩:=bh c.bO k om
 have b:=bp dN.cells hx
 refine eS U (IA k U (ay 1 U) oS dc om om)<|eS U (jq k 0 (dN.cells x) U bQ (ay 1 U) b U dc U U)<|eS U (FA 1 U fh U)<|eS U (L1 (vS sA c.bO.length sC) 0 U bQ U U)<|eS U (MV U) ?_
 obtain ⟨y,hy⟩:=bh c.bO m om
 have d:=bp dN.cells hy
 refine eS U (IA m U (ay 1 U) oS dc om om)<|eS U (jq m 0 (dN.cells y) U bQ (ay 1 U) d U dc U U)<|eJ U<|dz [10,11] kr (bD ?_<|bD ?_<|en)
 rotate_left 1
 ·refine NO U U [10,12,13] fun T38 M=>AL U oM fun Bl=>RD M 1 U<|N1 10<|NO U U [12,13] fun T40 N=>AL U oM fun Bs=>RD N 2 U<|N1 12<|NO U U [13] fun T42 O=>eC U qx U<|RD O 2 U<|N1 13<|NO U U [] fun T43 R=>oa U qx U<|RD R 2 U<|mQ<|KK W<|WS fun _ J=>rP 6 [0,1,2] (mc 2 U (mc 1 U (mc 0 U mn))) ?_
  obtain ⟨ER,ET,Eq⟩:=oG (fun j z _ hz=>F j z hz) hy (F _ _ hy) (show k<m by omega) hx
  refine aU 1 U<|rS (CL (tq c.gp (y.At-x.At) om om) (av) U)<|aU 1 U<|RK J<|WS fun _ E=>rP 10 [0,1] (mc 0 U (mc 1 U mn)) ?_
  refine bx (t:=113) U (aM fun H=>?_) (aL fun H=>?_)
  ·refine aU 10 U<|RK E<|aC U<|WS fun _ K=>rP 1 [] mn ?_
   refine RK K<|an<|Q1 hQ U U U ?_
   exact cB (aD fun h=>by have q:=h.pair m k y x hy om hx; unfold kl at q; omega).symm
  refine rP 10 [0,1] (mc 1 U (mc 0 U mn)) ?_
  refine RK E<|bH U (aL fun AB=>?_) (aM fun AB=>?_)
  ·refine bS<|aI<|KK V<|ao<|rP 3 [] mn ?_
   refine aB ?_
   have S:(vI (((k+1):Nat):Int))=(vI ((k:Int)+1)):=by exact cI om
   refine aY (T ⟨(k+1),⟨om,fun z hz=>by rw [hy] at hz; cases hz; exact jz (D _ hy) hx (by unfold kl; omega)⟩⟩ _ _ _ rfl os (cL.cons rfl<|cL.cons rfl<|aR rfl S<|cL.nil _) (aN [2,3]))
  refine WS fun _ L=>rP 1 [] mn ?_
  refine RK L<|an<|Q1 hQ U U U ?_
  exact cB (aD fun h=>by have q:=h.pair m k y x hy om hx; unfold kl at q; omega).symm
 refine NO U U [11,12,13] fun T38 M=>AL U oM fun Bl=>RD M 1 U<|N1 11<|NO U U [12,13] fun T40 N=>AL U oM fun Bs=>RD N 2 U<|N1 12<|NO U U [13] fun T42 O=>oa U qx U<|RD O 2 U<|N1 13<|NO U U [] fun T43 R=>eC U qx U<|RD R 2 U<|mQ<|KK W<|WS fun _ J=>rP 6 [0,1,2] (mc 2 U (mc 0 U (mc 1 U mn))) ?_
 obtain ⟨ER,ET,Eq⟩:=oG (fun j z _ hz=>F j z hz) hy (F _ _ hy) (show k<m by omega) hx
 refine aU 1 U<|rS (CL (tq c.gp (y.At-x.At) om om) (av) U)<|aU 1 U<|RK J<|WS fun _ E=>rP 10 [0,1] (mc 1 U (mc 0 U mn)) ?_
 refine bx (t:=113) U (aM fun H=>?_) (aL fun H=>?_)
 ·refine aU 10 U<|RK E<|aC U<|WS fun _ K=>rP 1 [] mn ?_
  refine RK K<|an<|Q1 hQ U U U ?_
  exact cB (aD fun h=>by have q:=h.pair m k y x hy om hx; unfold kl at q; omega).symm
 refine rP 10 [0,1] (mc 0 U (mc 1 U mn)) ?_
 refine RK E<|bH U (aL fun AB=>?_) (aM fun AB=>?_)
 ·refine bS<|aI<|KK V<|ao<|rP 3 [] mn ?_
  refine aB ?_
  have S:(vI (((k+1):Nat):Int))=(vI ((k:Int)+1)):=by exact cI om
  refine aY (T ⟨(k+1),⟨om,fun z hz=>by rw [hy] at hz; cases hz; exact jz (D _ hy) hx (by unfold kl; omega)⟩⟩ _ _ _ rfl os (cL.cons rfl<|cL.cons rfl<|aR rfl S<|cL.nil _) (aN [2,3]))
 refine WS fun _ L=>rP 1 [] mn ?_
 refine RK L<|an<|Q1 hQ U U U ?_
 exact cB (aD fun h=>by have q:=h.pair m k y x hy om hx; unfold kl at q; omega).symm
theorem EK (l:dk) (kA:OA) (kC:Nat) (az:List RA) (cA:OA) (cC:Nat) (bA:OA) (bC:Nat) (n:Int) (hin:gi l az) (htr:a9 l.ak=true) (hbk: ∀ b∈l.ck,gG l b) (hn:0≤n∧n<(l.ck.length:Int)):
 cz Tryz.prog 113 [(vA (fy.cells (yE l kA kC cA cC bA bC))),(vI n)] (zO l kA az cA bA) (vI (jx l n.toNat)):=by
 have AA:=hin.jP
 have S:=hin.yz
 have P:=hin.yC
 have R:=hin.yB
 have T:=hin.side
 refine bf kr Tryz.func113 U U fun X Q hQ hN=>?_
 try dsimp only
 refine WS fun _ G=>ej U fun V=>aU 1 U<|RK G<|al fun _ H=>WS fun _ AB=>rP 2 [] mn ?_
 refine RK AB<|cd U (aM fun F=>?_) (aL fun F=>?_)
 ·refine al fun _ J=>dK cx [11,12] [] [] [0,1,2,3,4] [] U U U U U<|eS U (FA 0 U fh U)<|eS U (LP (ag.cells (ag.mk (aJ.mk kA l.ak.length kC))) 0 U bQ U U U)<|eS U (FA 3 U fh U)<|eS U (L1 (vS bA l.ck.length bC) 0 U bQ U U) ?_
  obtain ⟨y,hy⟩:=bh l.ck 0 om
  have A:=bp dU.cells hy
  refine eS U (IA 0 U (ay 4 U) sx dc U om)<|eS U (lp (0*4) U (ay 4 U) (Nat.mul_pos om dc) fh U)<|eS U (jq 0 0 (ae.cells y.de) U bQ (ay 4 U) A U dc U U)<|eS U (CL (FG l.ak kA kC y.de asm asm) (aX [1]) U)<|eS U (MV U)<|eS U (EX U)<|eS U (EX U)<|eS U (AG U)<|eJ U<|bU U fun T6 L=>AL U cv fun W=>aB (L _ _ (aN [1,2,3,4,5]) ?_)
  refine bU U fun T8 M=>eC U cn U<|aB (M _ _ (aN [1,2,3,4,5]) ?_)
  refine fx U<|KK J<|WS fun _ K=>rP 3 [] (mc 0 U mn) ?_
  refine RK K<|an<|Q1 hQ U U U ?_
  (refine congrArg (Value.int .i64) ?_; rw [show n.toNat=0 by omega]; rw [oB hy,(qn htr (hbk _ (List.mem_of_getElem? hy)).1).2])
 refine WK H<|al fun _ B=>dK cx [19,20] [] [] [0,1,2,3,4] [] U U U U U<|eS U (FA 0 U fh U)<|eS U (LP (ag.cells (ag.mk (aJ.mk kA l.ak.length kC))) 0 U bQ U U U)<|eS U (FA 3 U fh U)<|eS U (L1 (vS bA l.ck.length bC) 0 U bQ U U)<|eS U (MV U)<|eS U (BI U (pK ⟨om,om⟩)) ?_
 obtain ⟨y,hy⟩:=bh l.ck (((n-1)).toNat) om
 have A:=bp dU.cells hy
 refine eS U (IA (((n-1)).toNat) U (ay 4 U) sx dc om om)<|eS U (lp ((((n-1)).toNat)*4) U (ay 4 U) (Nat.mul_pos om dc) fh U)<|eS U (jq (((n-1)).toNat) 0 (ae.cells y.de) U bQ (ay 4 U) A U dc U U)<|eS U (FA 3 U fh U)<|eS U (L1 (vS bA l.ck.length bC) 0 U bQ U U)<|eS U (MV U) ?_
 obtain ⟨x,hx⟩:=bh l.ck ((n).toNat) om
 have N:=bp dU.cells hx
 refine eS U (IA ((n).toNat) U (ay 4 U) sx dc om om)<|eS U (lp (((n).toNat)*4) U (ay 4 U) (Nat.mul_pos om dc) fh U)<|eS U (jq ((n).toNat) 0 (ae.cells x.de) U bQ (ay 4 U) N U dc U U)<|eS U (CL (z7 l.ak kA kC y.de x.de asm asm) (aX [1]) U)<|eS U (MV U)<|eS U (EX U)<|eS U (EX U)<|eS U (AG U)<|eJ U<|bU U fun T11 D=>AL U cv fun O=>aB (D _ _ (aN [1,2,3,4,5]) ?_)
 refine bU U fun T13 E=>eC U cn U<|aB (E _ _ (aN [1,2,3,4,5]) ?_)
 refine fx U<|KK B<|WS fun _ C=>rP 3 [] (mc 0 U mn) ?_
 refine RK C<|an<|Q1 hQ U U U ?_
 (refine congrArg (Value.int .i64) ?_; rw [ue om hx (by rw [show n.toNat-1=(n-1).toNat by omega]; exact hy),(fR htr ⟨(hbk _ (List.mem_of_getElem? hy)).1,(hbk _ (List.mem_of_getElem? hx)).1⟩).2])
theorem Cw (l:dk) (kA:OA) (kC:Nat) (az:List RA) (cA:OA) (cC:Nat) (bA:OA) (bC:Nat) (hin:gi l az) (htr:a9 l.ak=true):
 cz Tryz.prog 79 [(vA (fy.cells (yE l kA kC cA cC bA bC)))] (zO l kA az cA bA) (vB (decide (m_ l))):=by
 have EI:=hin.jP
 have DA:=hin.yz
 have C0:=hin.yC
 have C2:=hin.yB
 have DN:=hin.side
 have Di:=bT htr
 have Cx:=cw htr
 refine bf kr Tryz.func79 U U fun w0 Q hQ hN=>?_
 try dsimp only
 refine WS fun _ A6=>ej U fun b2=>aU 1 U<|RK A6<|al fun _ A7=>WS fun _ D=>dE 2 [] (mc 0 U mn) U<|rS (CL (gY l.nx 1 5000) (av) U)<|rP 2 [] mn ?_
 refine bx (t:=10) U (aP fun AO=>?_) (aO fun AO=>?_)
 ·refine aU 35 U<|RK D<|aC U<|WS fun _ A8=>rP 1 [] mn ?_
  refine RK A8<|an<|Q1 hQ U U U ?_
  exact cB (aD fun h=>by have q:=h.head; unfold ff at q; omega).symm
 refine dE 3 [] (mc 0 U mn) U<|rS (CL (gY (l.dy.length:Int) 1 4) (av) U)<|rP 3 [] mn ?_
 refine bx (t:=17) U (aP fun AR=>?_) (aO fun AR=>?_)
 ·refine aU 28 U<|RK D<|aC U<|WS fun _ A9=>rP 1 [] mn ?_
  refine RK A9<|an<|Q1 hQ U U U ?_
  exact cB (aD fun h=>by have q:=h.head; unfold ff at q; omega).symm
 refine dE 3 [] (mc 0 U mn) U<|rS (CL (gY (l.ck.length:Int) 1 6) (av) U)<|rP 3 [] mn ?_
 refine bx (t:=24) U (aP fun Ak=>?_) (aO fun Ak=>?_)
 ·refine aU 21 U<|RK D<|aC U<|WS fun _ Bl=>rP 1 [] mn ?_
  refine RK Bl<|an<|Q1 hQ U U U ?_
  exact cB (aD fun h=>by have q:=h.head; unfold ff at q; omega).symm
 refine dE 6 [] (mc 0 U mn) U<|rS (CL (gY l.kU 0 ((l.ck.length:Int)-1)) (av) U)<|rP 3 [] mn ?_
 refine bx (t:=34) U (aP fun Ay=>?_) (aO fun Ay=>?_)
 ·refine aU 11 U<|RK D<|aC U<|WS fun _ Bs=>rP 1 [] mn ?_
  refine RK Bs<|an<|Q1 hQ U U U ?_
  exact cB (aD fun h=>by have q:=h.head; unfold ff at q; omega).symm
 refine dE 2 [] (mc 0 U mn) U<|rS (CL (gY l.nE 0 3) (av) U)<|rP 3 [] mn ?_
 refine bx (t:=40) U (aP fun A0=>?_) (aO fun A0=>?_)
 ·refine aU 5 U<|RK D<|aC U<|WS fun _ B9=>rP 1 [] mn ?_
  refine RK B9<|an<|Q1 hQ U U U ?_
  exact cB (aD fun h=>by have q:=h.head; unfold ff at q; omega).symm
 refine dE 2 [] (mc 0 U mn) U<|rS (CL (gY l.lj 0 3) (av) U)<|rP 2 [] mn ?_
 refine RK D<|cd U (aP fun A1=>?_) (aO fun A1=>?_)
 ·refine WS fun _ N=>rP 1 [] mn ?_
  refine RK N<|an<|Q1 hQ U U U ?_
  exact cB (aD fun h=>by have q:=h.head; unfold ff at q; omega).symm
 refine WK A7<|al fun _ O=>WS fun _ R=>rP 1 [] mn ?_
 refine RK R<|ar ?_
 have A:(0≤l.dy.length)∧(∀ (j:Nat) y,j<0→l.dy[j]? =some y→fj y):=by exact ⟨Nat.zero_le _,fun j y hj=>absurd hj (Nat.not_lt_zero _)⟩
 refine br (ι:={z:Nat // (z≤l.dy.length)∧(∀ (j:Nat) y,j<z→l.dy[j]? =some y→fj y)}) [1] [0,1,2,3,4] U U (fun z=>[(3,(vI (z.1:Int)))]) (fun z=>[]) (fun _=>rfl) (fun _=>rfl) (fun z=>l.dy.length-z.1) ⟨0,A⟩ (bg U) (aN [0,1,2,3,4]) ?_
 clear A
 rintro ⟨i,⟨Ci,F⟩⟩ J13 K
 try dsimp only
 refine al fun _ S=>WS fun _ T=>rP 5 [] (mc 0 U mn) ?_
 refine RK T<|cd U (aM fun A2=>?_) (aL fun A2=>?_)
 ·refine WK S<|al fun _ AA=>ar<|WS fun _ V=>rP 3 [] (mc 0 U mn) ?_
  obtain ⟨x,hx⟩:=bh l.dy i om
  obtain ⟨xa,J⟩:=bh az i om
  have Cp:(List.zipWith bK.cells l.dy az)[i]? =some (bK.cells x xa):=jv hx J
  refine rS (IA i U (ay 2 U) DX dc om om)<|rS (jq i 0 (e_.cells (e_.mk x.gp (aJ.mk xa.1 x.bO.length xa.2))) U bQ (ay 2 U) Cp U dc U U) ?_
  have Do:=(hin.H8 _ _ _ hx J).2
  refine rS (CL (yG x xa.1 xa.2 asm) (aK (show iK _ (rd xa.1 x.bO.length 3 (x.bO.map dN.cells)).holds from (dD 3 U (cR hx J (by simp [bK.Bf]))))<|av) U)<|rP 1 [] mn ?_
  refine RK V<|bH U (aO fun AB=>?_) (aP fun AB=>?_)
  ·refine bS<|aI<|KK AA<|ao<|rP 3 [] mn ?_
   refine aB ?_
   have u:(vI (((i+1):Nat):Int))=(vI ((i:Int)+1)):=by exact cI om
   refine aY (K ⟨(i+1),⟨om,jz (P:=fun _ y=>fj y) F hx AB⟩⟩ _ _ _ U os (cL.cons U<|aR U u<|cL.nil _) (aN [0,1,2,3,4]))
  refine WS fun _ W=>rP 1 [] mn ?_
  refine RK W<|an<|Q1 hQ U U U ?_
  exact cB (aD fun h=>AB (h.clock _ (aG hx))).symm
 refine bo<|ai<|ai<|aw<|KK O<|al fun _ X=>WS fun _ Y=>rP 1 [] mn ?_
 refine RK Y<|ar ?_
 have A:(0≤l.ck.length)∧(∀ (j:Nat) y,j<0→l.ck[j]? =some y→gG l y):=by exact ⟨Nat.zero_le _,fun j y hj=>absurd hj (Nat.not_lt_zero _)⟩
 refine br (ι:={z:Nat // (z≤l.ck.length)∧(∀ (j:Nat) y,j<z→l.ck[j]? =some y→gG l y)}) [1] [0,1,2,3,4] U U (fun z=>[(4,(vI (z.1:Int)))]) (fun z=>[]) (fun _=>rfl) (fun _=>rfl) (fun z=>l.ck.length-z.1) ⟨0,A⟩ (bg U) (aN [0,1,2,3,4]) ?_
 clear A
 rintro ⟨m,⟨Ck,B⟩⟩ J22 L
 try dsimp only
 refine al fun _ Z=>WS fun _ a=>rP 5 [] (mc 0 U mn) ?_
 refine RK a<|bH U (aL fun A3=>?_) (aM fun A3=>?_)
 ·refine bo<|ai<|ai<|aw<|KK X<|al fun _ e=>WS fun _ f=>rP 1 [] mn ?_
  refine RK f<|ar ?_
  have A:(0≤l.ck.length)∧(∀ j,j<0→1≤jx l j):=by exact ⟨Nat.zero_le _,fun j hj=>absurd hj (Nat.not_lt_zero _)⟩
  refine br (ι:={z:Nat // (z≤l.ck.length)∧(∀ j,j<z→1≤jx l j)}) [1] [0,1,2,3,4] U U (fun z=>[(5,(vI (z.1:Int)))]) (fun z=>[]) (fun _=>rfl) (fun _=>rfl) (fun z=>l.ck.length-z.1) ⟨0,A⟩ (bg U) (aN [0,1,2,3,4]) ?_
  clear A
  rintro ⟨n,⟨AH,C⟩⟩ J32 M
  try dsimp only
  have C1:=pL (P:=gG l) om B
  refine al fun _ g=>WS fun _ k=>rP 5 [] (mc 0 U mn) ?_
  refine RK k<|bH U (aL fun A5=>?_) (aM fun A5=>?_)
  ·refine bo<|ai<|ai<|aw<|KK e<|WS fun _ s=>rP 1 [] mn ?_
   refine RK s<|an<|Q1 hQ U U U ?_
   exact cB (bY (q8 (by unfold ff; omega) (pL om F) (pL om B) (fun j hj=>C j om))).symm
  refine WK g<|al fun _ o=>ar<|WS fun _ p=>dE 2 [] (mc 0 U mn) U<|rS (CL (EK l kA kC az cA cC bA bC (n:Int) hin htr asm om) (aX [1,2,3,4]) U)<|rP 1 [] mn ?_
  refine RK p<|bH U (aL fun E=>?_) (aM fun E=>?_)
  ·refine bS<|aI<|KK o<|ao<|rP 3 [] mn ?_
   refine aB ?_
   have w:(vI (((n+1):Nat):Int))=(vI ((n:Int)+1)):=by exact cI om
   refine aY (M ⟨(n+1),⟨om,fun j hj=>by rcases Nat.lt_or_ge j n with q|q; exact C j q; (obtain rfl:j=n:=by omega); simp only [Int.toNat_natCast] at E; omega⟩⟩ _ _ _ rfl os (cL.cons rfl<|aR rfl w<|cL.nil _) (aN [0,1,2,3,4]))
  refine WS fun _ r=>rP 1 [] mn ?_
  refine RK r<|an<|Q1 hQ U U U ?_
  exact cB (aD fun h=>by have q:=h.HL n om; simp only [Int.toNat_natCast] at E; omega).symm
 refine WK Z<|al fun _ b=>ar<|al fun _ H=>dF cx 24 kr<|fQ 1 U<|dS (LP (ag.cells (ag.mk (aJ.mk kA l.ak.length kC))) 0 U bQ U U U)<|dP 3 [] (mc 0 U mn) ?_
 obtain ⟨y,hy⟩:=bh l.ck m om
 have AC:=bp dU.cells hy
 refine dS (IA m U (ay 4 U) sx dc om om)<|dS (lp (m*4) U (ay 4 U) (Nat.mul_pos om dc) fh U)<|dS (jq m 0 (ae.cells y.de) U bQ (ay 4 U) AC U dc U U)<|dS (CL (ju l.ak kA kC y.de asm asm) (aX [1]) U)<|dP 2 [] mn ?_
 refine dY (t:=77) U (aP fun G=>?_) (aO fun G=>?_)
 ·refine fQ 13 U<|cj<|RK H<|aC U<|WS fun _ c=>rP 1 [] mn ?_
  refine RK c<|an<|Q1 hQ U U U ?_
  exact cB (aD fun h=>by have q:=h.xy _ (aG hy); have q2:=q.2; first|exact G q.1|omega).symm
 refine jA 3 [] (mc 0 U mn) U<|dS (IA m U (ay 4 U) sx dc om om)<|dS (lp ((m*4)+3) U (ay 4 U) (Nat.mul_pos om dc) fh U)<|dS (fT m 3 (vI y.pI) U bQ (ay 4 U) AC U dc U)<|jA 4 [] (mc 0 U mn) U<|dS (CL (gY y.pI 0 ((l.dy.length:Int)-1)) (av) U)<|dP 2 [] mn ?_
 refine cj<|RK H<|bH U (aO fun A4=>?_) (aP fun A4=>?_)
 ·refine bS<|aI<|KK b<|ao<|rP 3 [] mn ?_
  refine aB ?_
  have v:(vI (((m+1):Nat):Int))=(vI ((m:Int)+1)):=by exact cI om
  refine aY (L ⟨(m+1),⟨om,jz (P:=fun _ y=>gG l y) B hy ⟨G,om,om⟩⟩⟩ _ _ _ U os (cL.cons U<|aR U v<|cL.nil _) (aN [0,1,2,3,4]))
 refine WS fun _ d=>rP 1 [] mn ?_
 refine RK d<|an<|Q1 hQ U U U ?_
 exact cB (aD fun h=>by have q:=h.xy _ (aG hy); have q2:=q.2; first|exact G q.1|omega).symm
end
section
open Go.RowKit
theorem te (l:dk) (kA:OA) (kC:Nat) (az:List RA) (cA:OA) (cC:Nat) (bA:OA) (bC:Nat) (hin:gi l az):
 cz Tryz.prog 40 [(vA (fy.cells (yE l kA kC cA cC bA bC)))] (zO l kA az cA bA) (vI (gP l)):=by
 have N:=hin.jP
 have M:=hin.yz
 have K:=hin.yC
 have L:=hin.yB
 refine bf kr Tryz.func40 U U fun P Q hQ hN=>?_
 try dsimp only
 refine WS fun _ C=>ej U fun O=>aU 1 U<|RK C<|al fun _ D=>WS fun _ E=>aU 1 U<|rS (LP (ag.cells (ag.mk (aJ.mk kA l.ak.length kC))) 0 U bQ U U U)<|rS (CL (my l.ak kA kC asm) (aX [1]) U)<|rP 1 [] mn ?_
 refine RK E<|cd U (fun A=>?_) (fun A=>?_)
 ·rw [Bool.not_eq_true'] at A
  refine WS fun _ F=>rP 1 [] mn ?_
  refine RK F<|an<|Q1 hQ U U U ?_
  exact cI (rD (by simpa using A)).symm
 rw [Bool.not_eq_false'] at A
 refine WK D<|al fun _ G=>WS fun _ H=>dE 1 [] (mc 0 U mn) U<|rS (CL (Cw l kA kC az cA cC bA bC hin asm) (aX [1,2,3,4]) U)<|rP 1 [] mn ?_
 refine RK H<|cd U (aP fun B=>?_) (aO fun B=>?_)
 ·refine WS fun _ AA=>rP 1 [] mn ?_
  refine RK AA<|an<|Q1 hQ U U U ?_
  exact cI (lV A B).symm
 refine WK G<|WS fun _ J=>rP 1 [] mn ?_
 refine RK J<|an<|Q1 hQ U U U ?_
 exact cI (nR A B).symm
end
section
open Go.RowKit
theorem fK (x y:Int):
 cz Tryz.prog 20 [(vI x),(vI y)] [] (vA (I.cells (I.mk x y))):=by
 refine bf kr Tryz.func20 U U fun D Q hQ hN=>?_
 try dsimp only
 refine WS fun _ A=>AL U cv fun C=>RK A<|WS fun _ B=>rP 2 [] mn ?_
 refine rS (SX (aS (xs:=[(0,.tmp 5),(1,.tmp 6)]) (cs:=(I.cells (I.mk x y))) U U (aT fm U)) U U)<|eC U cn U<|RK B<|an ?_
 exact D7 hQ [0] (mc 0 U mn) U U
theorem rl (ts:List ab) (tsA:OA) (tsC:Nat) (f:Int) (hlen:ts.length≤1000) (hside: ∀ x∈ts,0≤x.ct∧x.ct≤255) (hl1:1≤ts.length):
 lx Tryz.prog 14 [(vA (ag.cells (ag.mk (aJ.mk tsA ts.length tsC)))),(vI f)] [(rd tsA ts.length 9 (ts.map ab.cells))] (fun (x:(OA)×Nat×(List RA)×(OA)×Nat)=>(vT [(vA (fy.cells (fy.mk (ag.mk (aJ.mk tsA ts.length tsC)) f (aJ.mk x.1 1 x.2.1) (aJ.mk x.2.2.2.1 ((cJ (min (ts.length-1) 6)).length) x.2.2.2.2) 0 0 0))),(vB (decide (gP (dk.mk ts f [cU] (cJ (min (ts.length-1) 6)) 0 0 0)=0)))])) (fun (x:(OA)×Nat×(List RA)×(OA)×Nat)=>x.2.2.1.length=1∧gi (dk.mk ts f [cU] (cJ (min (ts.length-1) 6)) 0 0 0) x.2.2.1) (fun (x:(OA)×Nat×(List RA)×(OA)×Nat)=>[(own x.1 x.2.1 116 2 (List.zipWith bK.cells [cU] x.2.2.1)),(eB (ei bK.owns [cU] x.2.2.1)),(own x.2.2.2.1 x.2.2.2.2 118 4 ((cJ (min (ts.length-1) 6)).map dU.cells))]):=by
 refine dT kr Tryz.func14 U U fun g Q hQ hN=>?_
 try dsimp only
 refine WS fun _ W=>ej U fun d=>AL U yH fun e=>aU 1 U<|RK W<|WS fun _ Y=>rP 2 [] (mc 1 U mn) ?_
 refine rS (SX (aS (xs:=[]) (cs:=(dN.cells (dN.mk 0 (I.mk 0 0)))) U U (aT Gn U)) U U)<|bX (xs:=[.tmp 10]) (cs:=(dN.cells (dN.mk 0 (I.mk 0 0)))) U oS oM U U U U (by simp [Value.cells,dN.aq]) U U fun B=>rS (SX (aS (xs:=[(1,.tmp 11)]) (cs:=(e_.cells (e_.mk 0 (aJ.mk (some ⟨B,0,none⟩) 1 1)))) U U (aT G9 U)) U U)<|bX (xs:=[.tmp 12]) (cs:=(e_.cells (e_.mk 0 (aJ.mk (some ⟨B,0,none⟩) 1 1)))) U DX GW U U U U (by simp [Value.cells,e_.aq]) U U fun E=>rS (SX (aS (xs:=[(0,.tmp 8),(1,.tmp 9),(2,.tmp 13)]) (cs:=(fy.cells (fy.mk (ag.mk (aJ.mk tsA ts.length tsC)) f (aJ.mk (some ⟨E,0,none⟩) 1 1) (aJ.mk none 0 0) 0 0 0))) U U (aT Ik U)) U U)<|AL U yH fun c=>?_
 refine fD (es:=(cU.bO.map dN.cells)) (C':=[_,_,(own (some ⟨B,0,none⟩) 1 113 3 (cU.bO.map dN.cells)),_,_,_]) 2 U (pG dN.aq _) U (by show _≤maxLen; exact Nat.le_trans (m:=10) (show (1:Nat)≤10 by decide) dc) U ?_
 refine fD (es:=(List.zipWith bK.cells [cU] [((some ⟨B,0,none⟩),1)])) (C':=[_,(own (some ⟨E,0,none⟩) 1 116 2 (List.zipWith bK.cells [cU] [((some ⟨B,0,none⟩),1)])),_,_,_,_]) 1 U (by intro x hx; change x∈[bK.cells cU ((some ⟨B,0,none⟩),1)] at hx; rw [cN.1 hx]; rfl) U (by show _≤maxLen; exact Nat.le_trans (m:=10) (show (1:Nat)≤10 by decide) dc) U ?_
 refine uU<|yO (X:=[]) (X':=ei bK.owns [cU] [((some ⟨B,0,none⟩),1)]) 0 3 U U U ?_
 have D:gi (j_ ts f) [((some ⟨B,0,none⟩),1)]:=ye om hside (Nat.le_refl _)
 refine oa U w4 U<|RK Y<|al fun _ O=>WS fun _ Z=>rP 1 [] mn ?_
 refine RK Z<|ar<|f_ 118 4 ?_
 have C:(0≤(min (ts.length-1) 6)):=by exact Nat.zero_le _
 have S:(vI ((0:Int)+1))=(vI 1):=by exact cI om
 refine br (ι:={z:Nat×(OA)×Nat // (z.1≤(min (ts.length-1) 6))}) [2,4,6] [1,3,4,5,6] U U (fun z=>[(7,(vI ((z.1.1:Int)+1)))]) (fun z=>[(own z.1.2.1 z.1.2.2 118 4 ((cJ z.1.1).map dU.cells)),(bm c 59 (fy.cells (fy.mk (ag.mk (aJ.mk tsA ts.length tsC)) f (aJ.mk (some ⟨E,0,none⟩) ([cU].length) 1) (aJ.mk z.1.2.1 ((cJ z.1.1).length) z.1.2.2) 0 0 0)))]) (fun _=>rfl) (fun _=>rfl) (fun z=>(min (ts.length-1) 6)-z.1.1) ⟨(0,none,0),C⟩ (aR U S<|cL.nil _) (aN [1,3,4,5,6,0,2]) ?_
 clear C
 rintro ⟨⟨k,ba,bc⟩,G⟩ J11 J
 try dsimp only at G
 try dsimp only
 have a:=gA (n:=k)
 refine al fun _ K=>WS fun _ F=>rP 6 [] (mc 3 U mn) ?_
 refine dq (t:=20) U (aL fun AA=>?_) (aM fun AA=>?_)
 ·refine rP 5 [] mn ?_
  refine RK F<|bw U<|bo<|ai<|ai<|aw<|KK O<|al fun _ N=>?_
  obtain rfl:k=(min (ts.length-1) 6):=by omega
  have A:gi (dk.mk ts f [cU] (cJ (min (ts.length-1) 6)) 0 0 0) [((some ⟨B,0,none⟩),1)]:=D
  refine dK cx [4] [] [] [0,1,3,4,5,6] [] U U U U U<|eS U (LW 5 U bQ U U)<|eS U (LW 5 U bQ U U)<|eS U (CL (te (dk.mk ts f ([cU]) (cJ (min (ts.length-1) 6)) 0 0 0) tsA tsC ([((some ⟨B,0,none⟩),1)]) (some ⟨E,0,none⟩) 1 ba bc (by exact A)) (eM 3 U U<|aK (aQ (n:=([cU]).length) 1 U U)<|aK (jf 0 U lW)<|aK (aQ (n:=(cJ (min (ts.length-1) 6)).length) 4 U sm)<|av) U)<|eS U (BI U j5)<|eS U (AG U)<|eJ U<|bU U fun T24 R=>sT U w4 U<|aB (R _ _ (aN [0,1,3,4,5,6]) ?_)
  refine fx U<|KK N<|an ?_
  refine LX hQ ((some ⟨E,0,none⟩),1,[((some ⟨B,0,none⟩),1)],ba,bc) [1,0,5] [0] (mc 2 U mn) U (by simp only [js,List.all_nil,n9,Bool.and_true]; rfl) U ?_ ?_
  ·first|rfl|(rw [gA]; rfl)
  ·exact ⟨U,A⟩
 refine rP 5 [] (mc 6 U mn) ?_
 refine RK F<|bH U (aL fun V=>?_) (aM fun V=>?_)
 ·refine bo<|ai<|ai<|aw<|KK O<|al fun _ M=>?_
  obtain rfl:k=(min (ts.length-1) 6):=by omega
  have A:gi (dk.mk ts f [cU] (cJ (min (ts.length-1) 6)) 0 0 0) [((some ⟨B,0,none⟩),1)]:=D
  refine dK cx [4] [] [] [0,1,3,4,5,6] [] U U U U U<|eS U (LW 5 U bQ U U)<|eS U (LW 5 U bQ U U)<|eS U (CL (te (dk.mk ts f ([cU]) (cJ (min (ts.length-1) 6)) 0 0 0) tsA tsC ([((some ⟨B,0,none⟩),1)]) (some ⟨E,0,none⟩) 1 ba bc (by exact A)) (eM 3 U U<|aK (aQ (n:=([cU]).length) 1 U U)<|aK (jf 0 U lW)<|aK (aQ (n:=(cJ (min (ts.length-1) 6)).length) 4 U sm)<|av) U)<|eS U (BI U j5)<|eS U (AG U)<|eJ U<|bU U fun T22 P=>sT U w4 U<|aB (P _ _ (aN [0,1,3,4,5,6]) ?_)
  refine fx U<|KK M<|an ?_
  refine LX hQ ((some ⟨E,0,none⟩),1,[((some ⟨B,0,none⟩),1)],ba,bc) [1,0,5] [0] (mc 2 U mn) U (by simp only [js,List.all_nil,n9,Bool.and_true]; rfl) U ?_ ?_
  ·first|rfl|(rw [gA]; rfl)
  ·exact ⟨U,A⟩
 refine WK K<|al fun _ L=>ar<|ao<|rP 3 [] (mc 6 U mn) ?_
 refine rS (SX (aS (xs:=[(0,.tmp 30)]) (cs:=(ae.cells (ae.mk ((k:Int)+1) (I.mk 0 0)))) U U (aT GS U)) U U)<|rS (SX (aS (xs:=[(0,.tmp 31)]) (cs:=(dU.cells (dU.mk (ae.mk ((k:Int)+1) (I.mk 0 0)) 0))) U U (aT Hp U)) U U)<|bX (xs:=[.tmp 32]) (cs:=(dU.cells (dU.mk (ae.mk ((k:Int)+1) (I.mk 0 0)) 0))) U sx Hs U U U U (by simp [Value.cells,dU.aq]) U U fun b=>?_
 refine eN (es2:=(List.map dU.cells (cJ (k+1)))) (m':=(cJ (k+1)).length) 6 U U U I9 U U sm (aH (es:=List.map dU.cells [(dU.mk (ae.mk ((k:Int)+1) (I.mk 0 0)) 0)]) 0 U U (by simp [dU.aq]) U) (o5 _) (by rw [gA]; omega) (by rw [gA]; simp only [maxLen]; omega) (by rw [rX]; simp) sm U fun H AB=>?_
 try dsimp only
 refine aU 1 U<|JK (fy.cells (fy.mk (ag.mk (aJ.mk tsA ts.length tsC)) f (aJ.mk (some ⟨E,0,none⟩) ([cU].length) 1) (aJ.mk H ((cJ (k+1)).length) AB) 0 0 0)) U Jg U U<|aB<|aI<|KK L<|ao<|rP 3 [] mn ?_
 refine aB ?_
 have T:(vI ((((k+1):Nat):Int)+1))=(vI (((k:Int)+1)+1)):=by exact cI om
 refine aY (J ⟨((k+1),H,AB),(by first|omega|(simp only []; omega))⟩ _ _ _ U os (b_ 3<|aR U T<|cL.nil _) (aN [1,2,3,4,5,6,7]))
end
section
open Go.RowKit
/-- what is known of the slots B is known in L -/
def I3 (B L:cG):Prop:= ∀ t v,B.lookup t=some v→L.lookup t=some v
theorem Cu {B L:cG} (h:B.map (fun p=>L.lookup p.1)=B.map (fun p=>some p.2)):I3 B L:=by
 induction B with
 |nil=>intro t v h; simp at h
 |cons p B ih=>
  obtain ⟨k,u⟩:=p
  simp only [List.map_cons,List.cons.injEq] at h
  intro t v hl
  by_cases e:t=k
  ·subst e
   simp only [List.lookup,beq_self_eq_true,Option.some.injEq] at hl
   rw [h.1,hl]
  ·have:(t==k)=false:=by simpa using e
   simp only [List.lookup,this] at hl
   exact ih h.2 t v hl
section
variable (E:dW) (ops:Array Oper) (D:List Deferred) (C':List au) (K0:Act→World→Prop) (B:List (Nat×Value)) (dO:Nat→Nat) (VO:Nat→Nat→Value) (AO:Nat→Nat→au)
end
section
variable {E:dW} {ops:Array Oper} {D:List Deferred} {C' C1:List au} {K0:Act→World→Prop} {B:List (Nat×Value)} {dO:Nat→Nat} {VO:Nat→Nat→Value} {AO:Nat→Nat→au}
theorem B1 {Q:cq} {rest:List Oper} {L L2:cG} {C C2:List au} (hL: ∀ a,Fr E.n D L a→Fr E.n D L2 a) (hC: ∀ w,St E.S E.w0 C w→St E.S E.w0 C2 w) (h:RJ E ops Q rest D L2 C2):RJ E ops Q rest D L C:=fun a w hf hs=>h a w (hL a hf) (hC w hs)
theorem BF {K:Act→World→Prop} {L L2:cG} {C C2:List au} (hL: ∀ a,Fr E.n D L a→Fr E.n D L2 a) (hC: ∀ w,St E.S E.w0 C w→St E.S E.w0 C2 w) (h:KJ E K D L2 C2):KJ E K D L C:=fun a w hf hs=>h a w (hL a hf) (hC w hs)
theorem F1 {n:Nat} {L L2:cG} (h: ∀ t v,L2.lookup t=some v→L.lookup t=some v) (a:Act) (hf:Fr n D L a):Fr n D L2 a:=⟨hf.defers,hf.size,fun t v ht=>hf.at_ t v (h t v ht)⟩
end
section
variable {E:dW} {ops:Array Oper} {D:List Deferred} {C':List au} {B:List (Nat×Value)} {dO:Nat→Nat} {VO:Nat→Nat→Value} {AO:Nat→Nat→au}
variable {d:Nat} {ty:TypeId} {ps:String} {af:Array Edge}
end
section
variable {E:dW} {ops:Array Oper} {D:List Deferred} {C':List au} {K0:Act→World→Prop} {B:List (Nat×Value)} {dO:Nat→Nat} {VO:Nat→Nat→Value} {AO:Nat→Nat→au}
end
end
section
open Go.RowKit
section
variable {E:dW} {ops:Array Oper} {D:List Deferred} {C' C1:List au} {tb:List Nat}
theorem dp {V:Type} {F:cG→List au→Prop} (P:V→Prop) (fL:V→cG) (fC:V→List au) (n:Nat) (rest:List Nat) {m:Nat} {rem:List Nat} {L:cG} {C:List au} (h1:(∀ v,P v→TN E ops D C' C1 F tb n rest (fL v) (fC v))→TN E ops D C' C1 F tb m rem L C) (h2: ∀ v,P v→TN E ops D C' C1 F tb n rest (fL v) (fC v)):TN E ops D C' C1 F tb m rem L C:=h1 h2
theorem Ig {F:cG→List au→Prop} {rem':List Nat} {n i:Nat} {L:cG} {C:List au} {o:Oper} (ho:ops[i]? =some o)
 (h: ∀ K:Act→World→Prop,(∀ L' C'',(∀ w,St E.S E.w0 C'' w→St E.S E.w0 C' w)→TN E ops D C' C1 F tb n rem' L' C''→KJ E K D L' C'')→RJ E ops (NQ K) [o] D L C) (hm:((i::rem').filter fun k=>(i::rem').all fun j=> !fu (mw ops) j k)=[i]:=by kernel_rfl) (hr:(i::rem').filter (· != i)=rem':=by kernel_rfl) (ht:tb.contains i=false:=by rfl):TN E ops D C' C1 F tb (n+1) (i::rem') L C:=
 dz [i] hm (bD (c_ ho hr ht h) en)
theorem DO {K0:Act→World→Prop} {n:Nat} {rem:List Nat} {L L2:cG} {C C2:List au} (hL: ∀ a,Fr E.n D L a→Fr E.n D L2 a) (hC: ∀ w,St E.S E.w0 C w→St E.S E.w0 C2 w) (h:TN E ops D C' C1 (fun L C=>KJ E K0 D L C) tb n rem L2 C2):TN E ops D C' C1 (fun L C=>KJ E K0 D L C) tb n rem L C:=by
 cases n with
 |zero=>exact BF hL hC h
 |succ n=>exact fun i hi o ho K hK=>B1 hL hC (h i hi o ho K hK)
theorem bI {V:Type} {P:V→Prop} {fL:V→cG} {fC:V→List au} {K0:Act→World→Prop} {n:Nat} {rem rest:List Nat} {L:cG} {C:List au} (hJ: ∀ v,P v→TN E ops D C' C1 (fun L C=>KJ E K0 D L C) tb n rest (fL v) (fC v)) (v:V) (hp:P v) (ix:List Nat) (hL:(fL v).map (fun p=>L.lookup p.1)=(fL v).map (fun p=>some p.2)) (hn:decide ix.Nodup=true) (hC:qW C ix=some (fC v)) (hr:rem=rest:=by kernel_rfl):TN E ops D C' C1 (fun L C=>KJ E K0 D L C) tb n rem L C:=hr▸
 DO (fun a hf=>F1 (Cu hL) a hf) (fun w hs=>St.mM _ hn (se hC) hs) (hJ v hp)
end
theorem AB {E:dW} {id:Nat} {ops:Array Oper} {Q:cq} {D:eU} {L:cG} {C:List au} (hm:E.P.follows .mixedOrders=true) (T i1:List Nat) {C':List au} {free:List Nat} {feb:List Bool} (h1:qW C i1=some C') (hf:free=Fz ops.size T) (hfe:feb=Jj free.length [])
 (h:lF E ops D C' [] (fun L'=>TN E ops D C' [] (fun L C=>KJ E (Q .normal) D L C) [] T.length T L' C) feb (dv ops free) L) (hc:vN ops free T feb []=true:=by kernel_rfl) (n1:decide i1.Nodup=true:=by rfl):WJ E (.region id ops true) Q D L C:=
 mH hm free T feb [] C' [] hc (B3 i1 h1 n1) (B3 [] rfl rfl) h
section
end
end
section
open Go.RowKit
theorem Bn (v h:Int) (g1:Nat) (hh:0≤h∧h≤400000) (hv:0≤v∧v≤10000):
 cz Tryz.prog 136 [(vI v),(vP g1)] [(bm g1 3 [(vI h)])] (vB (decide (1962*h<10*v*v))):=by
 have E:=jQ (a:=10*v) (b:=v) (A:=100000) (B:=10000) om om om om
 refine bf kr Tryz.func136 U U fun F Q hQ hN=>?_
 try dsimp only
 refine WS fun _ C=>aU 1 U<|RK C<|WS fun _ D=>aU 1 U<|rS (BI U (iF ⟨om,om⟩))<|aU 1 U<|rS (BI U (iF ⟨om,om⟩))<|dE 1 [] (mr 0 U mn) U<|rS (BI U (iF ⟨om,om⟩))<|rP 2 [] mn ?_
 refine RK D<|an ?_
 exact Q1 hQ U U U U
theorem CJ (v h:Int) (g1:Nat) (hh:0≤h∧h≤400000) (hv:0≤v∧v≤10000):
 cz Tryz.prog 137 [(vI v),(vP g1)] [(bm g1 3 [(vI h)])] (vB (decide (1962*h≤10*v*v))):=by
 have E:=jQ (a:=10*v) (b:=v) (A:=100000) (B:=10000) om om om om
 refine bf kr Tryz.func137 U U fun F Q hQ hN=>?_
 try dsimp only
 refine WS fun _ C=>aU 1 U<|RK C<|WS fun _ D=>aU 1 U<|rS (BI U (iF ⟨om,om⟩))<|aU 1 U<|rS (BI U (iF ⟨om,om⟩))<|dE 1 [] (mr 0 U mn) U<|rS (BI U (iF ⟨om,om⟩))<|rP 2 [] mn ?_
 refine RK D<|an ?_
 exact Q1 hQ U U U U
theorem vV (lo hi:Int) (f:Value) (p:Int→Bool) (X:au) (r:Int) (hf: ∀ x0,0≤x0∧x0<hi→sR Tryz.prog f [.int .i64 x0] [X] (.bool (p x0))) (hb:0≤lo∧lo≤r∧r≤hi∧hi≤100000000) (hno: ∀ x,lo≤x→x<r→p x=false) (hyes: ∀ x,r≤x→x<hi→p x=true):
 cz Tryz.prog 135 [(vI lo),(vI hi),f] [X] (vI r):=by
 refine bf kr Tryz.func135 U U fun N Q hQ hN=>?_
 try dsimp only
 refine WS fun _ F=>rP 1 [] mn ?_
 refine RK F<|al fun _ G=>ar ?_
 have A:(lo≤lo∧lo≤r)∧(r≤hi∧hi≤hi):=by first|trivial|omega|(refine ⟨?_,?_⟩<;>first|trivial|omega|simp)
 refine br (ι:={z:Int×Int // (lo≤z.1∧z.1≤r)∧(r≤z.2∧z.2≤hi)}) [2] [0] U U (fun z=>[(0,(vI z.1.1)),(1,(vI z.1.2))]) (fun z=>[]) (fun _=>rfl) (fun _=>rfl) (fun z=>(z.1.2-z.1.1).toNat) ⟨(lo,hi),A⟩ (bg U) (aN [0]) ?_
 clear A
 rintro ⟨⟨a,b⟩,⟨B,C⟩⟩ J3 E
 try dsimp only at B C
 try dsimp only
 refine al fun _ H=>WS fun _ AA=>rP 3 [] mn ?_
 refine RK AA<|bH U (aL fun M=>?_) (aM fun M=>?_)
 ·refine bo<|ai<|ai<|aw<|KK G<|WS fun _ L=>rP 2 [] mn ?_
  refine RK L<|an<|Q1 hQ U U U ?_
  exact cI om
 refine WK H<|ar<|WS fun _ J=>aU 4 U<|rS (BI U (oP om om om))<|aU 2 U<|RK J<|WS fun _ K=>rP 2 [] mn ?_
 refine rS (SX (kb U U U (hf (a+((b-a)/2)) om) (aX [0])) U U)<|RK K<|cd U (fun hp=>?_) (fun hp=>?_)
 ·refine ao<|rP 2 [] mn ?_
  refine aB<|aI ?_
  refine aY (E ⟨(a,(a+((b-a)/2))),(by dsimp only; rcases Int.lt_or_le (a+(b-a)/2) r with q|q; (have D:=hno _ om q; first|(refine ⟨⟨om,om⟩,om,om⟩)|(rw [D] at hp; cases hp)); (have D:=hyes _ q om; first|(refine ⟨⟨om,om⟩,om,om⟩)|(rw [D] at hp; cases hp)))⟩ _ _ _ rfl (by simp only []; omega) (bg rfl) (aN [0]))
 refine ao<|rP 3 [] mn ?_
 refine aB<|aI ?_
 refine aY (E ⟨(((a+((b-a)/2))+1),b),(by dsimp only; rcases Int.lt_or_le (a+(b-a)/2) r with q|q; (have D:=hno _ om q; first|(refine ⟨⟨om,om⟩,om,om⟩)|(rw [D] at hp; cases hp)); (have D:=hyes _ q om; first|(refine ⟨⟨om,om⟩,om,om⟩)|(rw [D] at hp; cases hp)))⟩ _ _ _ rfl (by simp only []; omega) (bg rfl) (aN [0]))
theorem D6 (h:Int) (hh:0≤h∧h≤400000):
 cz Tryz.prog 95 [(vI h)] [] (vI (fY h)):=by
 have hs:=pO hh.1 hh.2
 have E:=tc hh.1 hh.2
 refine bf kr Tryz.func95 U U fun H Q hQ hN=>?_
 try dsimp only
 refine WS fun _ C=>o4 U U fun A=>rP 1 [] mn ?_
 refine RK C<|WS fun _ D=>rS (FU U) ?_
 refine rS (CL (vV 0 10000 (Value.func (.func 136) [].toArray [(vP A)].toArray) (fun B=>(decide (1962*h<10*B*B))) (ky [(bm A 3 [(vI h)])]) (fY h+1) (by intro B _; exact hZ (fi:=[]) (ca:=[(vP A)]) (gu (Bn B h A (by first|assumption|omega) (by first|assumption|omega)) (aX [0]))) sd (by intro x F hx; exact Ch hh.1 om hx) (by intro x hx G; exact zU hh.1 hx)) (aK (gJ (aX [0]))<|av) U) ?_
 refine rP 2 [] mn ?_
 refine RK D<|an<|Q1 hQ U U U ?_
 exact cI om
theorem Fc (h:Int) (hh:0≤h∧h≤400000):
 cz Tryz.prog 96 [(vI h)] [] (vI (jW h)):=by
 have hs:=pO hh.1 hh.2
 have E:=tc hh.1 hh.2
 refine bf kr Tryz.func96 U U fun H Q hQ hN=>?_
 try dsimp only
 refine WS fun _ C=>o4 U U fun A=>rP 1 [] mn ?_
 refine RK C<|WS fun _ D=>rS (FU U) ?_
 refine rS (CL (vV 0 10000 (Value.func (.func 137) [].toArray [(vP A)].toArray) (fun B=>(decide (1962*h≤10*B*B))) (ky [(bm A 3 [(vI h)])]) (jW h) (by intro B _; exact hZ (fi:=[]) (ca:=[(vP A)]) (gu (CJ B h A (by first|assumption|omega) (by first|assumption|omega)) (aX [0]))) sd (by intro x F hx; exact CP hh.1 om hx) (by intro x hx G; exact yK hh.1 hx)) (aK (gJ (aX [0]))<|av) U) ?_
 refine rP 1 [] mn ?_
 refine RK D<|an<|Q1 hQ U U U ?_
 exact cI om
end
section
open Go.RowKit
theorem CV (ts:List ab) (tsA:OA) (tsC:Nat) (s:bL) (i:Int) (hlen:ts.length≤1000000) (hside: ∀ x∈ts,0≤x.ct∧x.ct≤255):
 cz Tryz.prog 52 [(vA (ag.cells (ag.mk (aJ.mk tsA ts.length tsC)))),(vA (bL.cells s)),(vI i)] [(rd tsA ts.length 9 (ts.map ab.cells))] (vT [(vA (I.cells (oy s ts i))),(vI (mS s ts i))]):=by
 refine bf kr Tryz.func52 U U fun e Q hQ hN=>?_
 try dsimp only
 refine WS fun _ O=>ej U fun a=>ej U fun b=>AL U cv fun c=>aU 1 U<|RK O<|WS fun _ P=>rP 2 [0,1] (mc 2 U (mc 1 U mn)) ?_
 refine cX (pD ts tsA tsC s hlen hside) (aX [3]) U fun Y X=>?_
 obtain ⟨Z,d⟩:=Y
 try dsimp only
 refine aU 5 U<|RK P<|al fun _ D=>WS fun _ E=>rP 2 [] mn ?_
 refine RK E<|cd U (aP fun he=>?_) (aO fun he=>?_)
 ·refine WS fun _ F=>rS (SX (aS (xs:=[]) (cs:=(I.cells (I.mk 0 0))) U U (aT fm U)) U U)<|aU 1 U<|oa U cn U<|rP 1 [] mn ?_
  refine RK F<|an<|l6 hQ [0] (mc 1 U mn) U ?_
  first|(rw [(je (i:=i) he).1,(je (i:=i) he).2]<;>rfl)|(rw [(ib (i:=i) he om).1,(ib (i:=i) he om).2]<;>rfl)|(rw [(iv (i:=i) he om).1,(iv (i:=i) he om).2,A]<;>rfl)
 refine WK D<|al fun _ G=>WS fun _ B=>?_
 obtain ⟨C,hs⟩:=qf he
 have K:=bT C
 have R:=cw C
 have W:=fZ (s:=s) (ts:=ts)
 rw [kO C hs]
 refine rP 3 [] mn ?_
 refine bx (t:=22) U (aM fun M=>?_) (aL fun M=>?_)
 ·refine aU 5 U<|RK B<|aC U<|WS fun _ H=>rS (SX (aS (xs:=[]) (cs:=(I.cells (I.mk 0 0))) U U (aT fm U)) U U)<|oa U cn U<|rP 1 [] mn ?_
  refine RK H<|an<|l6 hQ [0] (mc 1 U mn) U ?_
  first|(rw [(je (i:=i) he).1,(je (i:=i) he).2]<;>rfl)|(rw [(ib (i:=i) he om).1,(ib (i:=i) he om).2]<;>rfl)|(rw [(iv (i:=i) he om).1,(iv (i:=i) he om).2,A]<;>rfl)
 refine rP 5 [] mn ?_
 refine RK B<|cd U (aM fun N=>?_) (aL fun N=>?_)
 ·refine WS fun _ AB=>rS (SX (aS (xs:=[]) (cs:=(I.cells (I.mk 0 0))) U U (aT fm U)) U U)<|oa U cn U<|rP 1 [] mn ?_
  refine RK AB<|an<|l6 hQ [0] (mc 1 U mn) U ?_
  first|(rw [(je (i:=i) he).1,(je (i:=i) he).2]<;>rfl)|(rw [(ib (i:=i) he om).1,(ib (i:=i) he om).2]<;>rfl)|(rw [(iv (i:=i) he om).1,(iv (i:=i) he om).2,A]<;>rfl)
 refine WK G<|al fun _ J=>dF cx 13 kr<|dP 2 [] mn ?_
 obtain ⟨y,hy⟩:=bh (dn s ts) ((i).toNat) om
 have L:=bp I.cells hy
 refine dS (IA ((i).toNat) U (aQ (n:=(dn s ts).length) 0 U sm) hU dc om om)<|dS (lp (((i).toNat)*2) U (aQ (n:=(dn s ts).length) 0 U sm) (Nat.mul_pos om dc) fh U) ?_
 have AA:=jh (best:=false) hs K i.toNat
 have V:=jh (best:=true) hs K i.toNat
 have A:y=kZ s ts i.toNat:=by rw [k6 om] at hy; exact (Option.some.inj hy).symm
 have T:0≤y.Lo∧y.Lo≤400000:=by rw [A]; simp only [kZ]; omega
 have S:0≤y.Hi∧y.Hi≤400000:=by rw [A]; simp only [kZ]; omega
 refine dS (fT ((i).toNat) 0 (vI y.Lo) U bQ (aQ (n:=(dn s ts).length) 0 U sm) L U dc U) ?_
 refine dS (CL (D6 y.Lo sd) (av) U) ?_
 refine dP 2 [] mn ?_
 refine dS (IA ((i).toNat) U (aQ (n:=(dn s ts).length) 0 U sm) hU dc om om)<|dS (lp ((((i).toNat)*2)+1) U (aQ (n:=(dn s ts).length) 0 U sm) (Nat.mul_pos om dc) fh U)<|dS (fT ((i).toNat) 1 (vI y.Hi) U bQ (aQ (n:=(dn s ts).length) 0 U sm) L U dc U) ?_
 refine dS (CL (Fc y.Hi sd) (av) U) ?_
 refine dS (SX (aS (xs:=[(0,.tmp 34),(1,.tmp 40)]) (cs:=(I.cells (I.mk (fY y.Lo) (jW y.Hi)))) U U (aT fm U)) U U)<|cj<|oa U cn U<|rP 1 [] mn ?_
 refine RK J<|an<|l6 hQ [0] (mc 1 U mn) U ?_
 first|(rw [(je (i:=i) he).1,(je (i:=i) he).2]<;>rfl)|(rw [(ib (i:=i) he om).1,(ib (i:=i) he om).2]<;>rfl)|(rw [(iv (i:=i) he om).1,(iv (i:=i) he om).2,A]<;>rfl)
end
end Go.Proofs.YtkidpbhlgnalaaaGreat
