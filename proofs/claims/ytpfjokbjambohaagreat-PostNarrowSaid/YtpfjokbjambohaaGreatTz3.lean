/-
 The statement postNarrow_said, part 3 of 4: P2, P3, P4, P5, P6, RangeG, MarkD, MapD, P7, S2, P8, M1, M2, M3, P9, P12, G1, G2, P10, P11, A1, A2, G3, N1, N2.
 Conditions: none.
-/
import Derived.Test.YtpfjokbjambohaaGreatTz1
import Derived.Test.YtpfjokbjambohaaGreatTz2
namespace Go.Proofs.YtpfjokbjambohaaGreat
set_option maxRecDepth 100000
set_option maxHeartbeats 4000000
set_option linter.unusedVariables false
section
open Go.RowKit
theorem oM (d:ak) (kA:OA) (kC:Nat) (pA:OA) (pC:Nat) (nA:OA) (nC:Nat) (hin:cJ d):
 dx Tryz.prog 29 [(vA (aZ.cells (aZ.mk (ar.mk (bB.mk kA d.ag.length kC)) (bB.mk pA d.ae.length pC) (bB.mk nA d.aq.length nC) d.a2 d.a4)))] [(rd kA d.ag.length 9 (d.ag.map aa.cells)),(rd pA d.ae.length 7 (d.ae.map aV.cells)),(rd nA d.aq.length 3 (d.aq.map bc.cells))] (vI (br d)):=by
 have BK:=hin.k3
 have BJ:=hin.side
 have BQ:=hin.kb
 have BO:=hin.kG
 have u:=hin.nk
 have BG:=hin.pk
 refine bD kr Tryz.func29 U U fun w0 Q hQ hN=>?_
 try dsimp only
 refine WS fun _ A7=>fN U fun N=>aY 1 U<|RK A7<|ai fun _ A8=>WS fun _ BB=>rP 1 [] mn ?_
 refine rS (LP (ar.cells (ar.mk (bB.mk kA d.ag.length kC))) 0 U cz U U U) ?_
 refine rS (CL (oE d.ag kA kC sd sd) (bg [1]) U) ?_
 refine aY 1 U<|RK BB<|WS fun _ BC=>rP 2 [] mn ?_
 refine RK BC<|cG U (aX fun E=>?_) (aW fun E=>?_)
 ·refine WS fun _ BD=>rP 2 [] mn ?_
  refine RK BD<|an<|Q1 hQ U U U ?_
  first|(refine cI ?_; rw [(dn E).2,cS (dn E).1])|exact cI (aD A fun q=>by have:=q.len; omega).symm|exact cI (aD A fun q=>by exact absurd q.b1 (by simpa using B)).symm|exact cI (aD A fun q=>by exact B q.b1).symm|exact cI (aD A fun q=>by have:=q.dC; omega).symm|exact cI (aD A fun q=>by have G:=q.post i p hp; unfold cf at G; first|omega|exact absurd G.2.2.1 (by simpa using F)|exact F G.2.2.1).symm|exact cI (aD A fun q=>by rw [cc.2 q.eQ] at C; cases C).symm|exact cI (cY A (bI I (by simpa using B) I D I (cc.1 (by simpa using C)))).symm
 refine WK A8<|WS fun _ BE=>?_
 have A:=n9 E
 refine rS (FU U)<|aY 1 U<|RK BE<|ai fun _ BF=>WS fun _ J=>rP 5 [] (mc 0 U mn) ?_
 refine ct (t:=19) U (aS fun AQ=>?_) (aR fun AQ=>?_)
 ·refine aY 19 U<|RK J<|aT U<|WS fun _ P=>rP 1 [] mn ?_
  refine RK P<|an<|Q1 hQ U U U ?_
  first|(refine cI ?_; rw [(dn E).2,cS (dn E).1])|exact cI (aD A fun q=>by have:=q.len; omega).symm|exact cI (aD A fun q=>by exact absurd q.b1 (by simpa using B)).symm|exact cI (aD A fun q=>by exact B q.b1).symm|exact cI (aD A fun q=>by have:=q.dC; omega).symm|exact cI (aD A fun q=>by have G:=q.post i p hp; unfold cf at G; first|omega|exact absurd G.2.2.1 (by simpa using F)|exact F G.2.2.1).symm|exact cI (aD A fun q=>by rw [cc.2 q.eQ] at C; cases C).symm|exact cI (cY A (bI I (by simpa using B) I D I (cc.1 (by simpa using C)))).symm
 refine rP 6 [] (mc 0 U mn) ?_
 refine ct (t:=25) U (aS fun A1=>?_) (aR fun A1=>?_)
 ·refine aY 13 U<|RK J<|aT U<|WS fun _ R=>rP 1 [] mn ?_
  refine RK R<|an<|Q1 hQ U U U ?_
  first|(refine cI ?_; rw [(dn E).2,cS (dn E).1])|exact cI (aD A fun q=>by have:=q.len; omega).symm|exact cI (aD A fun q=>by exact absurd q.b1 (by simpa using B)).symm|exact cI (aD A fun q=>by exact B q.b1).symm|exact cI (aD A fun q=>by have:=q.dC; omega).symm|exact cI (aD A fun q=>by have G:=q.post i p hp; unfold cf at G; first|omega|exact absurd G.2.2.1 (by simpa using F)|exact F G.2.2.1).symm|exact cI (aD A fun q=>by rw [cc.2 q.eQ] at C; cases C).symm|exact cI (cY A (bI I (by simpa using B) I D I (cc.1 (by simpa using C)))).symm
 refine rP 2 [] mn ?_
 refine rS (LP (aG.cells d.a2) 0 U cz U U U) ?_
 refine rS (CL (nI d.a2 d kA kC pA pC nA nC N hin sd) (bg [1,2,3,0]) U) ?_
 refine rP 3 [] mn ?_
 refine ct (t:=32) U (aX fun B=>?_) (aW fun B=>?_)
 ·refine aY 6 U<|RK J<|aT U<|WS fun _ S=>rP 1 [] mn ?_
  refine RK S<|an<|Q1 hQ U U U ?_
  first|(refine cI ?_; rw [(dn E).2,cS (dn E).1])|exact cI (aD A fun q=>by have:=q.len; omega).symm|exact cI (aD A fun q=>by exact absurd q.b1 (by simpa using B)).symm|exact cI (aD A fun q=>by exact B q.b1).symm|exact cI (aD A fun q=>by have:=q.dC; omega).symm|exact cI (aD A fun q=>by have G:=q.post i p hp; unfold cf at G; first|omega|exact absurd G.2.2.1 (by simpa using F)|exact F G.2.2.1).symm|exact cI (aD A fun q=>by rw [cc.2 q.eQ] at C; cases C).symm|exact cI (cY A (bI I (by simpa using B) I D I (cc.1 (by simpa using C)))).symm
 refine rP 2 [] (mc 0 U mn) ?_
 refine df (xs:=[.tmp 34]) (cs:=[(vI d.a4)]) U cL gY U U U U (by simp [Value.cells]) U U fun v=>?_
 refine rS (CL (dx.eq (ey 0 400000 ([d.a4]) (some ⟨v,0,none⟩) 1 sd) cA) (av (aK 0 U U (by simp [ba]) U)<|aw) U) ?_
 refine rP 2 [] mn ?_
 refine RK J<|cG U (aX fun A2=>?_) (aW fun A2=>?_)
 ·refine WS fun _ T=>rP 1 [] mn ?_
  refine RK T<|an<|Q1 hQ U U U ?_
  first|(refine cI ?_; rw [(dn E).2,cS (dn E).1])|exact cI (aD A fun q=>by have:=q.len; omega).symm|exact cI (aD A fun q=>by exact absurd q.b1 (by simpa using B)).symm|exact cI (aD A fun q=>by exact B q.b1).symm|exact cI (aD A fun q=>by have:=q.dC; omega).symm|exact cI (aD A fun q=>by have G:=q.post i p hp; unfold cf at G; first|omega|exact absurd G.2.2.1 (by simpa using F)|exact F G.2.2.1).symm|exact cI (aD A fun q=>by rw [cc.2 q.eQ] at C; cases C).symm|exact cI (cY A (bI I (by simpa using B) I D I (cc.1 (by simpa using C)))).symm
 refine WK BF<|WS fun _ AA=>aY 1 U<|RK AA<|ai fun _ V=>WS fun _ W=>rP 4 [] (mc 1 U mn) ?_
 refine RK W<|ay ?_
 have AB:(0≤d.ae.length)∧(gi d 0):=by exact ⟨Nat.zero_le _,l9⟩
 have o:(vI (fb d.ae 0))=(vI (-1)):=by rw [gP rfl]
 refine bu (ι:={z:Nat // (z≤d.ae.length)∧(gi d z)}) [1,4,40,41] [1,2,3,4] U U (fun z=>[(5,(vI (fb d.ae z.1))),(42,(vI (z.1:Int)))]) (fun z=>[]) (fun _=>rfl) (fun _=>rfl) (fun z=>d.ae.length-z.1) ⟨0,AB⟩ (aN U o<|a3 U) (aL [1,2,3,4]) ?_
 clear AB
 rintro ⟨i,⟨L,D⟩⟩ J19 O
 try dsimp only
 refine WS fun _ X=>rP 1 [] mn ?_
 refine RK X<|ai fun _ Y=>bq U (aR fun A0=>?_) (aS fun A0=>?_)
 ·refine bk<|ab<|ab<|ax<|KK V<|ai fun _ j=>WS fun _ k=>rP 2 [] (mc 0 U mn) ?_
  refine rS (FU U) ?_
  refine rS (CL (nK d.aq nA nC (Value.func (.func 60) [].toArray [(vP N)].toArray) (fun M=>(!(decide (bx d.ag M)))) (m7 [(rd kA d.ag.length 9 (d.ag.map aa.cells)),(rd pA d.ae.length 7 (d.ae.map aV.cells)),(rd nA d.aq.length 3 (d.aq.map bc.cells)),(cv N 32 (aZ.cells (aZ.mk (ar.mk (bB.mk kA d.ag.length kC)) (bB.mk pA d.ae.length pC) (bB.mk nA d.aq.length nC) d.a2 d.a4)))]) (by intro M K; exact jY (fi:=[]) (ca:=[(vP N)]) (iy (v9 M d kA kC pA pC nA nC N (by first|assumption|exact u _ K|omega) (by first|assumption|exact u _ K|omega)) (bg [0,1,2,3]))) sd) (eB 3 U U<|av (jw (bg [1,2,3,0]))<|aw) U) ?_
  refine RK k<|cG U (fun C=>?_) (fun C=>?_)
  ·refine WS fun _ l=>rP 1 [] mn ?_
   refine RK l<|an<|Q1 hQ U U U ?_
   first|(refine cI ?_; rw [(dn E).2,cS (dn E).1])|exact cI (aD A fun q=>by have:=q.len; omega).symm|exact cI (aD A fun q=>by exact absurd q.b1 (by simpa using B)).symm|exact cI (aD A fun q=>by exact B q.b1).symm|exact cI (aD A fun q=>by have:=q.dC; omega).symm|exact cI (aD A fun q=>by have G:=q.post i p hp; unfold cf at G; first|omega|exact absurd G.2.2.1 (by simpa using F)|exact F G.2.2.1).symm|exact cI (aD A fun q=>by rw [cc.2 q.eQ] at C; cases C).symm|exact cI (cY A (bI I (by simpa using B) I D I (cc.1 (by simpa using C)))).symm
  refine WK j<|WS fun _ n=>rP 1 [] mn ?_
  refine RK n<|an<|Q1 hQ U U U ?_
  first|(refine cI ?_; rw [(dn E).2,cS (dn E).1])|exact cI (aD A fun q=>by have:=q.len; omega).symm|exact cI (aD A fun q=>by exact absurd q.b1 (by simpa using B)).symm|exact cI (aD A fun q=>by exact B q.b1).symm|exact cI (aD A fun q=>by have:=q.dC; omega).symm|exact cI (aD A fun q=>by have G:=q.post i p hp; unfold cf at G; first|omega|exact absurd G.2.2.1 (by simpa using F)|exact F G.2.2.1).symm|exact cI (aD A fun q=>by rw [cc.2 q.eQ] at C; cases C).symm|exact cI (cY A (bI I (by simpa using B) I D I (cc.1 (by simpa using C)))).symm
 refine WK Y<|ai fun _ Z=>ay<|WS fun _ a=>?_
 obtain ⟨p,hp⟩:=bh d.ae i I
 have BH:=bG aV.cells hp
 refine rS (IA i U (aO 2 U) m1 dc I I)<|rS (mY i 0 (aV.cells p) U cz (aO 2 U) BH U dc U U)<|AL U uh fun BN=>gG U vh U<|RK a<|ai fun _ b=>WS fun _ H=>?_
 have BP:=uu L D
 have BL:=BG p (aI hp)
 refine rP 4 [] (mc 0 U mn) ?_
 refine df (xs:=[.tmp 49]) (cs:=[(vI p.Id)]) U cL gY U U U U (by simp [Value.cells]) U U fun w=>?_
 refine rS (CL (dx.eq (ey ((fb d.ae i)+1) 9999 ([p.Id]) (some ⟨w,0,none⟩) 1 sd) cA) (av (aK 0 U U (by simp [ba]) U)<|aw) U) ?_
 refine rP 2 [] mn ?_
 refine ct (t:=53) U (aX fun A3=>?_) (aW fun A3=>?_)
 ·refine aY 28 U<|RK H<|aT U<|WS fun _ c=>rP 1 [] mn ?_
  refine RK c<|an<|Q1 hQ U U U ?_
  first|(refine cI ?_; rw [(dn E).2,cS (dn E).1])|exact cI (aD A fun q=>by have:=q.len; omega).symm|exact cI (aD A fun q=>by exact absurd q.b1 (by simpa using B)).symm|exact cI (aD A fun q=>by exact B q.b1).symm|exact cI (aD A fun q=>by have:=q.dC; omega).symm|exact cI (aD A fun q=>by have G:=q.post i p hp; unfold cf at G; first|omega|exact absurd G.2.2.1 (by simpa using F)|exact F G.2.2.1).symm|exact cI (aD A fun q=>by rw [cc.2 q.eQ] at C; cases C).symm|exact cI (cY A (bI I (by simpa using B) I D I (cc.1 (by simpa using C)))).symm
 refine rP 2 [] (mc 1 U mn) ?_
 refine rS (SX (eK (m:=p.Kind) U U rW mZ (dq (by first|assumption|omega))) U U)<|df (xs:=[.tmp 56]) (cs:=[(vI p.Kind)]) U cL gY U U U U (by simp [Value.cells]) U U fun x=>?_
 refine rS (CL (dx.eq (ey 1 3 ([p.Kind]) (some ⟨x,0,none⟩) 1 sd) cA) (av (aK 0 U U (by simp [ba]) U)<|aw) U) ?_
 refine rP 3 [] mn ?_
 refine ct (t:=61) U (aX fun A4=>?_) (aW fun A4=>?_)
 ·refine aY 20 U<|RK H<|aT U<|WS fun _ e=>rP 1 [] mn ?_
  refine RK e<|an<|Q1 hQ U U U ?_
  first|(refine cI ?_; rw [(dn E).2,cS (dn E).1])|exact cI (aD A fun q=>by have:=q.len; omega).symm|exact cI (aD A fun q=>by exact absurd q.b1 (by simpa using B)).symm|exact cI (aD A fun q=>by exact B q.b1).symm|exact cI (aD A fun q=>by have:=q.dC; omega).symm|exact cI (aD A fun q=>by have G:=q.post i p hp; unfold cf at G; first|omega|exact absurd G.2.2.1 (by simpa using F)|exact F G.2.2.1).symm|exact cI (aD A fun q=>by rw [cc.2 q.eQ] at C; cases C).symm|exact cI (cY A (bI I (by simpa using B) I D I (cc.1 (by simpa using C)))).symm
 refine rP 2 [] mn ?_
 refine rS (LP (aG.cells p.cp) 2 U cz U U U) ?_
 refine rS (CL (nI p.cp d kA kC pA pC nA nC N hin sd) (bg [4,5,6,3]) U) ?_
 refine rP 3 [] mn ?_
 refine ct (t:=68) U (aX fun F=>?_) (aW fun F=>?_)
 ·refine aY 13 U<|RK H<|aT U<|WS fun _ f=>rP 1 [] mn ?_
  refine RK f<|an<|Q1 hQ U U U ?_
  first|(refine cI ?_; rw [(dn E).2,cS (dn E).1])|exact cI (aD A fun q=>by have:=q.len; omega).symm|exact cI (aD A fun q=>by exact absurd q.b1 (by simpa using B)).symm|exact cI (aD A fun q=>by exact B q.b1).symm|exact cI (aD A fun q=>by have:=q.dC; omega).symm|exact cI (aD A fun q=>by have G:=q.post i p hp; unfold cf at G; first|omega|exact absurd G.2.2.1 (by simpa using F)|exact F G.2.2.1).symm|exact cI (aD A fun q=>by rw [cc.2 q.eQ] at C; cases C).symm|exact cI (cY A (bI I (by simpa using B) I D I (cc.1 (by simpa using C)))).symm
 refine rP 2 [] (mc 2 U mn) ?_
 refine df (xs:=[.tmp 70]) (cs:=[(vI p.gT)]) U cL gY U U U U (by simp [Value.cells]) U U fun y=>?_
 refine rS (CL (dx.eq (ey 0 36000 ([p.gT]) (some ⟨y,0,none⟩) 1 sd) cA) (av (aK 0 U U (by simp [ba]) U)<|aw) U) ?_
 refine rP 3 [] mn ?_
 refine ct (t:=75) U (aX fun A5=>?_) (aW fun A5=>?_)
 ·refine aY 6 U<|RK H<|aT U<|WS fun _ g=>rP 1 [] mn ?_
  refine RK g<|an<|Q1 hQ U U U ?_
  first|(refine cI ?_; rw [(dn E).2,cS (dn E).1])|exact cI (aD A fun q=>by have:=q.len; omega).symm|exact cI (aD A fun q=>by exact absurd q.b1 (by simpa using B)).symm|exact cI (aD A fun q=>by exact B q.b1).symm|exact cI (aD A fun q=>by have:=q.dC; omega).symm|exact cI (aD A fun q=>by have G:=q.post i p hp; unfold cf at G; first|omega|exact absurd G.2.2.1 (by simpa using F)|exact F G.2.2.1).symm|exact cI (aD A fun q=>by rw [cc.2 q.eQ] at C; cases C).symm|exact cI (cY A (bI I (by simpa using B) I D I (cc.1 (by simpa using C)))).symm
 refine rP 2 [] (mc 3 U mn) ?_
 refine df (xs:=[.tmp 77]) (cs:=[(vI p.jM)]) U cL gY U U U U (by simp [Value.cells]) U U fun AC=>?_
 refine rS (CL (dx.eq (ey 1 1000 ([p.jM]) (some ⟨AC,0,none⟩) 1 sd) cA) (av (aK 0 U U (by simp [ba]) U)<|aw) U) ?_
 refine rP 2 [] mn ?_
 refine RK H<|bq U (aW fun A6=>?_) (aX fun A6=>?_)
 ·refine WK b<|aj<|gS 3 [] (mc 4 U mn) U<|aB<|aF<|KK Z<|aj<|rP 2 [] mn ?_
  refine aB ?_
  have r:(vI (fb d.ae (i+1)))=(vI p.Id):=by rw [oR hp]
  have s:(vI (((i+1):Nat):Int))=(vI ((i:Int)+1)):=by exact cI I
  refine aU (O ⟨(i+1),⟨I,jU D hp (by unfold cf; exact ⟨I,I,by simpa using F,I,I⟩)⟩⟩ _ _ _ U os (bL 4<|aN U r<|aN U s<|cE.nil _) (aL [5,6,7,8]))
 refine WS fun _ h=>rP 1 [] mn ?_
 refine RK h<|an<|Q1 hQ U U U ?_
 first|(refine cI ?_; rw [(dn E).2,cS (dn E).1])|exact cI (aD A fun q=>by have:=q.len; omega).symm|exact cI (aD A fun q=>by exact absurd q.b1 (by simpa using B)).symm|exact cI (aD A fun q=>by exact B q.b1).symm|exact cI (aD A fun q=>by have:=q.dC; omega).symm|exact cI (aD A fun q=>by have G:=q.post i p hp; unfold cf at G; first|omega|exact absurd G.2.2.1 (by simpa using F)|exact F G.2.2.1).symm|exact cI (aD A fun q=>by rw [cc.2 q.eQ] at C; cases C).symm|exact cI (cY A (bI I (by simpa using B) I D I (cc.1 (by simpa using C)))).symm
end
section
open Go.RowKit
theorem j1 (l:List Int) (lA:OA) (lC:Nat) (hl: ∀ x∈l,-1000000000≤x∧x≤1000000000) (hlen:l.length≤1000000):
 dx Tryz.prog 84 [(vS lA l.length lC)] [(rd lA l.length 1 (l.map iC))] (vI (g0 l)):=by
 refine bD kr Tryz.func84 U U fun T Q hQ hN=>?_
 try dsimp only
 refine WS fun _ H=>aY 1 U<|RK H<|WS fun _ AA=>aY 1 U<|RK AA<|ai fun _ J=>WS fun _ K=>rP 3 [] mn ?_
 refine RK K<|ay ?_
 have A:(0≤l.length):=by exact Nat.zero_le _
 have N:(vI (g0 (l.take 0)))=(vI 0):=by rfl
 refine bu (ι:={z:Nat // (z≤l.length)}) [6,7] [0] U U (fun z=>[(3,(vI (g0 (l.take z.1)))),(8,(vI (z.1:Int)))]) (fun z=>[]) (fun _=>rfl) (fun _=>rfl) (fun z=>l.length-z.1) ⟨0,A⟩ (aN U N<|a3 U) (aL [0]) ?_
 clear A
 rintro ⟨i,O⟩ J6 G
 try dsimp only
 refine WS fun _ L=>rP 1 [] mn ?_
 refine RK L<|ai fun _ M=>bq U (aR fun R=>?_) (aS fun R=>?_)
 ·refine bk<|ab<|ab<|ax<|KK J<|WS fun _ D=>rP 2 [] mn ?_
  refine RK D<|an<|Q1 hQ U U U ?_
  rw [List.take_of_length_le I]
 refine WK M<|ai fun _ B=>ay<|WS fun _ C=>?_
 obtain ⟨x,hx⟩:=bh l i I
 have P:=bG iC hx
 refine rS (IA i U (aO 0 U) cL dc I I)<|rS (g5 i 0 (vI x) U cz (aO 0 U) P U dc U)<|rP 1 [] mn ?_
 refine RK C<|aj ?_
 have S:=hl x (aI hx)
 refine aY 3 U<|rS (NG U ⟨I,I⟩)<|rS (SX (vf U U U U) U U)<|aY 1 U<|aB<|aF<|KK B<|aj<|rP 2 [] mn ?_
 refine aB ?_
 have E:(vI (g0 (l.take (i+1))))=(vI (max (max (g0 (l.take i)) x) (-x))):=by rw [pN hx]
 have F:(vI (((i+1):Nat):Int))=(vI ((i:Int)+1)):=by exact cI I
 refine aU (G ⟨(i+1),(by first|omega|(simp only []; omega))⟩ _ _ _ U os (cE.cons U<|cE.cons U<|aN U E<|aN U F<|cE.nil _) (aL [0]))
theorem q_ (ts:List aa) (tsA:OA) (tsC:Nat) (s:aG) (k:Int) (hlen:ts.length≤1000000) (hside: ∀ x∈ts,0≤x.cT∧x.cT≤255) (htr:a_ ts=true) (hs:bS ts s) (hk:0≤k∧k<(ts.length:Int)):
 dx Tryz.prog 82 [(vA (ar.cells (ar.mk (bB.mk tsA ts.length tsC)))),(vA (aG.cells s)),(vI k)] [(rd tsA ts.length 9 (ts.map aa.cells))] (vI (gL ts s k)):=by
 refine bD kr Tryz.func82 U U fun K Q hQ hN=>?_
 try dsimp only
 refine WS fun _ B=>fN U fun H=>fN U fun AA=>aY 1 U<|RK B<|WS fun _ C=>gS 3 [0,1] (mc 1 U (mc 0 U mn)) U<|rS (SX (bl (xs:=[(0,.tmp 12)]) (cs:=(aG.cells (aG.mk k (al.mk 0 0)))) U U (bm ue U)) U U)<|rS (CL (nX ts tsA tsC s (aG.mk k (al.mk 0 0)) hlen hside) (bg [2]) U)<|aY 3 U<|AL U eG fun J=>gG U dB U<|rP 1 [] mn ?_
 refine RK C<|WS fun _ D=>?_
 have F:=jg htr ⟨hs,ot htr hk⟩
 have E:=mw (cP htr) (dy htr) hs (ot htr hk)
 have A:=qE htr hs hk
 rw [← F.2] at E A
 refine rP 4 [] (mc 0 U mn) ?_
 refine df (xs:=[.tmp 18,.tmp 20]) (cs:=[(vI ((dL ts s (aG.mk k (al.mk 0 0))).Lo)),(vI ((dL ts s (aG.mk k (al.mk 0 0))).Hi))]) U cL gY U U U U (by simp [Value.cells]) U U fun G=>?_
 refine rS (CL (j1 ([(dL ts s (aG.mk k (al.mk 0 0))).Lo,(dL ts s (aG.mk k (al.mk 0 0))).Hi]) (some ⟨G,0,none⟩) 2 (by intro x hx; simp only [bE,List.not_mem_nil,or_false] at hx; omega) sm) (av (aK 0 U U (by simp [ba]) U)<|aw) U) ?_
 refine rP 1 [] mn ?_
 refine RK D<|an<|Q1 hQ U U U ?_
 exact cI A
theorem xX (ts:List aa) (tsA:OA) (tsC:Nat) (s:aG) (k:Int) (g1:Nat) (hlen:ts.length≤1000000) (hside: ∀ x∈ts,0≤x.cT∧x.cT≤255) (htr:a_ ts=true) (hs:bS ts s) (hk:0≤k∧k<(ts.length:Int)):
 dx Tryz.prog 85 [(vA (ar.cells (ar.mk (bB.mk tsA ts.length tsC)))),(vA (aG.cells s)),(vI k),(vP g1)] [(rd tsA ts.length 9 (ts.map aa.cells)),(cv g1 68 [(Value.func (.func 82) [].toArray [].toArray)])] (vI (gL ts s (k+1))):=by
 have K:=dy htr
 have J:=hs.1
 have L:=kY (cP htr) hs
 refine bD kr Tryz.func85 U U fun R Q hQ hN=>?_
 try dsimp only
 refine WS fun _ D=>fN U fun M=>fN U fun N=>aY 1 U<|RK D<|ai fun _ E=>WS fun _ F=>rP 6 [] (mc 1 U mn) ?_
 refine RK F<|cG U (aS fun C=>?_) (aR fun C=>?_)
 ·refine WS fun _ G=>rP 5 [0,1,2] (mr 3 U (mc 1 U (mc 0 U mn))) ?_
  refine rS (CL (q_ ts tsA tsC s (k+1) hlen hside htr hs sd) (bg [2]) U) ?_
  refine rP 1 [] mn ?_
  refine RK G<|an<|Q1 hQ U U U ?_
  first|rfl|(refine cI ?_; unfold gL; rw [if_neg I,A.2.1])
 refine WK E<|WS fun _ H=>gS 5 [0,1] (mc 1 U (mc 0 U mn)) U<|rS (CL (x7 ts tsA tsC s.ao (k+1) hlen hside) (bg [2]) U)<|aY 4 U<|AL U eG fun O=>AL U eG fun P=>vp U dB U<|gG U dB U<|rP 1 [] mn ?_
 refine RK H<|WS fun _ B=>?_
 have A:=iX (f:=s.ao) (t:=k+1) htr ⟨J.1,I,I⟩
 have AA:=il (cP htr) s.ao.toNat (k+1-s.ao).toNat
 rw [← A.2.1] at AA
 refine rP 7 [0,1] (mc 1 U (mc 2 U mn)) ?_
 refine RK B<|an<|Q1 hQ U U U ?_
 first|rfl|(refine cI ?_; unfold gL; rw [if_neg I,A.2.1])
theorem xo:
 jH Tryz.prog 63 [] [] (fun (x:Nat)=>(vA ((dZ.cells (dZ.mk (Value.func (.func 82) [].toArray [].toArray)))++(dZ.cells (dZ.mk (Value.func (.func 85) [].toArray [(vP x)].toArray)))))) (fun (x:Nat)=>True) (fun (x:Nat)=>[(cv x 68 [(Value.func (.func 82) [].toArray [].toArray)])]):=by
 refine dh kr Tryz.func63 U U fun F Q hQ hN=>?_
 try dsimp only
 refine WS fun _ B=>AL U yR fun E=>RK B<|WS fun _ C=>AL U Av fun A=>z3 U Ae U U<|RK C<|WS fun _ D=>rP 1 [] (mc 0 U mn) ?_
 refine rS (SX (bl (xs:=[(0,.tmp 2)]) (cs:=(dZ.cells (dZ.mk (Value.func (.func 82) [].toArray [].toArray)))) U U (bm wj U)) U U)<|rS (FU U)<|rS (SX (bl (xs:=[(0,.tmp 4)]) (cs:=(dZ.cells (dZ.mk (Value.func (.func 85) [].toArray [(vP A)].toArray)))) U U (bm wj U)) U U)<|rS (SX (bl (xs:=[(0,.tmp 3),(1,.tmp 5)]) (cs:=((dZ.cells (dZ.mk (Value.func (.func 82) [].toArray [].toArray)))++(dZ.cells (dZ.mk (Value.func (.func 85) [].toArray [(vP A)].toArray))))) U U (bm zf U)) U U)<|vp U yZ U<|RK D<|an<|LX hQ A [0] [0] (mc 1 U mn) U U U U ?_
 trivial
theorem tU (ts:List aa) (tsA:OA) (tsC:Nat) (s:aG) (k:Int) (hlen:ts.length≤1000000) (hside: ∀ x∈ts,0≤x.cT∧x.cT≤255) (htr:a_ ts=true) (hs:bS ts s) (hk:0≤k∧k<(ts.length:Int)):
 dx Tryz.prog 31 [(vA (ar.cells (ar.mk (bB.mk tsA ts.length tsC)))),(vA (aG.cells s)),(vI k)] [(rd tsA ts.length 9 (ts.map aa.cells))] (vI (iR ts s k)):=by
 have W:=nO htr hs (m:=k) I
 have X:=nO htr hs (m:=k+1) I
 refine bD kr Tryz.func31 U U fun b Q hQ hN=>?_
 try dsimp only
 refine WS fun _ N=>fN U fun Z=>fN U fun a=>aY 1 U<|RK N<|WS fun _ O=>rP 1 [] mn ?_
 refine RK O<|ai fun _ P=>WS fun _ R=>cX xo (aw) U fun A Y=>?_
 try dsimp only
 refine aY 1 U<|RK R<|ay<|mA 3<|iA fun R10 L=>WS fun _ B=>rS (SX (cj (r:= .bool true) U U U ry) U U)<|RK B<|ai fun _ C=>aT U<|WK C<|ai fun _ D=>ay<|WS fun _ E=>rS (SX (oC (vs:=(dZ.cells (dZ.mk (Value.func (.func 82) [].toArray [].toArray)))) 0 U U U wB cz U dc U) U U)<|AL U wo fun AA=>gG U wA U<|RK E<|aj<|gS 6 [0,1,2] (mc 0 U (mc 3 U (mc 2 U mn))) U<|rS (CL (q_ ts tsA tsC s k hlen hside htr hs hk) (bg [4]) U)<|rS (MX U)<|aY 1 U<|aB<|aF<|KK D<|aj<|rS (SX (cj (r:= .int .i64 1) U U U (jI ⟨dc,dc⟩)) U U)<|rP 1 [] mn ?_
 refine RK L<|iA fun R16 M=>WS fun _ F=>rS (SX (cj (r:= .bool true) U U U ry) U U)<|RK F<|ai fun _ G=>aT U<|WK G<|ai fun _ H=>ay<|WS fun _ AB=>?_
 refine rS (SX (oC (vs:=(dZ.cells (dZ.mk (Value.func (.func 85) [].toArray [(vP A)].toArray)))) 1 U U U wB cz U dc U) U U)<|AL U wo fun V=>gG U wA U<|RK AB<|aj<|gS 6 [0,1,2] (mc 0 U (mc 4 U (mc 3 U mn))) U<|rS (CL (xX ts tsA tsC s k A hlen hside htr hs hk) (bg [5,2]) U)<|rS (MX U)<|aY 1 U<|aB<|aF<|KK H<|aj<|rS (SX (cj (r:= .int .i64 2) U U U (jI ⟨dc,dc⟩)) U U)<|aY 1 U<|RK M<|iA fun R22 T=>WS fun _ J=>rS (SX (cj (r:= .bool false) U U U ry) U U)<|RK J<|ai fun _ S=>bp U<|bk<|ab<|ab<|ax<|KK P<|WS fun _ K=>rP 2 [] mn ?_
 refine RK K<|an<|Q1 hQ U U U ?_
 exact cI (by unfold iR; omega)
end
section
open Go.RowKit
theorem uJ (d:ak) (kA:OA) (kC:Nat) (pA:OA) (pC:Nat) (nA:OA) (nC:Nat) (a k:Int) (hin:cJ d):
 dx Tryz.prog 9 [(vA (aZ.cells (aZ.mk (ar.mk (bB.mk kA d.ag.length kC)) (bB.mk pA d.ae.length pC) (bB.mk nA d.aq.length nC) d.a2 d.a4))),(vI a),(vI k)] [(rd kA d.ag.length 9 (d.ag.map aa.cells)),(rd pA d.ae.length 7 (d.ae.map aV.cells)),(rd nA d.aq.length 3 (d.aq.map bc.cells))] (vT [(vI (k7 d a k)),(vI (ik d a k))]):=by
 have S:=hin.k3
 have R:=hin.side
 have X:=hin.kb
 have V:=hin.kG
 have AA:=hin.nk
 have W:=hin.pk
 refine bD kr Tryz.func9 U U fun c Q hQ hN=>?_
 try dsimp only
 refine WS fun _ AB=>fN U fun b=>aY 2 U<|RK AB<|ai fun _ J=>WS fun _ K=>gS 1 [] (mc 0 U mn) U<|rS (CL (oM d kA kC pA pC nA nC hin) (rF 1 2 3 U U U U U U) U)<|aY 1 U<|RK K<|WS fun _ L=>rP 2 [] mn ?_
 refine RK L<|cG U (aX fun A=>?_) (aW fun A=>?_)
 ·refine WS fun _ M=>rP 3 [] mn ?_
  refine RK M<|an<|Q2 hQ U U U U ?_
  first|(have e:=gK (a:=a) (k:=k) A; rw [e.1,e.2.1]<;>rfl)|(have e:=gN (a:=a) (k:=k) A I; rw [e.1,e.2.1]<;>rfl)|(have e:=gz (k:=k) A I hp; rw [e.1,e.2.1]<;>rfl)
 refine WK J<|ai fun _ N=>WS fun _ E=>rP 1 [] mn ?_
 obtain ⟨Z,O⟩:=cO A
 refine rP 4 [] (mc 0 U mn) ?_
 refine df (xs:=[.tmp 18]) (cs:=[(vI a)]) U cL gY U U U U (by simp [Value.cells]) U U fun T=>?_
 refine rS (CL (dx.eq (ey 0 ((d.ae.length:Int)-1) ([a]) (some ⟨T,0,none⟩) 1 sd) cA) (av (aK 0 U U (by simp [ba]) U)<|aw) U) ?_
 refine rP 2 [] mn ?_
 refine ct (t:=22) U (aX fun G=>?_) (aW fun G=>?_)
 ·refine aY 10 U<|RK E<|aT U<|WS fun _ B=>rP 2 [] mn ?_
  refine RK B<|an<|Q2 hQ U U U U ?_
  first|(have e:=gK (a:=a) (k:=k) A; rw [e.1,e.2.1]<;>rfl)|(have e:=gN (a:=a) (k:=k) A I; rw [e.1,e.2.1]<;>rfl)|(have e:=gz (k:=k) A I hp; rw [e.1,e.2.1]<;>rfl)
 refine rP 6 [] (mc 1 U mn) ?_
 refine df (xs:=[.tmp 28]) (cs:=[(vI k)]) U cL gY U U U U (by simp [Value.cells]) U U fun F=>?_
 refine rS (CL (dx.eq (ey 0 ((d.ag.length:Int)-1) ([k]) (some ⟨F,0,none⟩) 1 sd) cA) (av (aK 0 U U (by simp [ba]) U)<|aw) U) ?_
 refine rP 2 [] mn ?_
 refine RK E<|cG U (aX fun H=>?_) (aW fun H=>?_)
 ·refine WS fun _ C=>rP 2 [] mn ?_
  refine RK C<|an<|Q2 hQ U U U U ?_
  first|(have e:=gK (a:=a) (k:=k) A; rw [e.1,e.2.1]<;>rfl)|(have e:=gN (a:=a) (k:=k) A I; rw [e.1,e.2.1]<;>rfl)|(have e:=gz (k:=k) A I hp; rw [e.1,e.2.1]<;>rfl)
 refine WK N<|ai fun _ D=>eA dw 12 kr<|gf 1 U<|dS (LP (ar.cells (ar.mk (bB.mk kA d.ag.length kC))) 2 U cz U U U)<|dP 3 [] (mc 2 U mn) ?_
 obtain ⟨p,hp⟩:=bh d.ae ((a).toNat) I
 have P:=bG aV.cells hp
 refine dS (IA ((a).toNat) U (aO 4 U) m1 dc I I)<|dS (pB ((((a).toNat)*7)+2) U (aO 4 U) (Nat.mul_pos I dc) fZ U)<|dS (mY ((a).toNat) 2 (aG.cells p.cp) U cz (aO 4 U) P U dc U U) ?_
 have Y:=(O.post _ p hp).2.2.1
 refine dP 1 [] mn ?_
 refine dS (CL (tU d.ag kA kC p.cp k sd sd sd sd sd) (bg [3]) U) ?_
 refine dP 2 [] mn ?_
 refine cR<|RK D<|an<|Q2 hQ U U U U ?_
 first|(have e:=gK (a:=a) (k:=k) A; rw [e.1,e.2.1]<;>rfl)|(have e:=gN (a:=a) (k:=k) A I; rw [e.1,e.2.1]<;>rfl)|(have e:=gz (k:=k) A I hp; rw [e.1,e.2.1]<;>rfl)
end
section
open Go.RowKit
theorem kz (d:ak) (kA:OA) (kC:Nat) (pA:OA) (pC:Nat) (nA:OA) (nC:Nat) (hin:cJ d):
 jH Tryz.prog 32 [(vA (aZ.cells (aZ.mk (ar.mk (bB.mk kA d.ag.length kC)) (bB.mk pA d.ae.length pC) (bB.mk nA d.aq.length nC) d.a2 d.a4)))] [(rd kA d.ag.length 9 (d.ag.map aa.cells)),(rd pA d.ae.length 7 (d.ae.map aV.cells)),(rd nA d.aq.length 3 (d.aq.map bc.cells))] (fun (x:Bool×Int×Nat×(OA)×Nat×(List RA))=>bif x.1 then (vT [(Value.pointer (some ⟨x.2.2.1,0,none⟩)),(vI 0)]) else (vT [(Value.pointer none),(vI x.2.1)])) (fun (x:Bool×Int×Nat×(OA)×Nat×(List RA))=>(x.1=true→(br d=0∧x.2.2.2.2.2.length=d.ae.length))∧(x.1=false→(x.2.1=br d∧ ¬ br d=0))) (fun (x:Bool×Int×Nat×(OA)×Nat×(List RA))=>bif x.1 then [(cv x.2.2.1 76 (cd.cells (cd.mk (aZ.mk (ar.mk (bB.mk kA d.ag.length kC)) (bB.mk pA d.ae.length pC) (bB.mk nA d.aq.length nC) d.a2 d.a4) (bB.mk x.2.2.2.1 ((bj d).length) x.2.2.2.2.1)))),(own x.2.2.2.1 x.2.2.2.2.1 43 1 (List.zipWith jF (bj d) x.2.2.2.2.2)),(ei (ga mQ (bj d) x.2.2.2.2.2))] else []):=by
 have A6:=hin.k3
 have A4:=hin.side
 have BH:=hin.kb
 have BE:=hin.kG
 have BD:=hin.nk
 have BG:=hin.pk
 refine dh kr Tryz.func32 U U fun w0 Q hQ hN=>?_
 try dsimp only
 refine WS fun _ t=>fN U fun b2=>aY 2 U<|RK t<|ai fun _ u=>WS fun _ v=>gS 1 [] (mc 0 U mn) U<|rS (CL (oM d kA kC pA pC nA nC hin) (rF 1 2 3 U U U U U U) U)<|aY 1 U<|RK v<|WS fun _ w=>rP 2 [] mn ?_
 refine RK w<|cG U (aX fun C=>?_) (aW fun C=>?_)
 ·refine WS fun _ y=>rP 3 [] mn ?_
  refine RK y<|an ?_
  refine LX hQ (false,(br d),0,none,0,[]) [] [] mn U (by first|rfl|(show List.all _ _=true; simp only [cond_true,iq,List.all_nil,kH,Bool.and_true]; rfl)) U U ?_
  refine ⟨AX,fun _=>?_⟩; first|exact ⟨U,C⟩
 refine WK u<|WS fun _ AC=>?_
 obtain ⟨j,A2⟩:=cO C
 refine gS 1 [] (mc 0 U mn) U<|rS (SX (bl (xs:=[(0,.tmp 16)]) (cs:=(cd.cells (cd.mk (aZ.mk (ar.mk (bB.mk kA d.ag.length kC)) (bB.mk pA d.ae.length pC) (bB.mk nA d.aq.length nC) d.a2 d.a4) (bB.mk none 0 0)))) U U (bm Ab U)) U U)<|fN U fun b8=>aY 1 U<|RK AC<|ai fun _ AQ=>WS fun _ M=>rP 4 [] (mc 1 U mn) ?_
 refine RK M<|ay<|ep 43 1<|tD ?_
 have A:(0≤d.ae.length)∧(([]:List RA).length=0):=by exact ⟨Nat.zero_le _,rfl⟩
 refine bu (ι:={z:Nat×(List RA)×(OA)×Nat // (z.1≤d.ae.length)∧(z.2.1.length=z.1)}) [1,2,3,5,20,21] [3,4,5,6] U U (fun z=>[(22,(vI (z.1.1:Int)))]) (fun z=>[(ei (ga mQ (en d z.1.1) z.1.2.1)),(own z.1.2.2.1 z.1.2.2.2 43 1 (List.map sC (List.zipWith m0 (en d z.1.1) z.1.2.1))),(cv b8 76 (cd.cells (cd.mk (aZ.mk (ar.mk (bB.mk kA d.ag.length kC)) (bB.mk pA d.ae.length pC) (bB.mk nA d.aq.length nC) d.a2 d.a4) (bB.mk z.1.2.2.1 ((List.zipWith m0 (en d z.1.1) z.1.2.1).length) z.1.2.2.2))))]) (fun _=>rfl) (fun _=>rfl) (fun z=>d.ae.length-z.1.1) ⟨(0,([]:List RA),none,0),A⟩ (a3 U) (aL [3,4,5,6,0,1,2]) ?_
 clear A
 rintro ⟨⟨i,tz,a,c⟩,⟨AB,B⟩⟩ J11 L
 try dsimp only at AB B
 try dsimp only
 refine WS fun _ N=>rP 1 [] mn ?_
 refine RK N<|ai fun _ O=>bq U (aR fun r=>?_) (aS fun r=>?_)
 ·refine bk<|ab<|ab<|ax<|KK AQ<|ai fun _ b=>?_
  have A1:en d i=bj d:=by unfold bj; rw [show i=d.ae.length by omega]
  have l:tz.length=d.ae.length:=by omega
  rw [A1,qf,show (List.zipWith m0 (bj d) tz).length=(bj d).length from by rw [List.length_zipWith,dD]; omega]
  refine aj<|rP 3 [] mn ?_
  refine RK b<|an ?_
  refine LX hQ (true,0,b8,a,c,tz) [6,5,4] [] mn U (by first|rfl|(show List.all _ _=true; simp only [cond_true,iq,List.all_nil,kH,Bool.and_true]; rfl)) U U ?_
  exact ⟨fun _=>⟨C,l⟩,Bg⟩
 refine WK O<|ai fun _ P=>ay<|WS fun _ R=>?_
 obtain ⟨p,hp⟩:=bh d.ae i I
 have A3:=bG aV.cells hp
 refine rS (IA i U (aO 2 U) m1 dc I I)<|rS (mY i 0 (aV.cells p) U cz (aO 2 U) A3 U dc U U)<|AL U uh fun A7=>gG U vh U<|RK R<|WS fun _ S=>aY 1 U<|RK S<|ai fun _ T=>WS fun _ AA=>rP 5 [] (mc 1 U mn) ?_
 refine RK AA<|ay<|ep 3 1 ?_
 have A:(0≤d.ag.length):=by exact Nat.zero_le _
 refine bu (ι:={z:Nat×(OA)×Nat // (z.1≤d.ag.length)}) [1,2,3,5,7,20,21,22,28,29] [1,2,3,4,5,6,7,8] U U (fun z=>[(8,(vS z.1.2.1 ((dA d p z.1.1).length) z.1.2.2)),(30,(vI (z.1.1:Int)))]) (fun z=>[(own z.1.2.1 z.1.2.2 3 1 ((dA d p z.1.1).map iC))]) (fun _=>rfl) (fun _=>rfl) (fun z=>d.ag.length-z.1.1) ⟨(0,none,0),A⟩ (a3 U) (aL [1,2,3,4,5,6,7,8,0]) ?_
 clear A
 rintro ⟨⟨k,la,lc⟩,D⟩ J21 F
 try dsimp only at D
 try dsimp only
 refine WS fun _ V=>rP 1 [] mn ?_
 refine RK V<|ai fun _ W=>bq U (aR fun s=>?_) (aS fun s=>?_)
 ·refine bk<|ab<|ab<|ax<|KK T<|aj ?_
  rw [show dA d p k=dA d p d.ag.length from by rw [show k=d.ag.length by omega]]
  refine aY 2 U<|rS (SX (cV U U) U U)<|rP 3 [] (mc 7 U mn) ?_
  refine df (xs:=[.tmp 61]) (cs:=[(vS la ((dA d p d.ag.length).length) lc)]) U w4 yG U U U U (by simp [Value.cells]) U U fun BC=>?_
  refine dG (es2:=(List.map sC (List.zipWith m0 (en d (i+1)) (tz++[(la,lc)])))) (m':=(List.zipWith m0 (en d (i+1)) (tz++[(la,lc)])).length) 7 U U U AP U U sm (aK (es:=List.map sC [(bB.mk la ((dA d p d.ag.length).length) lc)]) 0 U U (by simp [sO]) U) (w6 _) (by rw [List.length_zipWith,gC I]; omega) (by rw [List.length_zipWith,gC I]; simp only [maxLen]; omega) (by rw [rV hp B,List.map_append]; rfl) sm U fun J K=>?_
  try dsimp only
  refine rS (SX (cV U U) U U)<|aY 1 U<|Br (cd.cells (cd.mk (aZ.mk (ar.mk (bB.mk kA d.ag.length kC)) (bB.mk pA d.ae.length pC) (bB.mk nA d.aq.length nC) d.a2 d.a4) (bB.mk J ((List.zipWith m0 (en d (i+1)) (tz++[(la,lc)])).length) K))) U z4 U U<|aB<|aF<|KK P<|aj<|rP 2 [] mn ?_
  refine aB<|yp (X':=ga mQ (en d (i+1)) (tz++[(la,lc)])) 6 9 U U (rQ (a:=(la,lc)) hp B) ?_
  have g:(vI (((i+1):Nat):Int))=(vI ((i:Int)+1)):=by exact cI I
  refine aU (L ⟨((i+1),(tz++[(la,lc)]),J,K),⟨I,by simp; omega⟩⟩ _ _ _ U os (bL 6<|aN U g<|cE.nil _) (aL [3,4,5,6,0,7,8]))
 refine WK W<|ai fun _ G=>ay<|WS fun _ X=>rP 2 [] mn ?_
 refine RK X<|ai fun _ Y=>eA dw 10 kr ?_
 have E:=A2.post i p hp
 unfold cf at E
 have A0:=zt j E.2.2.1 (k:=(k:Int)) I
 have BF:=xR E.2.2.2.2 A0
 refine kX 3 [] (mc 0 U mn) U<|dS (LP (ar.cells (ar.mk (bB.mk kA d.ag.length kC))) 1 U cz U U U)<|gf 1 U<|dS (LP (aG.cells p.cp) 0 U cz U U U)<|dP 1 [] mn ?_
 refine dS (CL (tU d.ag kA kC p.cp (k:Int) sd sd (by exact j) (by exact E.2.2.1) sd) (bg [2]) U) ?_
 refine dS (BI U (ym ⟨I,I⟩))<|gf 1 U<|cR<|RK Y<|ai fun _ H=>WS fun _ Z=>aY 1 U<|rS (BI U (zo I I))<|rP 1 [] mn ?_
 refine RK Z<|bq U (aR fun h=>?_) (aS fun h=>?_)
 ·refine WK H<|aj<|gS 4 [] (mc 0 U mn) U<|rS (BI U (wI I I I))<|rP 1 [] mn ?_
  refine df (xs:=[.tmp 52]) (cs:=[(vI (p.gT+((p.jM*(iR d.ag p.cp (k:Int)))/1000)))]) U cL gY U U U U (by simp [Value.cells]) U U fun BB=>?_
  refine dG (es2:=(List.map iC (dA d p (k+1)))) (m':=(dA d p (k+1)).length) 9 U U U mo U U sm (aK (es:=List.map iC [(p.gT+((p.jM*(iR d.ag p.cp (k:Int)))/1000))]) 0 U U (by simp [ba]) U) (gX _) (by simp only [fI]; omega) (by simp only [maxLen,fI]; omega) (by rw [lI,List.map_append]; exact congrArg (fun z=>List.map iC (dA d p k)++List.map iC [z]) (by unfold eV; omega)) sm U fun n q=>?_
  try dsimp only
  refine aY 1 U<|aB<|aF<|KK G<|aj<|rP 2 [] mn ?_
  refine aB ?_
  have f:(vI (((k+1):Nat):Int))=(vI ((k:Int)+1)):=by exact cI I
  refine aU (F ⟨((k+1),n,q),(by first|omega|(simp only []; omega))⟩ _ _ _ U os (bL 11<|aN U f<|cE.nil _) (aL [1,2,3,4,5,6,7,8,9]))
 refine aj<|aY 3 U<|RK H<|aj<|gS 4 [] (mc 0 U mn) U<|rS (BI U (wI I I I))<|rP 1 [] mn ?_
 refine df (xs:=[.tmp 52]) (cs:=[(vI (p.gT+(((p.jM*(iR d.ag p.cp (k:Int)))+1000)/1000)))]) U cL gY U U U U (by simp [Value.cells]) U U fun A8=>?_
 refine dG (es2:=(List.map iC (dA d p (k+1)))) (m':=(dA d p (k+1)).length) 9 U U U mo U U sm (aK (es:=List.map iC [(p.gT+(((p.jM*(iR d.ag p.cp (k:Int)))+1000)/1000))]) 0 U U (by simp [ba]) U) (gX _) (by simp only [fI]; omega) (by simp only [maxLen,fI]; omega) (by rw [lI,List.map_append]; exact congrArg (fun z=>List.map iC (dA d p k)++List.map iC [z]) (by unfold eV; omega)) sm U fun m o=>?_
 try dsimp only
 refine aY 1 U<|aB<|aF<|KK G<|aj<|rP 2 [] mn ?_
 refine aB ?_
 have e:(vI (((k+1):Nat):Int))=(vI ((k:Int)+1)):=by exact cI I
 refine aU (F ⟨((k+1),m,o),(by first|omega|(simp only []; omega))⟩ _ _ _ U os (bL 11<|aN U e<|cE.nil _) (aL [1,2,3,4,5,6,7,8,9]))
end
section
open Go.RowKit
theorem rk (d:ak) (kA:OA) (kC:Nat) (pA:OA) (pC:Nat) (nA:OA) (nC:Nat) (tA:OA) (tN tC gw:Nat) (l:List Int) (lA:OA) (lC:Nat) (hn:d.ae.length≤8) (hl: ∀ x∈l,0≤x∧x<(d.ae.length:Int)) (hlen:l.length≤1000000):
 dx Tryz.prog 38 [(vP gw),(vS lA l.length lC)] [(rd kA d.ag.length 9 (d.ag.map aa.cells)),(rd pA d.ae.length 7 (d.ae.map aV.cells)),(rd nA d.aq.length 3 (d.aq.map bc.cells)),(cv gw 76 (cd.cells (cd.mk (aZ.mk (ar.mk (bB.mk kA d.ag.length kC)) (bB.mk pA d.ae.length pC) (bB.mk nA d.aq.length nC) d.a2 d.a4) (bB.mk tA tN tC)))),(rd lA l.length 1 (l.map iC))] (vI (de d.ae.length l:Int)):=by
 have S:=iu hn
 refine bD kr Tryz.func38 U U fun V Q hQ hN=>?_
 try dsimp only
 refine WS fun _ H=>aY 1 U<|RK H<|WS fun _ AB=>aY 1 U<|rS (SX (cV U U) U U)<|rP 4 [] (mr 3 U mn) ?_
 refine rS (BI U (oc (i:=d.ae.length) I I)) ?_
 refine aY 2 U<|RK AB<|ai fun _ J=>WS fun _ K=>rP 3 [] mn ?_
 refine RK K<|ay ?_
 have A:(0≤l.length):=by exact Nat.zero_le _
 have N:(vI (de d.ae.length (l.take 0):Int))=(vI (((2^d.ae.length:Nat):Int)-1)):=by exact cI (by show _=((2^d.ae.length:Nat):Int)-1; unfold de; simp only [List.take_zero,List.foldl_nil]; omega)
 refine bu (ι:={z:Nat // (z≤l.length)}) [16,17] [0,1,2,4] U U (fun z=>[(5,(vI (de d.ae.length (l.take z.1):Int))),(18,(vI (z.1:Int)))]) (fun z=>[]) (fun _=>rfl) (fun _=>rfl) (fun z=>l.length-z.1) ⟨0,A⟩ (aN U N<|a3 U) (aL [0,1,2,4]) ?_
 clear A
 rintro ⟨i,O⟩ J6 G
 try dsimp only
 refine WS fun _ L=>rP 1 [] mn ?_
 refine RK L<|ai fun _ M=>bq U (aR fun R=>?_) (aS fun R=>?_)
 ·refine bk<|ab<|ab<|ax<|KK J<|WS fun _ D=>rP 2 [] mn ?_
  refine RK D<|an<|Q1 hQ U U U ?_
  rw [List.take_of_length_le I]
 refine WK M<|ai fun _ B=>ay<|WS fun _ C=>?_
 obtain ⟨x,hx⟩:=bh l i I
 have P:=bG iC hx
 refine rS (IA i U (aO 3 U) cL dc I I)<|rS (g5 i 0 (vI x) U cz (aO 3 U) P U dc U)<|rP 1 [] mn ?_
 refine RK C<|aj ?_
 have AA:=hl x (aI hx)
 have T:=hE (l:=l.take i) hn
 refine rP 2 [] mn ?_
 refine rS (BI U (oc (i:=(x).toNat) I I)) ?_
 refine rS (BI U (oG (s:=(de d.ae.length (l.take i))) (i:=((x).toNat)) I U I I))<|aY 1 U<|aB<|aF<|KK B<|aj<|rP 2 [] mn ?_
 refine aB ?_
 have E:(vI ((de d.ae.length (l.take (i+1)):Nat):Int))=(vI ((hU (de d.ae.length (l.take i)) ((x).toNat):Nat):Int)):=by rw [sY hx]
 have F:(vI (((i+1):Nat):Int))=(vI ((i:Int)+1)):=by exact cI I
 refine aU (G ⟨(i+1),(by first|omega|(simp only []; omega))⟩ _ _ _ U os (cE.cons U<|cE.cons U<|aN U E<|aN U F<|cE.nil _) (aL [0,1,2,3]))
theorem mL (d:ak) (kA:OA) (kC:Nat) (pA:OA) (pC:Nat) (nA:OA) (nC:Nat) (l:List Int) (lA:OA) (lC:Nat) (hin:cJ d) (hll:l.length≤1000000):
 jH Tryz.prog 33 [(vA (aZ.cells (aZ.mk (ar.mk (bB.mk kA d.ag.length kC)) (bB.mk pA d.ae.length pC) (bB.mk nA d.aq.length nC) d.a2 d.a4))),(vS lA l.length lC)] [(rd kA d.ag.length 9 (d.ag.map aa.cells)),(rd pA d.ae.length 7 (d.ae.map aV.cells)),(rd nA d.aq.length 3 (d.aq.map bc.cells)),(rd lA l.length 1 (l.map iC))] (fun (x:Bool×Int×Nat×(OA)×Nat×(List RA))=>bif x.1 then (vT [(Value.pointer (some ⟨x.2.2.1,0,none⟩)),(vI (de d.ae.length l:Int)),(vI 0)]) else (vT [(Value.pointer none),(vI 0),(vI x.2.1)])) (fun (x:Bool×Int×Nat×(OA)×Nat×(List RA))=>(x.1=true→(bM d l=0∧x.2.2.2.2.2.length=d.ae.length))∧(x.1=false→(x.2.1=bM d l∧ ¬ bM d l=0))) (fun (x:Bool×Int×Nat×(OA)×Nat×(List RA))=>bif x.1 then [(cv x.2.2.1 76 (cd.cells (cd.mk (aZ.mk (ar.mk (bB.mk kA d.ag.length kC)) (bB.mk pA d.ae.length pC) (bB.mk nA d.aq.length nC) d.a2 d.a4) (bB.mk x.2.2.2.1 ((bj d).length) x.2.2.2.2.1)))),(own x.2.2.2.1 x.2.2.2.2.1 43 1 (List.zipWith jF (bj d) x.2.2.2.2.2)),(ei (ga mQ (bj d) x.2.2.2.2.2))] else []):=by
 have w:=hin.k3
 have p:=hin.side
 have A2:=hin.kb
 have AQ:=hin.kG
 have AC:=hin.nk
 have A1:=hin.pk
 refine dh kr Tryz.func33 U U fun w0 Q hQ hN=>?_
 try dsimp only
 refine WS fun _ m=>fN U fun b2=>aY 3 U<|RK m<|WS fun _ AA=>rP 1 [] (mc 0 U mn) ?_
 refine cX (kz d kA kC pA pC nA nC hin) (rF 1 2 3 U U U U U U) U fun y4 c=>?_
 obtain ⟨e,y,E,f,g,h⟩:=y4
 cases e
 ·obtain ⟨a,he⟩:=c.2 rfl
  try dsimp only at a he
  subst a
  try dsimp only [cond_true,cond_false,List.cons_append,List.nil_append]
  refine aY 5 U<|RK AA<|ai fun _ v=>WS fun _ G=>rP 2 [] mn ?_
  refine RK G<|bq U (aW fun C=>?_) (aX fun C=>?_)
  ·exact absurd C he
  refine WS fun _ H=>rP 4 [] mn ?_
  refine RK H<|an ?_
  refine LX hQ (false,(br d),0,none,0,[]) [] [] mn U (by first|rfl|(show List.all _ _=true; simp only [cond_true,iq,List.all_nil,kH,Bool.and_true]; rfl)) U U ?_
  refine ⟨AX,fun _=>?_⟩; first|exact Bc (mP (l:=l) he) he|exact Be (l8 (l:=l) he (fun q=>by have u:=q i x hx; unfold gM at u; omega))
 obtain ⟨he,s⟩:=c.1 rfl
 try dsimp only [cond_true,cond_false,List.cons_append,List.nil_append]
 refine aY 5 U<|RK AA<|ai fun _ AB=>WS fun _ J=>aY 1 U<|rS (SX (cj (r:= .bool false) U U U eY) U U)<|RK J<|bp U<|WK AB<|WS fun _ K=>aY 1 U<|RK K<|ai fun _ L=>WS fun _ M=>rP 3 [] mn ?_
 refine RK M<|ay ?_
 have B:(0≤l.length)∧(iH d.ae.length l 0):=by exact ⟨Nat.zero_le _,qw⟩
 have X:(vI (iN l 0))=(vI (-1)):=by rw [ma]
 refine bu (ι:={z:Nat // (z≤l.length)∧(iH d.ae.length l z)}) [1,2,7,20,21] [0,1,2,3,4,5,6,7] U U (fun z=>[(9,(vI (iN l z.1))),(22,(vI (z.1:Int)))]) (fun z=>[]) (fun _=>rfl) (fun _=>rfl) (fun z=>l.length-z.1) ⟨0,B⟩ (aN U X<|a3 U) (aL [0,1,2,3,4,5,6,7]) ?_
 clear B
 rintro ⟨i,⟨D,A⟩⟩ J21 F
 try dsimp only
 refine WS fun _ N=>rP 1 [] mn ?_
 refine RK N<|ai fun _ O=>bq U (aR fun k=>?_) (aS fun k=>?_)
 ·refine bk<|ab<|ab<|ax<|KK L<|WS fun _ W=>?_
  obtain ⟨A4,o⟩:=cO he
  have A3:=o.len
  have n:=jv (ng A I)
  refine aY 3 U<|rS (CL (rk d kA kC pA pC nA nC f ((bj d).length) g E l lA lC I (by exact n) I) (bg [4,5,6,0,7]) U)<|rP 3 [] mn ?_
  refine RK W<|an ?_
  refine LX hQ (true,0,E,f,g,h) [0,1,2] [] mn U (by first|rfl|(show List.all _ _=true; simp only [cond_true,iq,List.all_nil,kH,Bool.and_true]; rfl)) U U ?_
  exact ⟨fun _=>⟨kN he (ng A I),s⟩,Bg⟩
 refine WK O<|ai fun _ P=>ay<|WS fun _ R=>?_
 obtain ⟨x,hx⟩:=bh l i I
 have t:=bG iC hx
 refine rS (IA i U (aO 7 U) cL dc I I)<|rS (g5 i 0 (vI x) U cz (aO 7 U) t U dc U)<|rP 1 [] mn ?_
 refine RK R<|ai fun _ S=>WS fun _ T=>?_
 have A0:=vC D A
 refine rP 7 [] (mc 3 U mn) ?_
 refine df (xs:=[.tmp 32]) (cs:=[(vI x)]) U cL gY U U U U (by simp [Value.cells]) U U fun j=>?_
 refine rS (CL (dx.eq (ey ((iN l i)+1) ((d.ae.length:Int)-1) ([x]) (some ⟨j,0,none⟩) 1 sd) cA) (av (aK 0 U U (by simp [ba]) U)<|aw) U) ?_
 refine rP 1 [] mn ?_
 refine RK T<|cG U (aX fun b=>?_) (aW fun b=>?_)
 ·refine WS fun _ V=>rP 3 [] mn ?_
  refine RK V<|an ?_
  refine LX hQ (false,2,0,none,0,[]) [] [] mn U (by first|rfl|(show List.all _ _=true; simp only [cond_true,iq,List.all_nil,kH,Bool.and_true]; rfl)) U U ?_
  refine ⟨AX,fun _=>?_⟩; first|exact Bc (mP (l:=l) he) he|exact Be (l8 (l:=l) he (fun q=>by have u:=q i x hx; unfold gM at u; omega))
 refine WK S<|aj<|aY 2 U<|aB<|aF<|KK P<|aj<|rP 2 [] mn ?_
 refine aB ?_
 have Y:(vI (iN l (i+1)))=(vI x):=by rw [qt hx]
 have Z:(vI (((i+1):Nat):Int))=(vI ((i:Int)+1)):=by exact cI I
 refine aU (F ⟨(i+1),⟨I,qu A hx (by unfold gM; omega)⟩⟩ _ _ _ U os (bL 5<|aN U Y<|aN U Z<|cE.nil _) (aL [1,2,3,4,5,6,7,8]))
end
section
open Go.RowKit
def AM {σ:Type} (w0:World) (P:Program) (l:Nat) (step:σ→List Value→σ→Prop) (J:σ→ah→Prop) (Z:ah→Prop):Prop:=
 ∀ k x k' A w,step k x k'→J k A→w0.heap.size≤w.heap.size→A.holds w→YieldAt (Fw none) 0 P l x.toArray w fun e w'=>
  (e= .returned (.bool true)∧ ∃ B,J k' B∧Mv A B w w')∨(e= .returned (.bool false)∧ ∃ B,Z B∧Mv A B w w')
def tf {σ:Type} (J:σ→ah→Prop) (Z:ah→Prop) (fin:σ→Prop) (A0:ah) (w0:World) (e:Ending) (w':World):Prop:=
 ∃ v,e= .returned v∧((∃ s B,fin s∧J s B∧Mv A0 B w0 w')∨ ∃ B,Z B∧Mv A0 B w0 w')
structure xe {σ:Type} (P:Program) (f:FuncId) (fi ca:List Value) (Cp:List ah) (s0:σ) (step:σ→List Value→σ→Prop) (fin:σ→Prop):Prop where
 go:jA P f=true
 run: ∀ (l:Nat) (J:σ→ah→Prop) (Z:ah→Prop) (A0:ah) (w:World),AM w P l step J Z→J s0 A0→A0.holds w→(∀ A∈Cp,A.holds w)→(∀ A∈Cp,rO A0 A.ro)→
  Calls P f (fi++Value.func (.yield l) #[] #[]::ca).toArray w (tf J Z fin A0 w)
theorem zU {σ:Type} {J:σ→ah→Prop} {Z:ah→Prop} {n:σ} {fin:σ→Prop} {A0 B:ah} {w0 w:World} {C:List ah} {v:Value} (i:Nat) (hC:C[i]? =some B) (hfin:fin n) (hJ:J n B) (hF:Fo A0 w0 B) (hs:St ⟨A0.wf,fun _=>True⟩ w0 C w):tf J Z fin A0 w0 (.returned v) w:=
 ⟨v,rfl,.inl ⟨n,B,hfin,hJ,hs.holds B (aI hC),hs.keeps,fun b hb=>(hs.own B (aI hC) b hb).symm,hF⟩⟩
theorem tP {σ:Type} {J:σ→ah→Prop} {Z:ah→Prop} {fin:σ→Prop} {A0 B:ah} {w0 w:World} {C:List ah} {v:Value} (i:Nat) (hC:C[i]? =some B) (hJ:Z B) (hF:Fo A0 w0 B) (hs:St ⟨A0.wf,fun _=>True⟩ w0 C w):tf J Z fin A0 w0 (.returned v) w:=
 ⟨v,rfl,.inr ⟨B,hJ,hs.holds B (aI hC),hs.keeps,fun b hb=>(hs.own B (aI hC) b hb).symm,hF⟩⟩
theorem vZ {σ:Type} {P:Program} {f:FuncId} {fn:Func} {c:Code} {fi ca:List Value} {Cp:List ah} {s0:σ} {step:σ→List Value→σ→Prop} {fin:σ→Prop} (hgo:jA P f=true) (hf:P.funcs[f]? =some fn) (hb:fn.body=some c) (hn:Nat.ble (fi.length+ca.length+1) fn.ntmps=true)
 (h: ∀ (l:Nat) (J:σ→ah→Prop) (Z:ah→Prop) (A0:ah) (w0:World) (Q:bJ),AM w0 P l step J Z→J s0 A0→Fo A0 w0 A0→
  (∀ D L C,LJ ⟨P,none,fn.ntmps,⟨A0.wf,fun _=>True⟩,w0⟩ fn (tf J Z fin A0 w0) D L C→KJ ⟨P,none,fn.ntmps,⟨A0.wf,fun _=>True⟩,w0⟩ (Q .ret) D L C)→
  (∀ D L C,LJ ⟨P,none,fn.ntmps,⟨A0.wf,fun _=>True⟩,w0⟩ fn (tf J Z fin A0 w0) D L C→KJ ⟨P,none,fn.ntmps,⟨A0.wf,fun _=>True⟩,w0⟩ (Q .normal) D L C)→
  WJ ⟨P,none,fn.ntmps,⟨A0.wf,fun _=>True⟩,w0⟩ c Q [] (xz (fi++Value.func (.yield l) #[] #[]::ca)) (A0::Cp.map ah.ro)):xe P f fi ca Cp s0 step fin:=by
 refine ⟨hgo,fun l J Z A0 w hY hJ hA F E=>?_⟩
 refine pL hf hb (by simpa [Nat.add_assoc] using hn) (h l J Z A0 w · hY hJ (fun b hb=> .inl hb)) ?_
 have G:=j_ F
 refine ⟨bX.refl _ _,fun A hA'=>?_,List.Pairwise.cons (fun B hB=>?_) G.sep,fun A hA' b hb=>?_,fun _ _ _ _=> .inr trivial⟩
 ·rcases bE.1 hA' with rfl|hA'
  ·exact hA
  ·exact G.holds A hA'
 ·obtain ⟨B',hB',rfl⟩:=bP.1 hB
  exact E B' hB'
 ·rcases bE.1 hA' with rfl|hA'
  ·exact .inr hb
  ·obtain ⟨B',hB',rfl⟩:=bP.1 hA'
   exact hb.elim
section
variable {E:c_} {ops:Array Oper} {Q:bJ} {rest:List Oper} {D:List Deferred} {L:List (Nat×Value)} {C:List ah}
variable {d:Nat} {ty:TypeId} {ps:String} {af:Array Edge} {g:Option (Nat×Bool)}
/-- a call of yield -/
theorem mB {σ:Type} {fop:Operand} {xs:Array Operand} {ts:Array TypeId} {l:Nat} {k k':σ} {vs:List Value} {step:σ→List Value→σ→Prop} {J:σ→ah→Prop} {Z:ah→Prop} {A0 A:ah} {w1:World} (i:Nat) (hw1:w1.heap.size≤E.w0.heap.size) (hY:AM w1 E.P l step J Z) (hJ:J k A) (hF:Fo A0 w1 A) (hg:e6 ops L g=true) (hf:ev L fop=some (.func (.yield l) #[] #[]))
 (hx:evs L xs.toList=some vs) (hk:step k vs k') (hC:C[i]? =some A) (hd:Nat.blt d E.n=true)
 (k1: ∀ B,J k' B→Fo A0 w1 B→RJ E ops Q rest D ((d,.bool true)::L) (C.set i B))
 (k2: ∀ B,Z B→Fo A0 w1 B→RJ E ops Q rest D ((d,.bool false)::L) (C.set i B)):
 RJ E ops Q (⟨some d,.call {callee:= .value fop,args:=xs,argTypes:=ts},ty,ps,af,g⟩::rest) D L C:=by
 intro a w F hs
 have hd':d<E.n:=by rw [← Nat.blt_eq]; exact hd
 unfold kK
 rw [if_pos (cx F hg)]
 have K:xs.map a.eval=vs.toArray:=by
  have:=F.evs hx
  apply Array.ext'
  simp [this]
 obtain ⟨fn,tmps,assign,body,hy,hr⟩:=hY k vs k' A w hk hJ (Nat.le_trans hw1 hs.keeps.size) (hs.holds A (aI hC))
 have H:(execOp a.eval ⟨some d,.call {callee:= .value fop,args:=xs,argTypes:=ts},ty,ps,af,g⟩).run E.P w= .ok (.round l fn tmps assign body) w:=by
  simp [execOp,resolve,F.ev hf,Deferred.ofValue,invoke,K,hy]
 refine ⟨fun _ _=>trivial,?_⟩
 rw [Oper.semAt_eq _ _ _ sm,H]
 refine ⟨fun h=>by simp at h,?_⟩
 have G: ∀ (B:ah) (w':World),Mv A B w w'→Fo A0 w1 B:=fun B w' m b hb=>by
  rcases m.cH b hb with AA|AA
  ·exact hF b AA
  ·exact .inr (Nat.le_trans hw1 (Nat.le_trans hs.keeps.size AA))
 have hr':RoundIn (Fw E.r) 0 E.P l fn tmps assign body w _:=hr
 refine hr'.mono fun e w' he=>?_
 rcases he with ⟨rfl,B,hB,m⟩|⟨rfl,B,hB,m⟩
 ·exact k1 B hB (G B w' m) _ _ (F.put hd' _) (hs.mv i hC m)
 ·exact k2 B hB (G B w' m) _ _ (F.put hd' _) (hs.mv i hC m)
end
theorem uK {σ:Type} {E:c_} {Q:bJ} {D:dH} {L L0:bT} {C F:List ah} {g:Operand} {ps:Array Tmp} {assign body:Code} {f:FuncId} {fi ca:List Value} {Cp:List ah} {s0:σ} {step:σ→List Value→σ→Prop} {fin_:σ→Prop} {ι κ:Type}
 (inv:σ→ι→Prop) (Ci:σ→ι→List ah) (invx:Code→κ→Prop) (Cx:Code→κ→List ah) (isJ isF:List Nat) (y0:ι)
 (hr:E.r=none) (hg:ev L g=some (.func (.func f) fi.toArray ca.toArray)) (hs:xe E.P f fi ca Cp s0 step fin_)
 (hnd:decide (isJ++isF).Nodup=true) (hJ:kl C isJ=Ci s0 y0) (hF:kl C isF=F) (h0:inv s0 y0) (hCp: ∀ A∈Cp,∃ B∈F,xp B A)
 (hps: ∀ k x k',step k x k'→x.length=ps.size) (hpn:ps.toList.all (fun t=>Nat.blt t E.n)=true) (hL:cE L L0)
 (round: ∀ (k:σ) (x:List Value) (k':σ) (y:ι) (l:Nat) (ra rb:Loop) (S:BS) (w0:World) (K:Act→World→Prop) (Qr:bJ),E.w0.heap.size≤w0.heap.size→step k x k'→inv k y→
  (∀ L' C',WJ ⟨E.P,some l,E.n,S,w0⟩ body Qr [] L' (fC l (.loop rb)::C')→KJ ⟨E.P,some l,E.n,S,w0⟩ K [] L' (fC l (.loop ra)::C'))→
  (∀ y' L' C',inv k' y'→(∀ w,St S w0 C' w→St S w0 (fC l (.loop rb)::Ci k' y') w)→KJ ⟨E.P,some l,E.n,S,w0⟩ (Qr .normal) [] L' C')→
  (∀ id z L' C',invx (.exit id) z→(∀ w,St S w0 C' w→St S w0 (fC l (.loop rb)::Cx (.exit id) z) w)→KJ ⟨E.P,some l,E.n,S,w0⟩ (Qr (.exit id)) [] L' C')→
  (∀ z L' C',invx .ret z→(∀ w,St S w0 C' w→St S w0 (fC l (.loop rb)::Cx .ret z) w)→KJ ⟨E.P,some l,E.n,S,w0⟩ (Qr .ret) [] L' C')→
  WJ ⟨E.P,some l,E.n,S,w0⟩ assign (Exit.then K (fun _ _ _=>False)) [] (oL ps.toList x L0) (fC l (.loop ra)::Ci k y))
 (fin: ∀ r s y,fin_ s→inv s y→KJ E (Q .normal) (gd r::D) L0 (fC r (.deferred (some []))::(F++Ci s y)))
 (finx: ∀ r id z,invx (.exit id) z→KJ E (Q (.exit id)) (gd r::D) L0 (fC r (.deferred (some []))::(F++Cx (.exit id) z)))
 (finr: ∀ r z,invx .ret z→KJ E (Q .ret) (gd r::D) L0 (fC r (.deferred (some []))::(F++Cx .ret z))):WJ E (.rangeFunc g ps assign body) Q D L C:=by
 intro a w hf q
 refine wpIn_rangeFunc fun fn _=>?_
 show ∃ l gd w₁ d w₁' f args w₂,(Instr.enterLoop fn a.tmps ps assign body E.r).run E.P w= .ok (l,gd) w₁∧_
 rw [hr]
 obtain ⟨rec,G⟩: ∃ rec:LoopState→Option Code→Loop,rec=fun st pe=>{state:=st,pending:=pe,fn,tmps:=a.tmps,params:=ps,assign,body,defers:=w.heap.size}:=⟨_,rfl⟩
 obtain ⟨W1,R⟩: ∃ W1,(w.alloc (.deferred (some []))).alloc (.loop (rec .ready none))=W1:=⟨_,rfl⟩
 have A2:a.eval g= .func (.func f) fi.toArray ca.toArray:=hf.ev hg
 have p:(Instr.enterLoop fn a.tmps ps assign body none).run E.P w= .ok (w.heap.size+1,[gd w.heap.size]) W1:=by
  rw [← R,G]; exact run_enterLoop_outer _ _ _ _ _
 -- the state with the record and the block
 have u:St E.S E.w0 ((fC (w.heap.size+1) (.loop (rec .ready none))::Ci s0 y0)++(fC w.heap.size (.deferred (some []))::F)) W1:=by
  have X:St E.S E.w0 (Ci s0 y0++F) w:=St.kl (isJ++isF) hnd (by have X:=hJ; have j:=hF; unfold Go.Proofs.YtpfjokbjambohaaGreat.kl at X j ⊢; rw [List.filterMap_append,X,j]) q
  have hn:v3 w W1 [fC (w.heap.size+1) (.loop (rec .ready none)),fC w.heap.size (.deferred (some []))]:=by
   refine ⟨fun A hA=>?_,fun A hA b hb=>?_,?_⟩
   ·rcases bE.1 hA with rfl|hA
    ·show W1.heap[w.heap.size+1]? =_
     rw [← R]; have:=World.alloc_heap_new (w.alloc (.deferred (some []))) (.loop (rec .ready none)); rwa [World.size_alloc] at this
    ·simp only [cu] at hA; subst hA
     show W1.heap[w.heap.size]? =_
     rw [← R]; exact (Below.heap_alloc _ _ _ sm).trans (World.alloc_heap_new w _)
   ·rcases bE.1 hA with rfl|hA
    ·have:b=w.heap.size+1:=hb
     omega
    ·simp only [cu] at hA; subst hA
     have:b=w.heap.size:=hb
     omega
   ·refine List.Pairwise.cons (fun B hB b X j=>?_) (List.pairwise_singleton _ _)
    simp only [cu] at hB; subst hB
    have V:b=w.heap.size+1:=X
    have O:b=w.heap.size:=j
    omega
  have hk:bX no w W1:=by rw [← R]; exact (bX.alloc no w _).trans (bX.alloc no _ _)
  have j:=X.grow hk hn
  refine j.perm ?_
  simp only [List.cons_append,List.nil_append]
  exact List.Perm.cons _ (List.perm_middle.symm)
 have Y:=u.sB
 obtain ⟨H,A7⟩:=List.pairwise_cons.1 Y.sep
 have A0:=Y.holds _ (ez ..)
 let J:σ→ah→Prop:=fun k A=> ∃ y,inv k y∧A=ei (fC (w.heap.size+1) (.loop (rec .ready none))::Ci k y)
 let Z:ah→Prop:=fun A=> ∃ c z,(c= .ret∨ ∃ id,c= .exit id)∧invx c z∧A=ei (fC (w.heap.size+1) (.loop (rec .done (some c)))::Cx c z)
 refine ⟨w.heap.size+1,[gd w.heap.size],W1,{target:= .fn (.func f) ca.toArray,args:=fi.toArray++ #[.func (.yield (w.heap.size+1)) #[] #[]]},W1,f,
  (fi++Value.func (.yield (w.heap.size+1)) #[] #[]::ca).toArray,W1,p,?_,fun _ _=>trivial,?_,fun h=>by simp at h,?_⟩
 ·simp only [resolve,A2]
  simp [Deferred.ofValue,Act.eval]
 ·have:fi.toArray++ #[Value.func (.yield (w.heap.size+1)) #[] #[]]++ca.toArray=(fi++Value.func (.yield (w.heap.size+1)) #[] #[]::ca).toArray:=by simp
  simp [invoke,iv hs.go]
 ·refine (iS E.r (hs.run (w.heap.size+1) J Z _ W1 ?_ ⟨y0,h0,U⟩ A0 ?_ ?_)).mono ?_
  ·-- a round
   rintro k x k' A W hx ⟨y,hy,rfl⟩ A1 hA
   have hl:W.heap[w.heap.size+1]? =some (.loop (rec .ready none)):=hA.1 _ (ez ..)
   have AC:=run_yield (P:=E.P) (args:=x.toArray) hl (by rw [G]; simpa using hps k x k' hx)
   rw [G] at AC
   refine ⟨fn,_,assign,body,AC,roundIn_of_wpIn trivial ?_⟩
   let A:ah:=ei (fC (w.heap.size+1) (.loop (rec .ready none))::Ci k y)
   have A3:Fr E.n [] (oL ps.toList x L0) {tmps:=(ps.zip x.toArray).foldl (fun tmps (t,a)=>tmps.setIfInBounds t a) a.tmps,defers:=[]}:=by
    have X:=tp ps.toList x L0 a.tmps (fun t ht=>by have:=bY.1 hpn t ht; rwa [Nat.blt_eq] at this) ⟨rfl,hf.size,fun t v hv=>hf.at_ t v (hL t v hv)⟩
    rw [← Array.foldl_toList]
    simpa using X
   have o: ∀ (c:Option Code) (b:Bool),({rec .busy none with state:=if b then .ready else .done,pending:=c}:Loop)=rec (if b then .ready else .done) c:=fun c b=>by rw [G]
   have T: ∀ (c:Option Code) (N:World) (C':List ah) (S:BS),St S W (fC (w.heap.size+1) (.loop (rec .busy none))::C') N→
    ∃ M,(Instr.endRound (w.heap.size+1) c).run E.P N= .ok (.bool c.isNone) M∧St S W (fC (w.heap.size+1) (.loop (rec (if c.isNone then .ready else .done) c))::C') M:=fun c N C' S H=>by
    have AB:N.heap[w.heap.size+1]? =some (.loop (rec .busy none)):=H.holds _ (ez ..)
    refine ⟨_,run_endRound c AB,?_⟩
    have:=H.qm (b:=w.heap.size+1) (A':=fC (w.heap.size+1) (.loop (rec (if c.isNone then .ready else .done) c))) 0 rfl rfl rfl (ek _) (fun _ h=>h) (World.putObj_heap_same (cU AB))
    rw [o]
    exact this
   refine round k x k' y (w.heap.size+1) (rec .ready none) (rec .busy none) ⟨A.wf,A.cH⟩ W _ (roundPost E.P (w.heap.size+1) (fun e w'=>(e= .returned (.bool true)∧ ∃ B,J k' B∧Mv A B W w')∨(e= .returned (.bool false)∧ ∃ B,Z B∧Mv A B W w'))) (Nat.le_trans (Nat.le_trans q.keeps.size (by rw [← R]; simp; omega)) A1) hx hy ?_ ?_ ?_ ?_ _ _ A3 (St.rD hA)
   ·intro L' C' hW a1 N i H
    have AB:N.heap[w.heap.size+1]? =some (.loop (rec .ready none)):=H.holds _ (ez ..)
    refine ⟨_,run_beginRound AB (by rw [G]),hW _ _ i ?_⟩
    have:=H.qm (b:=w.heap.size+1) (A':=fC (w.heap.size+1) (.loop (rec .busy none))) 0 rfl rfl rfl (ek _) (fun _ h=>h) (World.putObj_heap_same (cU AB))
    have e:({rec .ready none with state:= .busy}:Loop)=rec .busy none:=by rw [G]
    rw [e]; exact this
   ·intro y' L' C' hy' hC' a1 N i H
    obtain ⟨M,V,O⟩:=T none N _ _ (hC' _ H)
    exact ⟨_,M,V,.inl ⟨U,_,⟨y',hy',U⟩,Mv.of O⟩⟩
   ·intro id z L' C' hz hC' a1 N i H
    obtain ⟨M,V,O⟩:=T (some (.exit id)) N _ _ (hC' _ H)
    exact ⟨_,M,V,.inr ⟨U,_,⟨_,z,.inr ⟨id,U⟩,hz,U⟩,Mv.of O⟩⟩
   ·intro z L' C' hz hC' a1 N i H
    obtain ⟨M,V,O⟩:=T (some .ret) N _ _ (hC' _ H)
    exact ⟨_,M,V,.inr ⟨U,_,⟨_,z,.inl U,hz,U⟩,Mv.of O⟩⟩
  ·intro A hA
   obtain ⟨B,hB,hc⟩:=hCp A hA
   exact hc.holds _ (Y.holds B (eh _ (eh _ hB)))
  ·intro A hA b hb hb'
   obtain ⟨B,hB,hc⟩:=hCp A hA
   exact ⟨(H B (eh _ hB) b hb (hc.cH b hb')).1,fun h=>h⟩
  ·rintro e w' ⟨v,rfl,hh⟩
   have AA:Fr E.n (gd w.heap.size::D) L0 {a with defers:=[gd w.heap.size]++a.defers}:=⟨by simp [hf.defers],hf.size,fun t v hv=>hf.at_ t v (hL t v hv)⟩
   have hleave: ∀ (st:LoopState) (c:Option Code) (C':List ah),st≠ .busy→Mv (ei (fC (w.heap.size+1) (.loop (rec .ready none))::Ci s0 y0)) (ei (fC (w.heap.size+1) (.loop (rec st c))::C')) W1 w'→
    ∃ M,(Instr.endLoop (w.heap.size+1)).run E.P w'= .ok c M∧St E.S E.w0 (fC w.heap.size (.deferred (some []))::(F++C')) M:=fun st c C' A5 m=>by
    have X:=(Y.mv 0 rfl m).l2
    have h1':St E.S E.w0 ((fC (w.heap.size+1) (.loop (rec st c))::C')++(fC w.heap.size (.deferred (some []))::F)) w':=X
    have AB:w'.heap[w.heap.size+1]? =some (.loop (rec st c)):=h1'.holds (fC (w.heap.size+1) (.loop (rec st c))) sm
    refine ⟨_,by have:=run_endLoop (P:=E.P) AB (by rw [G]; exact A5); rw [this,G],?_⟩
    have j:=h1'.qm (b:=w.heap.size+1) (A':=fC (w.heap.size+1) (.loop {rec st c with state:= .exhausted})) 0 rfl rfl rfl (ek _) (fun _ h=>h) (World.putObj_heap_same (cU AB))
    have h3:St E.S E.w0 (C'++(fC w.heap.size (.deferred (some []))::F)) _:=j.take (List.sublist_cons_self _ _)
    rw [G] at h3
    refine h3.perm ?_
    exact (List.perm_append_comm).trans sm
   rcases hh with ⟨s,B,A4,⟨y,hy,rfl⟩,m⟩|⟨B,⟨c,z,hc,hz,rfl⟩,m⟩
   ·obtain ⟨M,V,O⟩:=hleave .ready none _ sm m
    exact ⟨none,M,V,fin w.heap.size s y A4 hy _ _ AA O⟩
   ·obtain ⟨M,V,O⟩:=hleave .done (some c) _ sm m
    refine ⟨some c,M,V,?_⟩
    rcases hc with rfl|⟨id,rfl⟩
    ·exact wpIn_ret (finr w.heap.size z hz _ _ AA O)
    ·exact wpIn_exit (finx w.heap.size id z hz _ _ AA O)
end
section
open Go.RowKit
abbrev jB (r:Nat):ah:=fC r (.deferred (some []))
theorem vJ {E:c_} {c:Code} {Q:bJ} {D:dH} {L:bT} {C:List ah} {ι:Type} (Di:ι→dH) (Li:ι→bT) (Ci:ι→List ah) (μ:ι→Nat) (x0:ι)
 (hD:D=Di x0) (h0:cE L (Li x0)) (hC: ∀ w,St E.S E.w0 C w→St E.S E.w0 (Ci x0) w)
 (round: ∀ x (J:Act→World→Prop),(∀ y D' L' C',D'=Di y→μ y<μ x→cE L' (Li y)→(∀ w,St E.S E.w0 C' w→St E.S E.w0 (Ci y) w)→KJ E J D' L' C')→WJ E c (Exit.then J Q) (Di x) (Li x) (Ci x)):WJ E (.loop c) Q D L C:=by
 intro a w hf hs
 subst hD
 have H: ∃ x,Fr E.n (Di x) (Li x) a∧St E.S E.w0 (Ci x) w:=⟨x0,hf.sub h0,hC w hs⟩
 clear hf hs
 have key: ∀ (m:Nat) (a:Act) (w:World),(∃ x,μ x=m∧Fr E.n (Di x) (Li x) a∧St E.S E.w0 (Ci x) w)→(Code.loop c).wpIn (Fw E.r) 0 E.P Q a w:=by
  intro m a w hx
  refine wpIn_loop (fun a w=> ∃ x,Fr E.n (Di x) (Li x) a∧St E.S E.w0 (Ci x) w) (fun a w=>leastOf fun k=> ∃ x,μ x=k∧Fr E.n (Di x) (Li x) a∧St E.S E.w0 (Ci x) w) (by obtain ⟨x,_,h⟩:=hx; exact ⟨x,h⟩) ?_
  intro a w hx
  have F: ∃ k,∃ x,μ x=k∧Fr E.n (Di x) (Li x) a∧St E.S E.w0 (Ci x) w:=by obtain ⟨x,h⟩:=hx; exact ⟨_,x,rfl,h⟩
  obtain ⟨x,K,AA,M⟩:=(leastOf_spec F).1
  refine round x _ ?_ a w AA M
  intro y D' L' C' hD G A B a' w' hf' hs'
  subst hD
  refine ⟨⟨y,hf'.sub A,B _ hs'⟩,?_⟩
  rw [← K]
  exact Nat.lt_of_le_of_lt ((leastOf_spec ⟨_,y,U,hf'.sub A,B _ hs'⟩).2 _ ⟨y,U,hf'.sub A,B _ hs'⟩) G
 obtain ⟨x,h⟩:=H
 exact key _ a w ⟨x,U,h⟩
theorem St.zQ {S:BS} {w0 w:World} {C X:List ah} {A:ah} (h:St S w0 (A::ei X::C) w):St S w0 (ei (A::X)::C) w:=by
 have B:St S w0 (ei X::A::C) w:=h.perm (List.Perm.swap _ _ _)
 have D:St S w0 ((A::X)++C) w:=B.l2.perm (List.perm_middle (a:=A) (l₁:=X) (l₂:=C))
 exact D.sB
theorem xx {E:c_} {K:Act→World→Prop} {D:dH} {L:bT} {C C1 X:List ah} {A:ah} (i j:Nat) (hn:decide (j::i::(List.range C.length).filter fun k=>k != i&&k != j).Nodup=true) (hC:kl C (j::i::(List.range C.length).filter fun k=>k != i&&k != j)=A::ei X::C1)
 (h:KJ E K D L (ei (A::X)::C1)):KJ E K D L C:=fun a w hf hs=>h a w hf ((St.kl _ hn hC hs).zQ)
theorem vX {E:c_} {fn:Func} {R:Ending→World→Prop} {D:dH} {L:bT} {C C1:List ah} {rs:List Nat} (i:Nat) (hn:decide (i::(List.range C.length).filter fun k=>k != i).Nodup=true) (hC:kl C (i::(List.range C.length).filter fun k=>k != i)=ei (rs.map jB)::C1)
 (h:LJ E fn R D L C1):LJ E fn R (rs.map gd++D) L C:=by
 have key: ∀ rs:List Nat,LJ E fn R (rs.map gd++D) L (ei (rs.map jB)::C1):=by
  intro rs
  induction rs with
  |nil=>exact fun a w hf hs=>h a w hf (hs.take (List.sublist_cons_self _ _))
  |cons r rs ih=>
   have A:LJ E fn R (gd r::(rs.map gd++D)) L (jB r::ei (rs.map jB)::C1):=qj 0 rfl rfl (fun a w hf hs=>ih a w hf (hs.take (List.sublist_cons_self _ _)))
   intro a w hf hs
   refine A a w hf ?_
   have B:St E.S E.w0 ((jB r::rs.map jB)++C1) w:=St.l2 (C1:=jB r::rs.map jB) hs
   have F:St E.S E.w0 (rs.map jB++(jB r::C1)) w:=B.perm (List.perm_middle (a:=jB r) (l₁:=rs.map jB) (l₂:=C1)).symm
   exact F.sB.perm (List.Perm.swap _ _ _)
 exact fun a w hf hs=>key rs a w hf (St.kl _ hn hC hs)
theorem s9 {E:c_} {fn:Func} {R:Ending→World→Prop} {L:bT} {C C1:List ah} {rs:List Nat} (i:Nat) (hn:decide (i::(List.range C.length).filter fun k=>k != i).Nodup=true) (hC:kl C (i::(List.range C.length).filter fun k=>k != i)=ei (rs.map jB)::C1)
 (h:LJ E fn R [] L C1):LJ E fn R (rs.map gd) L C:=by
 have:=vX (D:=[]) i hn hC h
 rwa [List.append_nil] at this
end
section
open Go.RowKit
section
variable {K:Type} [DecidableEq K] {kV:K→Value}
variable {E:c_} {ops:Array Oper} {Q:bJ} {rest:List Oper} {D:List Deferred} {L:List (Nat×Value)} {C:List ah}
variable {ty:TypeId} {ps:String} {af:Array Edge} {g:Option (Nat×Bool)}
theorem pV {t kt et:TypeId} {xm xk:Operand} {ts:Array TypeId} {b:Nat} {x:K} {m m':List (K×Value)} {C':List ah} (i:Nat) (hg:e6 ops L g=true) (hm:ev L xm=some (.map (some b))) (hk:ev L xk=some (kV x)) (hts:ts[0]? =some t)
 (ht:E.P.underlying t=some (.map kt et)) (hkt:oS E.P kt kV) (hC:C[i]? =some (lY kV b m)) (hm':dJ m x=m') (hC':C.set i (lY kV b m')=C') (k:RJ E ops Q rest D L C'):
 RJ E ops Q (⟨none,.call {callee:= .builtin .delete,args:= #[xm,xk],argTypes:=ts},ty,ps,af,g⟩::rest) D L C:=by
 subst hm' hC'
 intro a w A hs
 unfold kK
 rw [if_pos (cx A hg)]
 obtain ⟨es,c,he,hi⟩:=hs.holds _ (aI hC)
 have B:(getObj b).run E.P w= .ok (.map es c) w:=MapKept.run_getObj_map he
 rcases kW (P:=E.P) (w:=w) (x:=x) hkt hi with ⟨F,G⟩|⟨j,AA,F,G,H⟩
 ·refine eb (v:= .tuple #[]) (w':={w with heap:=w.heap.setIfInBounds b (.map es c)}) sm ?_ ?_
  ·simp [execOp,resolve,invoke,builtin,A.ev hm,A.ev hk,Builtin.delete_,hts,run_underlying ht,B,fF hkt,F,MapKept.run_setObj_map _ he]
  ·refine k _ _ ⟨A.defers,A.size,A.at_⟩ (hs.qm (b:=b) i hC U U (js _) (fun _ h=>h) ⟨_,_,kM he,?_⟩)
   rw [pT G]; exact hi
 ·refine eb (v:= .tuple #[]) (w':={w with heap:=w.heap.setIfInBounds b (.map (es.eraseIdxIfInBounds j) c)}) sm ?_ ?_
  ·simp [execOp,resolve,invoke,builtin,A.ev hm,A.ev hk,Builtin.delete_,hts,run_underlying ht,B,fF hkt,F,MapKept.run_setObj_map _ he]
  ·exact k _ _ ⟨A.defers,A.size,A.at_⟩ (hs.qm (b:=b) i hC U U (js _) (fun _ h=>h) ⟨_,_,kM he,hi.del G⟩)
end
end
section
open Go.RowKit
theorem vD (d:ak) (kA:OA) (kC:Nat) (pA:OA) (pC:Nat) (nA:OA) (nC:Nat) (tA:OA) (tN tC gw:Nat) (m:BM) (P:Nat→Prop) (gm:Nat) (s:aG) (g1 g2 g3:Nat) (hin:cJ d) (htr:a_ d.ag=true) (hok:dO d) (hss:bS d.ag s) (hm:eo m P):
 xe Tryz.prog 87 [] [(vP g1),(vP g2),(vP g3)] [(rd kA d.ag.length 9 (d.ag.map aa.cells)),(rd pA d.ae.length 7 (d.ae.map aV.cells)),(rd nA d.aq.length 3 (d.aq.map bc.cells)),(cv gw 76 (cd.cells (cd.mk (aZ.mk (ar.mk (bB.mk kA d.ag.length kC)) (bB.mk pA d.ae.length pC) (bB.mk nA d.aq.length nC) d.a2 d.a4) (bB.mk tA tN tC)))),(cv g1 71 [(vP gw)]),(lY iV gm (dv vB m)),(cv g2 121 [(Value.map (some gm))]),(cv g3 30 (aG.cells s))] ([]:List Int) (fun ys x ys'=> ∃ i:Nat,i<d.ae.length∧eD d P s i∧ys=(bZ i (eD d P s))∧x=[vI (i:Int)]∧ys'=ys++[(i:Int)]) (fun ys=>ys=iQ d P s):=by
 have Bu:=hin.k3
 have Bs:=hin.side
 have B3:=hin.kb
 have B1:=hin.kG
 have B0:=hin.nk
 have B2:=hin.pk
 have K:=hok.dC
 refine vZ kr Tryz.func87 U U fun l J Z A0 w0 Q hY BT BR hQ hN=>?_
 try dsimp only
 refine WS fun _ BU=>gS 1 [] (mr 5 U mn) U<|rS (SX (cV U U) U U)<|rP 5 [] (mr 4 U mn) ?_
 refine RK BU<|ay ?_
 have V:(0≤d.ae.length)∧(J (bZ 0 (eD d P s)) A0)∧(Fo A0 w0 A0):=by exact ⟨Nat.zero_le _,BT,BR⟩
 refine bu (ι:={z:Nat×ah // (z.1≤d.ae.length)∧(J (bZ z.1 (eD d P s)) z.2)∧(Fo A0 w0 z.2)}) [0,1,2,3,14,15] [1,2,3,4,5,6,7,8] U U (fun z=>[(16,(vI (z.1.1:Int)))]) (fun z=>[z.1.2]) (fun _=>rfl) (fun _=>rfl) (fun z=>d.ae.length-z.1.1) ⟨(0,A0),V⟩ (a3 U) (aL [1,2,3,4,5,6,7,8,0]) ?_
 clear V
 rintro ⟨⟨i,A⟩,⟨o,E,F⟩⟩ J2 L
 try dsimp only at o E F
 try dsimp only
 refine WS fun _ BV=>rP 1 [] mn ?_
 refine RK BV<|ai fun _ BW=>bq U (aR fun h5=>?_) (aS fun h5=>?_)
 ·refine bk<|ab<|ab<|ax ?_
  refine hN _ _ _ (fW (vs:=[]) trivial fun w hs=>zU 8 U (by show _=_; unfold iQ; rw [show i=d.ae.length by omega]) E F hs)
 refine WK BW<|ai fun _ M=>ay<|WS fun _ BX=>rP 1 [] mn ?_
 obtain ⟨p,hp⟩:=bh d.ae i I
 have BZ:=bG aV.cells hp
 refine rS (IA i U (aO 1 U) m1 dc I I)<|rS (mY i 0 (aV.cells p) U cz (aO 1 U) BZ U dc U U)<|AL U uh fun b8=>aY 1 U<|gG U vh U<|RK BX<|ai fun _ BY=>WS fun _ r=>gS 2 [] (mr 7 U mn) U<|rS (SX (px (kV:=iV) (x:=(i:Int)) (l:=m) (f:=Value.bool) (z:=false) U U U uC (g9 mZ) Bj (by exact n7 6 U)) U U)<|rP 1 [] mn ?_
 refine RK r<|cG U (fun B=>?_) (fun B=>?_)
 ·rw [Bool.not_eq_true'] at B
  refine bk<|ab<|ax<|KK M<|aj<|rP 2 [] mn ?_
  refine aB ?_
  have BH:(vI (((i+1):Nat):Int))=(vI ((i:Int)+1)):=by exact cI I
  refine aU (L ⟨((i+1),A),⟨I,by rw [fP (show ¬ eD d P s i from by first|(rintro ⟨_,p2,AB,hh⟩; rw [hp] at AB; cases AB; exact C (G.2 hh))|exact (fun q=>by have h:=(fj hm).2 q.1; rw [B] at h; cases h))]; exact E,F⟩⟩ _ _ _ rfl os (bL 6<|aN rfl BH<|cE.nil _) (aL [1,2,3,4,5,6,7,8,9]))
 rw [Bool.not_eq_false'] at B
 refine WK BY<|WS fun _ X=>aY 1 U<|rS (LP (aG.cells p.cp) 0 U cz U U U)<|gS 1 [] (mr 8 U mn) U<|rS (BI U (yA _ _ p.cp s))<|rP 1 [] mn ?_
 refine cK (t:=29) U (aR fun H=>?_) (aS fun H=>?_)
 ·refine rP 9 [] mn ?_
  refine RK X<|ai fun _ v=>dY dw [12,13] [] [] [0,1,2,3,4,5,6,7,8,9] [] U U U U U<|eS U (zF 5 U cz U)<|eS U (SX (cV U U) U U)<|eS U (FA 0 U fZ U)<|eS U (FA 0 U fZ U)<|eS U (zB (ar.cells (ar.mk (bB.mk kA d.ag.length kC))) 4 U cz U U U)<|eS U (Bf 8 U cz U U)<|eS U (FA 2 U fZ U)<|eS U (LP (aG.cells p.cp) 0 U cz U U U) ?_
  refine eS U (CL (nX d.ag kA kC s p.cp sd sd) (bg [1]) U) ?_
  refine eS U (MV U) ?_
  have W:=(hok.post i p hp).2.2.1
  have n:=jg htr ⟨hss,W⟩
  have j:=mw (cP htr) (dy htr) hss W
  have G:=lx (d:=d) (a:=s) (b:=p.cp) I K.1
  rw [← n.2] at j G
  refine eS U (EX U)<|eS U (EX U)<|eS U (AG U)<|fx U<|bN U fun T39 BB=>AL U eG fun By=>aB (BB _ _ (aL [1,2,3,4,5,6,7,8,9,10]) ?_)
  refine bN U fun T41 BC=>gG U dB U<|aB (BC _ _ (aL [1,2,3,4,5,6,7,8,9,10]) ?_)
  refine fR U<|KK v<|ai fun _ y=>dY dw [6,7,13,14] [] [] [0,1,2,3,4,5,6,7,8,9,10] [] U U U U U<|eS U (MV U)<|eS U (MV U)<|eS U (FA 0 U fZ U)<|eS U (L1 (vI ((dL d.ag s p.cp).Lo)) 0 U cz U U)<|eS U (FA 1 U fZ U)<|eS U (L1 (vI ((dL d.ag s p.cp).Hi)) 0 U cz U U)<|eS U (zF 6 U cz U)<|eS U (SX (cV U U) U U)<|eS U (FA 0 U fZ U)<|eS U (FA 6 U fZ U)<|eS U (yr (vI d.a4) 5 U cz U U)<|fx U<|bN U fun T43 BD=>df (xs:=[.tmp 53,.tmp 55]) (cs:=[(vI ((dL d.ag s p.cp).Lo)),(vI ((dL d.ag s p.cp).Hi))]) U cL gY U U U U (by simp [Value.cells]) U U fun BQ=>aB (BD _ _ (aL [1,2,3,4,5,6,7,8,9,10,11]) ?_)
  refine bN U fun T45 BE=>?_
  refine rS (CL (j1 ([(dL d.ag s p.cp).Lo,(dL d.ag s p.cp).Hi]) (some ⟨BQ,0,none⟩) 2 (by intro x hx; simp only [bE,List.not_mem_nil,or_false] at hx; omega) sm) (av (aK 0 U U (by simp [ba]) U)<|aw) U) ?_
  refine aB (BE _ _ (aL [1,2,3,4,5,6,7,8,9,10,11]) ?_)
  refine bN U fun T46 BF=>rS (BI U nj)<|aB (BF _ _ (aL [1,2,3,4,5,6,7,8,9,10,11]) ?_)
  refine bN U fun T47 BG=>rS (PK U)<|aB (BG _ _ (aL [1,2,3,4,5,6,7,8,9,10,11]) ?_)
  refine fR U<|KK y<|bq U (aR fun C=>?_) (aS fun C=>?_)
  ·refine cg<|aF<|KK M<|aj<|rP 2 [] mn ?_
   refine aB ?_
   have BO:(vI (((i+1):Nat):Int))=(vI ((i:Int)+1)):=by exact cI I
   refine aU (L ⟨((i+1),A),⟨I,by rw [fP (show ¬ eD d P s i from by first|(rintro ⟨_,p2,AB,hh⟩; rw [hp] at AB; cases AB; exact C (G.2 hh))|exact (fun q=>by have h:=(fj hm).2 q.1; rw [B] at h; cases h))]; exact E,F⟩⟩ _ _ _ rfl os (bL 6<|aN rfl BO<|cE.nil _) (aL [3,4,5,6,7,8,9,10,11]))
  refine WS fun _ g=>rP 2 [] mn ?_
  refine mB (k:=(bZ i (eD d P s))) (k':=((bZ i (eD d P s))++[((i:Int))])) 11 (by first|exact hsz|exact Nat.le_refl _) hY E F U U U (by exact ⟨i,I,⟨(fj hm).1 B,p,hp,(by first|exact G.1 C|exact fJ H D K.1)⟩,U,U,U⟩) U U (fun B49 AA R=>?_) (fun B49 AA R=>?_)
  rotate_left 1
  ·refine rP 1 [] mn ?_
   refine RK g<|aT U<|an ?_
   refine hQ _ _ _ (fW (vs:=[]) trivial fun w hs=>tP 11 U AA R hs)
  refine aY 1 U<|RK g<|bp U<|cg<|aF<|KK M<|aj<|rP 2 [] mn ?_
  refine aB ?_
  have BN:(vI (((i+1):Nat):Int))=(vI ((i:Int)+1)):=by exact cI I
  refine aU (L ⟨((i+1),B49),⟨I,by rw [fm (show eD d P s i from ⟨(fj hm).1 B,p,hp,(by first|exact G.1 C|exact fJ H D K.1)⟩)]; exact AA,R⟩⟩ _ _ _ U os (bL 6<|aN U BN<|cE.nil _) (aL [3,4,5,6,7,8,9,10,11]))
 refine rP 9 [] (mr 8 U mn) ?_
 refine RK X<|ai fun _ u=>dY dw [12,13] [] [] [0,1,2,3,4,5,6,7,8,9] [] U U U U U<|eS U (zF 5 U cz U)<|eS U (SX (cV U U) U U)<|eS U (FA 0 U fZ U)<|eS U (FA 0 U fZ U)<|eS U (zB (ar.cells (ar.mk (bB.mk kA d.ag.length kC))) 4 U cz U U U)<|eS U (Bf 8 U cz U U)<|eS U (FA 2 U fZ U)<|eS U (LP (aG.cells p.cp) 0 U cz U U U) ?_
 refine eS U (CL (nX d.ag kA kC s p.cp sd sd) (bg [1]) U) ?_
 refine eS U (MV U) ?_
 have W:=(hok.post i p hp).2.2.1
 have n:=jg htr ⟨hss,W⟩
 have j:=mw (cP htr) (dy htr) hss W
 have G:=lx (d:=d) (a:=s) (b:=p.cp) I K.1
 rw [← n.2] at j G
 refine eS U (EX U)<|eS U (EX U)<|eS U (AG U)<|fx U<|bN U fun T14 AC=>AL U eG fun Bx=>aB (AC _ _ (aL [1,2,3,4,5,6,7,8,9,10]) ?_)
 refine bN U fun T16 AQ=>gG U dB U<|aB (AQ _ _ (aL [1,2,3,4,5,6,7,8,9,10]) ?_)
 refine fR U<|KK u<|ai fun _ Y=>dY dw [6,7,13,14] [] [] [0,1,2,3,4,5,6,7,8,9,10] [] U U U U U<|eS U (MV U)<|eS U (MV U)<|vx (t:=51) U (fun D=>?_) (fun D=>?_)
 ·replace D:=DT D
  refine eS U (OX U)<|eS U (OX U)<|eS U (OX U)<|eS U (OX U)<|eS U (OX U)<|eS U (OX U)<|eS U (OX U)<|eS U (OX U)<|eS U (OX U)<|fx U<|bN U fun T18 A1=>oX<|aB (A1 _ _ (aL [0,1,2,3,4,5,6,7,8,9,10]) ?_)
  refine bN U fun T19 A2=>oX<|aB (A2 _ _ (aL [0,1,2,3,4,5,6,7,8,9,10]) ?_)
  refine bN U fun T20 A3=>oX<|aB (A3 _ _ (aL [0,1,2,3,4,5,6,7,8,9,10]) ?_)
  refine bN U fun T21 A4=>rS (PK U)<|aB (A4 _ _ (aL [0,1,2,3,4,5,6,7,8,9,10]) ?_)
  refine fR U<|KK Y<|aT U<|WS fun _ c=>rP 2 [] mn ?_
  refine mB (k:=(bZ i (eD d P s))) (k':=((bZ i (eD d P s))++[((i:Int))])) 10 (by first|exact hsz|exact Nat.le_refl _) hY E F U U U (by exact ⟨i,I,⟨(fj hm).1 B,p,hp,(by first|exact G.1 C|exact fJ H D K.1)⟩,U,U,U⟩) U U (fun B23 S N=>?_) (fun B23 S N=>?_)
  rotate_left 1
  ·refine rP 1 [] mn ?_
   refine RK c<|aT U<|an ?_
   refine hQ _ _ _ (fW (vs:=[]) trivial fun w hs=>tP 10 U S N hs)
  refine aY 1 U<|RK c<|bp U<|cg<|aF<|KK M<|aj<|rP 2 [] mn ?_
  refine aB ?_
  have BJ:(vI (((i+1):Nat):Int))=(vI ((i:Int)+1)):=by exact cI I
  refine aU (L ⟨((i+1),B23),⟨I,by rw [fm (show eD d P s i from ⟨(fj hm).1 B,p,hp,(by first|exact G.1 C|exact fJ H D K.1)⟩)]; exact S,N⟩⟩ _ _ _ U os (bL 6<|aN U BJ<|cE.nil _) (aL [2,3,4,5,6,7,8,9,10]))
 replace D:=DF D
 refine eS U (FA 0 U fZ U)<|eS U (L1 (vI ((dL d.ag s p.cp).Lo)) 0 U cz U U)<|eS U (FA 1 U fZ U)<|eS U (L1 (vI ((dL d.ag s p.cp).Hi)) 0 U cz U U)<|eS U (zF 6 U cz U)<|eS U (SX (cV U U) U U)<|eS U (FA 0 U fZ U)<|eS U (FA 6 U fZ U)<|eS U (yr (vI d.a4) 5 U cz U U)<|fx U<|bN U fun T27 A5=>df (xs:=[.tmp 53,.tmp 55]) (cs:=[(vI ((dL d.ag s p.cp).Lo)),(vI ((dL d.ag s p.cp).Hi))]) U cL gY U U U U (by simp [Value.cells]) U U fun BP=>aB (A5 _ _ (aL [1,2,3,4,5,6,7,8,9,10,11]) ?_)
 refine bN U fun T29 A6=>?_
 refine rS (CL (j1 ([(dL d.ag s p.cp).Lo,(dL d.ag s p.cp).Hi]) (some ⟨BP,0,none⟩) 2 (by intro x hx; simp only [bE,List.not_mem_nil,or_false] at hx; omega) sm) (av (aK 0 U U (by simp [ba]) U)<|aw) U) ?_
 refine aB (A6 _ _ (aL [1,2,3,4,5,6,7,8,9,10,11]) ?_)
 refine bN U fun T30 A7=>rS (BI U nj)<|aB (A7 _ _ (aL [1,2,3,4,5,6,7,8,9,10,11]) ?_)
 refine bN U fun T31 A8=>rS (PK U)<|aB (A8 _ _ (aL [1,2,3,4,5,6,7,8,9,10,11]) ?_)
 refine fR U<|KK Y<|bq U (aR fun C=>?_) (aS fun C=>?_)
 ·refine cg<|aF<|KK M<|aj<|rP 2 [] mn ?_
  refine aB ?_
  have BL:(vI (((i+1):Nat):Int))=(vI ((i:Int)+1)):=by exact cI I
  refine aU (L ⟨((i+1),A),⟨I,by rw [fP (show ¬ eD d P s i from by first|(rintro ⟨_,p2,AB,hh⟩; rw [hp] at AB; cases AB; exact C (G.2 hh))|exact (fun q=>by have h:=(fj hm).2 q.1; rw [B] at h; cases h))]; exact E,F⟩⟩ _ _ _ rfl os (bL 6<|aN rfl BL<|cE.nil _) (aL [3,4,5,6,7,8,9,10,11]))
 refine WS fun _ e=>rP 2 [] mn ?_
 refine mB (k:=(bZ i (eD d P s))) (k':=((bZ i (eD d P s))++[((i:Int))])) 11 (by first|exact hsz|exact Nat.le_refl _) hY E F U U U (by exact ⟨i,I,⟨(fj hm).1 B,p,hp,(by first|exact G.1 C|exact fJ H D K.1)⟩,U,U,U⟩) U U (fun B33 T O=>?_) (fun B33 T O=>?_)
 rotate_left 1
 ·refine rP 1 [] mn ?_
  refine RK e<|aT U<|an ?_
  refine hQ _ _ _ (fW (vs:=[]) trivial fun w hs=>tP 11 U T O hs)
 refine aY 1 U<|RK e<|bp U<|cg<|aF<|KK M<|aj<|rP 2 [] mn ?_
 refine aB ?_
 have BK:(vI (((i+1):Nat):Int))=(vI ((i:Int)+1)):=by exact cI I
 refine aU (L ⟨((i+1),B33),⟨I,by rw [fm (show eD d P s i from ⟨(fj hm).1 B,p,hp,(by first|exact G.1 C|exact fJ H D K.1)⟩)]; exact T,O⟩⟩ _ _ _ U os (bL 6<|aN U BK<|cE.nil _) (aL [3,4,5,6,7,8,9,10,11]))
theorem rU (gw gm:Nat) (s:aG):
 jH Tryz.prog 64 [(vP gw),(vA (aG.cells s)),(Value.map (some gm))] [] (fun (x:Nat×Nat×Nat)=>(Value.func (.func 87) [].toArray [(Value.pointer (some ⟨x.1,0,none⟩)),(Value.pointer (some ⟨x.2.1,0,none⟩)),(Value.pointer (some ⟨x.2.2,0,none⟩))].toArray)) (fun (x:Nat×Nat×Nat)=>True) (fun (x:Nat×Nat×Nat)=>[(cv x.1 71 [(vP gw)]),(cv x.2.1 121 [(Value.map (some gm))]),(cv x.2.2 30 (aG.cells s))]):=by
 refine dh kr Tryz.func64 U U fun F Q hQ hN=>?_
 try dsimp only
 refine WS fun _ A=>sT U U fun C=>fN U fun D=>sT U U fun E=>aY 1 U<|RK A<|WS fun _ B=>rS (FU U)<|rP 1 [] mn ?_
 refine RK B<|an<|LX hQ (C,E,D) [2,0,1] [] mn U U U U ?_
 trivial
end
section
open Go.RowKit
theorem nL (x:Int):
 dx Tryz.prog 106 [(vI x)] [] (vB false):=by
 refine bD kr Tryz.func106 U U fun C Q hQ hN=>?_
 try dsimp only
 refine WS fun _ A=>aY 1 U<|RK A<|WS fun _ B=>rP 4 [] mn ?_
 refine RK B<|an<|Q1 hQ U U U ?_
 simp
theorem vN (x y:Int):
 dx Tryz.prog 101 [(vI x),(vI y)] [] (vB (decide (x<y))):=by
 refine bD kr Tryz.func101 U U fun C Q hQ hN=>?_
 try dsimp only
 refine WS fun _ A=>aY 1 U<|RK A<|WS fun _ B=>aY 1 U<|rS (CL (nL x) (aw) U)<|rP 11 [] mn ?_
 refine RK B<|an<|Q1 hQ U U U ?_
 exact cB (dQ.2 I)
theorem sh (l:List Int) (lA:OA) (lC:Nat) (hlen:l.length≤1000000):
 uS Tryz.prog 95 [(vS lA l.length lC),(vI 0),(vI (l.length:Int))] [] (own lA lC 3 1 (l.map iC)) (fun (x:(List Int))=>(vT [])) (fun (x:(List Int))=>x.Perm l∧x.Pairwise (· ≤ ·)) (fun (x:(List Int))=>(own lA lC 3 1 (x.map iC))):=by
 refine k5 kr Tryz.func95 U U fun g Q hQ hN=>?_
 try dsimp only
 refine WS fun _ X=>aY 1 U<|rS (SX (cj (r:= .int .i64 1) U U U (jI ⟨dc,dc⟩)) U U)<|rP 1 [] mn ?_
 refine RK X<|ay ?_
 have A:(1≤1∧(1≤l.length∨1=1))∧(l.length=l.length)∧(l.Perm l)∧(wV l 1):=by exact ⟨I,rfl,List.Perm.refl _,vn⟩
 refine bu (ι:={z:Nat×(List Int) // (1≤z.1∧(z.1≤l.length∨z.1=1))∧(z.2.length=l.length)∧(z.2.Perm l)∧(wV z.2 z.1)}) [0,1,2] [] U U (fun z=>[(6,(vI (z.1.1:Int)))]) (fun z=>[(own lA lC 3 1 (z.1.2.map iC))]) (fun _=>rfl) (fun _=>rfl) (fun z=>l.length-z.1.1) ⟨(1,l),A⟩ (a3 U) (aL [0]) ?_
 clear A
 rintro ⟨⟨i,m⟩,⟨K,AB,E,F⟩⟩ J2 M
 try dsimp only at K AB E F
 try dsimp only
 refine ai fun _ Y=>WS fun _ Z=>rP 3 [] mn ?_
 refine RK Z<|bq U (aR fun e=>?_) (aS fun e=>?_)
 ·refine bk<|ab<|ab<|ax<|LM hN m 0 [] mn U U U U ?_
  exact ⟨E,u6 F I⟩
 refine WK Y<|ai fun _ O=>ay<|WS fun _ b=>rP 2 [] mn ?_
 refine RK b<|ay ?_
 have A:(i≤i)∧(m.length=l.length)∧(m.Perm l)∧(xE m i i):=by exact ⟨Nat.le_refl _,AB,E,r_ F I⟩
 refine bu (ι:={z:Nat×(List Int) // (z.1≤i)∧(z.2.length=l.length)∧(z.2.Perm l)∧(xE z.2 i z.1)}) [0,1,2,6] [] U U (fun z=>[(7,(vI (z.1.1:Int)))]) (fun z=>[(own lA lC 3 1 (z.1.2.map iC))]) (fun _=>rfl) (fun _=>rfl) (fun z=>z.1.1) ⟨(i,m),A⟩ (a3 U) (aL [0]) ?_
 clear A
 rintro ⟨⟨j,q⟩,⟨G,B,C,D⟩⟩ J8 W
 try dsimp only at G B C D
 try dsimp only
 refine ai fun _ c=>ai fun _ J=>eA dw 15 kr<|dP 4 [] mn ?_
 refine lV (t:=19) U (aR fun hj=>?_) (aS fun hj=>?_)
 ·refine gf 11 U<|cR<|RK J<|bp U<|bk<|ab<|ab<|ax<|aF<|KK O<|aj<|rP 3 [] mn ?_
  refine aB ?_
  refine aU (M ⟨((i+1),q),⟨I,B,C,by exact ur I D⟩⟩ _ _ _ U (by simp only []; omega) (a3 U) (aL [0]))
 refine dP 2 [] mn ?_
 obtain ⟨x,hx⟩:=bh q j I
 have L:=bG iC hx
 refine dS (IA j U (au (n:=l.length) 0 U sq) cL dc I I) ?_
 refine dS (g5 j 0 (vI x) U cz (au (n:=q.length) 0 U sm) L U dc U)<|dP 3 [] mn ?_
 obtain ⟨y,hy⟩:=bh q (j-1) I
 have V:=bG iC hy
 refine dS (IA (j-1) U (au (n:=l.length) 0 U sq) cL dc I I) ?_
 refine dS (g5 (j-1) 0 (vI y) U cz (au (n:=q.length) 0 U sm) V U dc U)<|dS (CL (vN x y) (aw) U)<|dP 1 [] mn ?_
 refine cR<|RK J<|bq U (aR fun H=>?_) (aS fun H=>?_)
 ·refine bk<|ab<|ab<|ax<|aF<|KK O<|aj<|rP 3 [] mn ?_
  refine aB ?_
  refine aU (M ⟨((i+1),q),⟨I,B,C,by exact ui hx hy I G H D⟩⟩ _ _ _ U (by simp only []; omega) (a3 U) (aL [0]))
 refine WK c<|ai fun _ N=>ay<|dY dw [15,16,17] [8,9,12,13,14] [] [] [0] U U U U U<|eS U (MV U)<|eS U (MV U)<|eS U (MV U)<|eS U (MV U)<|eS U (BI U (q7 ⟨I,I⟩))<|eS U (MV U)<|eS U (MV U)<|eS U (BI U (q7 ⟨I,I⟩)) ?_
 refine fS U (IA (j-1) U (au (n:=l.length) 0 U sq) cL dc I I) ?_
 refine fS U (g5 (j-1) 0 (vI y) U cz (au (n:=q.length) 0 U sm) V U dc U)<|eS U (MV U)<|eS U (MV U) ?_
 refine fS U (IA j U (au (n:=l.length) 0 U sq) cL dc I I) ?_
 refine fS U (g5 j 0 (vI x) U cz (au (n:=q.length) 0 U sm) L U dc U) ?_
 refine fS U (IA j U (au (n:=l.length) 0 U sq) cL dc I I) ?_
 refine fx U<|bN U fun T12 P=>cw (k:=j) (o:=0) (vs:=[(vI y)]) (es':=(List.map iC (q.set j y))) (C':=[(own lA lC 3 1 (List.map iC (q.set j y)))]) 0 U U U qh U U U U L U dc (by exact (List.map_set (f:=iC) (l:=q) (i:=j) (a:=y)).symm) U<|aB (P _ _ (aL []) ?_)
 refine bN U fun T13 R=>?_
 obtain ⟨d,AA⟩:=bh (q.set j y) (j-1) os
 have hx15m:(List.map iC (q.set j y))[(j-1)]? =some (iC d):=by rw [eT,AA]; rfl
 refine rS (IA (j-1) U (au (n:=l.length) 0 U sq) cL dc I I) ?_
 refine aB (R _ _ (aL []) ?_)
 refine bN U fun T16 S=>cw (k:=(j-1)) (o:=0) (vs:=[(vI x)]) (es':=(List.map iC ((q.set j y).set (j-1) x))) (C':=[(own lA lC 3 1 (List.map iC ((q.set j y).set (j-1) x)))]) 0 U U U qh U U U U hx15m U dc (by exact (List.map_set (f:=iC) (l:=(q.set j y)) (i:=(j-1)) (a:=x)).symm) U<|aB (S _ _ (aL []) ?_)
 refine fR U<|aF<|KK N<|aj<|rP 3 [] mn ?_
 refine aB ?_
 have T:(vI (((j-1):Nat):Int))=(vI ((j:Int)-1)):=by exact cI I
 refine aU (W ⟨((j-1),((q.set j y).set (j-1) x)),⟨I,by simp; exact B,(sS hx hy).trans C,uz hx hy I G H D⟩⟩ _ _ _ U (by simp only []; omega) (bL 4<|aN U T<|cE.nil _) (aL [0]))
theorem vG (x:Int) (hx:0≤x∧x≤100):
 jH Tryz.prog 105 [(Value.int .u64 x)] [] (fun (x:Int)=>(vI x)) (fun (x:Int)=>True) (fun (x:Int)=>[]):=by
 refine dh kr Tryz.func105 U U fun N Q hQ hN=>?_
 try dsimp only
 refine WS fun _ D=>aY 1 U<|RK D<|ai fun _ E=>WS fun _ F=>rP 1 [] mn ?_
 refine rS (BI U re)<|RK F<|cG U (aS fun L=>?_) (aR fun L=>?_)
 ·exfalso; omega
 refine WK E<|ai fun _ G=>WS fun _ H=>rP 1 [] mn ?_
 refine rS (BI U re)<|RK H<|cG U (aS fun M=>?_) (aR fun M=>?_)
 ·exfalso; omega
 refine WK G<|ai fun _ AA=>WS fun _ J=>rP 1 [] mn ?_
 refine rS (BI U re)<|RK J<|cG U (aS fun C=>?_) (aR fun C=>?_)
 ·exfalso; omega
 refine WK AA<|WS fun _ B=>aY 2 U<|rS (SX (eK (m:=x) U U yf rW (o5 (by first|assumption|omega))) U U)<|wW (k:=(x).toNat) U U U Bm I (Nat.lt_of_lt_of_le (m:=200) I (of_decide_eq_true kr)) U fun A K=>rS (SX (eK (m:=A) U U rW mZ (dq (by first|assumption|omega))) U U)<|rP 2 [] mn ?_
 refine RK B<|an<|LX hQ (0+A) [] [] mn U U U U ?_
 trivial
theorem xT (x:Int) (hx:0≤x∧x≤100):
 jH Tryz.prog 89 [(Value.int .u64 x)] [] (fun (x:Int)=>(vI x)) (fun (x:Int)=>True) (fun (x:Int)=>[]):=by
 refine dh kr Tryz.func89 U U fun F Q hQ hN=>?_
 try dsimp only
 refine WS fun _ A=>aY 1 U<|RK A<|ai fun _ B=>bp U<|WK B<|WS fun _ C=>rP 1 [] mn ?_
 refine cX (vG x hx) (aw) U fun E D=>?_
 try dsimp only
 refine rP 1 [] mn ?_
 refine RK C<|an<|LX hQ E [] [] mn U U U U ?_
 trivial
theorem zg (l:List Int) (lA:OA) (lC:Nat) (u:Int) (hlen:l.length≤12):
 uS Tryz.prog 88 [(vS lA l.length lC),(vI 0),(vI (l.length:Int)),(vI u)] [] (own lA lC 3 1 (l.map iC)) (fun (x:(List Int))=>(vT [])) (fun (x:(List Int))=>x.Perm l∧x.Pairwise (· ≤ ·)) (fun (x:(List Int))=>(own lA lC 3 1 (x.map iC))):=by
 refine k5 kr Tryz.func88 U U fun K Q hQ hN=>?_
 try dsimp only
 refine WS fun _ A=>aY 1 U<|RK A<|WS fun _ B=>aY 1 U<|RK B<|ay<|mA 1<|iA fun R3 AA=>ay<|WS fun _ C=>aY 4 U<|RK C<|ai fun _ H=>WS fun _ D=>rP 2 [] mn ?_
 refine RK D<|bq U (aR fun G=>?_) (aS fun G=>?_)
 ·exfalso; omega
 refine WS fun _ E=>rP 3 [] mn ?_
 refine iB 0 U U U U (sh l lA lC I) U jS U (fun J F=>?_)
 try dsimp only
 refine RK E<|an<|LM hQ J 0 [] mn U U U U ?_
 assumption
theorem wN (l:List Int) (lA:OA) (lC:Nat) (hlen:l.length≤12):
 uS Tryz.prog 65 [(vS lA l.length lC)] [] (own lA lC 3 1 (l.map iC)) (fun (x:(List Int))=>(vT [])) (fun (x:(List Int))=>x.Perm l∧x.Pairwise (· ≤ ·)) (fun (x:(List Int))=>(own lA lC 3 1 (x.map iC))):=by
 refine k5 kr Tryz.func65 U U fun F Q hQ hN=>?_
 try dsimp only
 refine WS fun _ A=>aY 3 U<|RK A<|aj<|rP 3 [] mn ?_
 refine rS (SX (eK (m:=(l.length:Int)) U U mZ yQ (oe (by first|assumption|omega))) U U)<|cX (xT (l.length:Int) I) (aw) U fun E B=>?_
 try dsimp only
 refine iB 0 U U U U (zg l lA lC E hlen) U jS U (fun D C=>?_)
 try dsimp only
 refine aB<|LM hN D 0 [] mn U U U U ?_
 assumption
end
section
open Go.RowKit
theorem lg (d:ak) (kA:OA) (kC:Nat) (pA:OA) (pC:Nat) (nA:OA) (nC:Nat) (tA:OA) (tN tC:Nat) (gw s:Nat) (hin:cJ d) (htr:a_ d.ag=true) (hok:dO d) (hsb:s<256):
 jH Tryz.prog 35 [(vP gw),(vI (s:Int))] [(rd kA d.ag.length 9 (d.ag.map aa.cells)),(rd pA d.ae.length 7 (d.ae.map aV.cells)),(rd nA d.aq.length 3 (d.aq.map bc.cells)),(cv gw 76 (cd.cells (cd.mk (aZ.mk (ar.mk (bB.mk kA d.ag.length kC)) (bB.mk pA d.ae.length pC) (bB.mk nA d.aq.length nC) d.a2 d.a4) (bB.mk tA tN tC))))] (fun (x:(OA)×Nat)=>(vS x.1 ((dI d (bH s)).length) x.2)) (fun (x:(OA)×Nat)=>True) (fun (x:(OA)×Nat)=>[(own x.1 x.2 3 1 ((dI d (bH s)).map iC))]):=by
 have CE:=hin.k3
 have B6:=hin.side
 have CU:=hin.kb
 have CR:=hin.kG
 have CQ:=hin.nk
 have CT:=hin.pk
 have CP:=hok.len
 refine dh kr Tryz.func35 U U fun w0 Q hQ hN=>?_
 try dsimp only
 refine WS fun _ Bv=>rP 1 [] mn ?_
 refine RK Bv<|WS fun _ Bw=>oD (kV:=iV) U U fun M=>?_
 try dsimp only
 refine aY 1 U<|RK Bw<|ai fun _ Bx=>WS fun _ By=>aY 1 U<|rS (SX (cV U U) U U)<|rP 5 [] (mr 4 U mn) ?_
 refine RK By<|ay ?_
 have C:(0≤d.ae.length)∧(eo ([]:BM) (fun k=>bH s k∧k<0)):=by exact ⟨Nat.zero_le _,j9 vt fun k=>⟨False.elim,fun q=>absurd q.2 (Nat.not_lt_zero _)⟩⟩
 refine bu (ι:={z:Nat×BM // (z.1≤d.ae.length)∧(eo z.2 (fun k=>bH s k∧k<z.1))}) [0,1,5,18,19] [1,2,3,4] U U (fun z=>[(20,(vI (z.1.1:Int)))]) (fun z=>[(lY iV M (dv vB z.1.2))]) (fun _=>rfl) (fun _=>rfl) (fun z=>d.ae.length-z.1.1) ⟨(0,([]:BM)),C⟩ (a3 U) (aL [1,2,3,4,0]) ?_
 clear C
 rintro ⟨⟨i,m⟩,⟨b,D⟩⟩ J6 t
 try dsimp only at b D
 try dsimp only
 refine WS fun _ Bz=>rP 1 [] mn ?_
 refine RK Bz<|ai fun _ B0=>cG U (aS fun h9=>?_) (aR fun h9=>?_)
 ·refine WK B0<|ai fun _ R=>ay<|WS fun _ u=>aY 2 U<|RK u<|WS fun _ v=>rP 2 [] mn ?_
  refine rS (BI U (qb (i:=i) I I)) ?_
  refine rS (BI U (qy (m:=(s/2^i)) I (Nat.lt_of_le_of_lt (Nat.div_le_self _ _) I)))<|rP 1 [] mn ?_
  refine RK v<|bq U (aR fun J=>?_) (aS fun J=>?_)
  ·refine cg<|aF<|KK R<|aj<|rP 2 [] mn ?_
   refine aB ?_
   have BL:(vI (((i+1):Nat):Int))=(vI ((i:Int)+1)):=by exact cI I
   refine aU (t ⟨((i+1),m),⟨I,by first|exact oK D (gj.1 J)|exact rn D (fun q=>J (gj.2 q))⟩⟩ _ _ _ U os (bL 5<|aN U BL<|cE.nil _) (aL [0,1,2,3,4]))
  refine aj<|aY 2 U<|ny (kV:=iV) (x:=(i:Int)) (C':=[_,_,_,_,(lY iV M (dv vB (fq m (i:Int) true)))]) 4 U U U U uC (g9 mZ) U (l4 _ _ _ _).symm U<|aB<|aF<|KK R<|aj<|rP 2 [] mn ?_
  refine aB ?_
  have BK:(vI (((i+1):Nat):Int))=(vI ((i:Int)+1)):=by exact cI I
  refine aU (t ⟨((i+1),(fq m (i:Int) true)),⟨I,by first|exact oK D (gj.1 J)|exact rn D (fun q=>J (gj.2 q))⟩⟩ _ _ _ U os (bL 5<|aN U BK<|cE.nil _) (aL [0,1,2,3,4]))
 refine bk<|ab<|ab<|ax<|KK Bx<|WS fun _ AC=>aY 1 U<|RK AC<|ai fun _ AQ=>WS fun _ A0=>aY 1 U<|rS (SX (cV U U) U U)<|aY 2 U<|rS (zB (aG.cells d.a2) 3 U cz U U U)<|df (xs:=[.tmp 35]) (cs:=(aG.cells d.a2)) U mg tJ U U U U (by simp [Value.cells,aG.aP]) U U fun Y=>rP 1 [] mn ?_
 refine RK A0<|ay ?_
 refine sH (es:=(List.map aG.cells [d.a2])) (C':=[(own (some ⟨Y,0,none⟩) 1 30 3 (List.map aG.cells [d.a2])),_,_,_,_,_]) 0 U (lX aG.aP _) U (by show 1≤maxLen; decide) U ?_
 refine yW (C':=[(oq (some ⟨Y,0,none⟩) 1 30 3 (List.map aG.cells [d.a2])),_,_,_,_,_]) 0 U yB U<|ep 3 1<|tD ?_
 have C:(eo m (fun k=>bH s k∧k<i))∧(lE d (bH s) (fun k=>bH s k∧k<i) ([d.a2]) ([]:List Int))∧(m.length+([d.a2]).length≤100):=by exact ⟨D,p6 fun k=>⟨fun q=>⟨q.1,I⟩,fun q=>⟨q.1,I⟩⟩,by have:=va D (n:=d.ae.length) (fun k q=>by omega); simp; omega⟩
 refine vJ (ι:={z:BM×(Nat→Prop)×(List Int)×(OA)×Nat×(List aG)×(OA)×Nat×(List Nat) // (eo z.1 z.2.1)∧(lE d (bH s) z.2.1 z.2.2.2.2.2.1 z.2.2.1)∧(z.1.length+z.2.2.2.2.2.1.length≤100)}) (fun z=>z.1.2.2.2.2.2.2.2.2.map gd) (fun z=>[(0,(vP gw)),(1,(vI (s:Int))),(5,(Value.map (some M))),(7,(vS z.1.2.2.2.1 z.1.2.2.1.length z.1.2.2.2.2.1)),(8,(vS z.1.2.2.2.2.2.2.1 z.1.2.2.2.2.2.1.length z.1.2.2.2.2.2.2.2.1))]) (fun z=>[(ei (z.1.2.2.2.2.2.2.2.2.map jB)),(own z.1.2.2.2.1 z.1.2.2.2.2.1 3 1 (z.1.2.2.1.map iC)),(oq z.1.2.2.2.2.2.2.1 z.1.2.2.2.2.2.2.2.1 30 3 (z.1.2.2.2.2.2.1.map aG.cells)),(rd kA d.ag.length 9 (d.ag.map aa.cells)).ro,(rd pA d.ae.length 7 (d.ae.map aV.cells)).ro,(rd nA d.aq.length 3 (d.aq.map bc.cells)).ro,(cv gw 76 (cd.cells (cd.mk (aZ.mk (ar.mk (bB.mk kA d.ag.length kC)) (bB.mk pA d.ae.length pC) (bB.mk nA d.aq.length nC) d.a2 d.a4) (bB.mk tA tN tC)))).ro,(lY iV M (dv vB z.1.1))]) (fun z=>z.1.1.length+z.1.2.2.2.2.2.1.length) ⟨(m,(fun k=>bH s k∧k<i),([]:List Int),none,0,[d.a2],(some ⟨Y,0,none⟩),1,([]:List Nat)),C⟩ U (a3 U) (aL [0,1,2,3,4,5,6,7]) ?_
 clear C
 rintro ⟨⟨m,L,l,a,c,tdq,qa,qc,N⟩,⟨H,B,AB⟩⟩ J19 o
 try dsimp only at H B AB
 try dsimp only
 refine ai fun _ A1=>WS fun _ A2=>rP 3 [] mn ?_
 refine RK A2<|bq U (aR fun T=>?_) (aS fun T=>?_)
 ·refine bk<|ab<|ab<|ax<|KK AQ<|WS fun _ BH=>rP 1 [] mn ?_
  refine iB 1 U U U U (wN l a c (by have:=o_ B; omega)) U jS U (fun srtd e=>?_)
  try dsimp only
  refine RK BH<|WS fun _ BJ=>rP 1 [] mn ?_
  have BP:srtd=(dI d (bH s)):=sn (by rw [show tdq=[] from e9 I] at B; exact B) e.1 e.2
  rw [BP]
  refine rP 1 [] mn ?_
  refine RK BJ<|an<|hQ _ _ _ (s9 0 U U<|fW (vs:=[(vS a l.length c)]) ⟨U,trivial⟩ fun w hs=>yx (a,c) [0] ?_ ?_ U U U hs)
  ·(rw [show (dI d (bH s)).length=l.length from by rw [← BP]; exact e.1.length_eq]; rfl)
  ·trivial
 refine WK A1<|ai fun _ A3=>ay<|ai fun _ A4=>?_
 obtain ⟨E,rest,rfl⟩: ∃ E rest,tdq=E::rest:=by cases tdq with |nil=>(simp at T)|cons x y=>exact ⟨x,y,rfl⟩
 have B7:=sV hok B (ez ..)
 refine aj<|AL U yG fun f=>RK A4<|ai fun _ A5=>WS fun _ A6=>rP 2 [] mn ?_
 have hs0m:((E::rest).map aG.cells)[0]? =some (aG.cells E):=rfl
 refine rS (IA 0 U (oH (n:=(E::rest).length) 3 U sm) mg dc U I)<|rS (mY 0 0 (aG.cells E) U cz (oH (n:=(E::rest).length) 3 U sm) hs0m U dc U U)<|rP 1 [] mn ?_
 refine cX (rU gw M E) (aw) U fun CC CF=>?_
 obtain ⟨AA,V,W⟩:=CC
 try dsimp only
 refine RK A6<|ay<|l5 7 U (by exact fun _ h=>h)<|l5 9 U (by exact fun _ h=>h)<|l5 11 U (by exact fun _ h=>h)<|l5 13 U (by exact fun _ h=>h)<|ep 3 1 ?_
 refine uK (L0:=[(0,(vP gw)),(1,(vI (s:Int))),(5,(Value.map (some M))),(7,(vS a l.length c)),(8,(vS qa ((E::rest).length) qc)),(9,(vP f))]) (F:=[(rd kA d.ag.length 9 (d.ag.map aa.cells)).ro,(rd pA d.ae.length 7 (d.ae.map aV.cells)).ro,(rd nA d.aq.length 3 (d.aq.map bc.cells)).ro,(cv gw 76 (cd.cells (cd.mk (aZ.mk (ar.mk (bB.mk kA d.ag.length kC)) (bB.mk pA d.ae.length pC) (bB.mk nA d.aq.length nC) d.a2 d.a4) (bB.mk tA tN tC)))).ro,(cv AA 71 [(vP gw)]),(lY iV M (dv vB m)),(cv V 121 [(Value.map (some M))]),(cv W 30 (aG.cells E))]) (fun k (y:(OA)×Nat)=>True) (fun k y=>[(own y.1 y.2 3 1 (k.map iC)),(cv f 43 [(vS y.1 k.length y.2)]),(ei (N.map jB)),(own a c 3 1 (l.map iC)),(oq qa qc 30 3 ((E::rest).map aG.cells)),(rd kA d.ag.length 9 (d.ag.map aa.cells)).ro,(rd pA d.ae.length 7 (d.ae.map aV.cells)).ro,(rd nA d.aq.length 3 (d.aq.map bc.cells)).ro,(cv gw 76 (cd.cells (cd.mk (aZ.mk (ar.mk (bB.mk kA d.ag.length kC)) (bB.mk pA d.ae.length pC) (bB.mk nA d.aq.length nC) d.a2 d.a4) (bB.mk tA tN tC)))).ro]) (fun _ (_:Unit)=>False) (fun _ _=>[]) [0,8,9,10,11,12,13,14,15] [4,3,2,1,5,16,6,7] (none,0) rfl rfl (vD d kA kC pA pC nA nC tA tN tC gw m L M E AA V W (by first|assumption|omega|(simp; done)) (by first|assumption|omega|(simp; done)) (by first|assumption|omega|(simp; done)) (by exact B7) (by exact H)) rfl rfl rfl (by first|trivial|simp) (by simp only [List.forall_mem_cons,List.not_mem_nil,false_imp_iff,implies_true,and_true]; exact ⟨⟨_,sm,(ff (cD _))⟩,⟨_,sm,(ff (cD _))⟩,⟨_,sm,(ff (cD _))⟩,⟨_,sm,(ff (cD _))⟩,⟨_,sm,(cD _)⟩,⟨_,sm,(cD _)⟩,⟨_,sm,(cD _)⟩,⟨_,sm,(cD _)⟩⟩) (by rintro k x k2 ⟨i,_,_,_,rfl,_⟩; rfl) rfl (a3 rfl) ?_ ?_ (fun _ _ _ h=>h.elim) (fun _ _ h=>h.elim)
 ·rintro k x k2 ⟨a1,c1⟩ l ra rb S w1 K32 Qr33 CX hx B2 A7 Z CB CD
  obtain ⟨i,hi,CV,BR,rfl,rfl⟩:=hx
  try dsimp only
  refine aj<|rP 1 [] mn ?_
  refine aB<|aU (A7 _ _ ?_)
  refine ay<|aj<|rP 2 [] (mc 2 U mn) ?_
  refine df (xs:=[.tmp 50]) (cs:=[(vI (i:Int))]) U cL gY U U U U (by simp [Value.cells]) U U fun CH=>?_
  refine dG (es2:=(List.map iC (k++[(i:Int)]))) (m':=(k++[(i:Int)]).length) 2 U U U mo U U sm (aK (es:=List.map iC [(i:Int)]) 0 U U (by simp [ba]) U) (gX _) (by rw [BR]; have:=dE (n:=i) (p:=eD d L E); omega) (by rw [BR]; have:=dE (n:=i) (p:=eD d L E); simp only [maxLen]; omega) sm sm U fun BT BW=>?_
  try dsimp only
  refine Bn U AI U U<|aB<|aF ?_
  exact Z (BT,BW) _ _ (by trivial) (aL [1,2,3,4,5,6,7,8,9,10])
 rintro CA k ⟨a1,c1⟩ K B3
 try dsimp only
 refine aF<|KK A5<|ai fun _ A8=>WS fun _ BB=>?_
 have B4:=dE (n:=d.ae.length) (p:=eD d L E)
 rw [show bZ d.ae.length (eD d L E)=k from K.symm] at B4
 have CO:=o_ B
 refine rP 3 [] (mc 10 U mn) ?_
 refine RK BB<|ay ?_
 rw [show E::rest=E::(rest++(k.take 0).map (er d)) from by simp]
 have C:(0≤k.length)∧(eo m (fun i=>L i∧(i:Int) ∉ k.take 0))∧(m.length+0=m.length):=by exact ⟨Nat.zero_le _,j9 H fun q=>by simp,rfl⟩
 have BN:(vS qa ((E::(rest++(k.take 0).map (er d))).length) qc)=(vS qa ((E::(rest++(k.take 0).map (er d))).length) qc):=by simp
 refine bu (ι:={z:Nat×BM×(OA)×Nat // (z.1≤k.length)∧(eo z.2.1 (fun i=>L i∧(i:Int) ∉ k.take z.1))∧(z.2.1.length+z.1=m.length)}) [0,1,5,7,9,53,54] [0,1,2,3,4,9,10,11,12,14,15,16,17] U U (fun z=>[(8,(vS z.1.2.2.1 ((E::(rest++(k.take z.1.1).map (er d))).length) z.1.2.2.2)),(55,(vI (z.1.1:Int)))]) (fun z=>[(lY iV M (dv vB z.1.2.1)),(oq z.1.2.2.1 z.1.2.2.2 30 3 (List.map aG.cells (E::(rest++(k.take z.1.1).map (er d)))))]) (fun _=>rfl) (fun _=>rfl) (fun z=>k.length-z.1.1) ⟨(0,m,qa,qc),C⟩ (aN U BN<|a3 U) (aL [0,1,2,3,4,9,10,11,12,14,15,16,17,6,13]) ?_
 clear C
 rintro ⟨⟨j,m2,q2,g⟩,⟨O,G,P⟩⟩ J43 r
 try dsimp only at O G P
 try dsimp only
 refine WS fun _ BC=>rP 1 [] mn ?_
 refine RK BC<|ai fun _ BD=>bq U (aR fun Bu=>?_) (aS fun Bu=>?_)
 ·refine bk<|ab<|ab<|ax<|KK A8<|aj<|rP 2 [] (mc 6 U mn) ?_
  refine dG (es2:=(List.map iC (l++k))) (m':=(l++k).length) 8 U U U mo U U sm (au (n:=k.length) 5 U sm) (gX _) I (by simp only [maxLen]; omega) sm sm U fun BV BY=>?_
  try dsimp only
  refine aY 1 U<|aB<|aF<|KK A3<|aj<|aY 1 U<|rS (Ba 1 U mg U sm)<|rP 1 [] mn ?_
  refine aB<|xx (X:=N.map jB) 7 0 U U ?_
  try dsimp only
  refine wc (A:=oq q2 g 30 3 (aG.cells E::List.map aG.cells (rest++(k.take j).map (er d)))) (C':=[_,_,_,_,_,_,_,_,_,_,_,_,_,(oq (jC q2 g 1 3) (g-1) 30 3 (List.map aG.cells (rest++(k.take j).map (er d))))]) 13 U vE U ?_
  refine aU (o ⟨(m2,(fun i=>L i∧(i:Int) ∉ k.take j),(l++k),BV,BY,(rest++(k.take j).map (er d)),(jC q2 g 1 3),(g-1),(CA::N)),⟨G,by rw [show k.take j=k from List.take_of_length_le I]; rw [show k=iQ d L E from K]; exact sR B (fun q=>Iff.rfl),by have h1:=AB; simp only [List.length_cons,List.length_append,List.length_map,List.length_take] at h1 ⊢; omega⟩⟩ _ _ _ U (by simp only [List.length_cons,List.length_append,List.length_map,List.length_take]; omega) (a3 U) (aL [0,7,13,1,2,3,4,12]))
 refine WK BD<|ai fun _ BE=>ay<|WS fun _ BF=>?_
 obtain ⟨x,hx⟩:=bh k j I
 have B8:=bG iC hx
 refine rS (IA j U (au (n:=k.length) 5 U sm) cL dc I I)<|rS (g5 j 0 (vI x) U cz (au (n:=k.length) 5 U sm) B8 U dc U)<|rP 1 [] mn ?_
 refine RK BF<|WS fun _ BG=>?_
 obtain ⟨i,BQ,CN,B1,p0,CS,CM⟩:=eU.1 (show x∈bZ d.ae.length (eD d L E) from by have e0:k=bZ d.ae.length (eD d L E):=K; rw [← e0]; exact aI hx)
 have CW:rest.length≤100:=by have h1:=AB; simp only [List.length_cons] at h1; omega
 refine aY 2 U<|pV (kV:=iV) (x:=x) (C':=[_,_,_,_,_,_,_,_,_,_,_,_,_,(lY iV M (dv vB (dJ m2 x))),_]) 13 U U U U uC (g9 mZ) U (l_ _ _ _).symm U<|RK BG<|aj<|aY 2 U<|rS (SX (cV U U) U U)<|rP 4 [] (mr 4 U mn) ?_
 obtain ⟨p,hp⟩:=bh d.ae ((x).toNat) I
 have B5:=bG aV.cells hp
 refine rS (IA ((x).toNat) U (aO 2 U) m1 dc I I)<|rS (pB ((((x).toNat)*7)+2) U (aO 2 U) (Nat.mul_pos I dc) fZ U)<|rS (mY ((x).toNat) 2 (aG.cells p.cp) U cz (aO 2 U) B5 U dc U U)<|df (xs:=[.tmp 70]) (cs:=(aG.cells p.cp)) U mg tJ U U U U (by simp [Value.cells,aG.aP]) U U fun CI=>?_
 refine sf (es2:=(List.map aG.cells (E::(rest++(k.take (j+1)).map (er d))))) (m':=(E::(rest++(k.take (j+1)).map (er d))).length) 15 U U U yo U U sm (aK (es:=List.map aG.cells [p.cp]) 0 U U (by simp [aG.aP]) U) (lM _) dc (by simp; omega) (by simp [maxLen]; omega) (by rw [m4 hx hp]; simp) sm U fun BU BX=>?_
 try dsimp only
 refine aY 1 U<|aB<|aF<|KK BE<|aj<|rP 2 [] mn ?_
 refine aB ?_
 have BO:(vI (((j+1):Nat):Int))=(vI ((j:Int)+1)):=by exact cI I
 refine aU (r ⟨((j+1),(dJ m2 x),BU,BX),⟨I,tF G hx BQ,by have:=py G (show k.Nodup from by have e0:k=iQ d L E:=K; rw [e0]; exact pQ) hx BQ B1; dsimp only; omega⟩⟩ _ _ _ U os (bL 8<|aN U BO<|cE.nil _) (aL [1,2,3,4,5,6,7,8,9,10,11,12,13,14,15]))
end
section
open Go.RowKit
theorem uq (x:Int) (d:ak) (kA:OA) (kC:Nat) (pA:OA) (pC:Nat) (nA:OA) (nC:Nat) (tz:List RA) (tA:OA) (tC gw:Nat) (n:bc) (g1 g2:Nat) (hin:cJ d) (htr:a_ d.ag=true) (hok:dO d) (htz:tz.length=d.ae.length) (hn:bx d.ag n) (hx:0≤x∧x<(d.ae.length:Int)):
 dx Tryz.prog 68 [(vI x),(vP g1),(vP g2)] [(rd kA d.ag.length 9 (d.ag.map aa.cells)),(rd pA d.ae.length 7 (d.ae.map aV.cells)),(rd nA d.aq.length 3 (d.aq.map bc.cells)),(rd tA ((bj d).length) 1 (List.zipWith jF (bj d) tz)),(m7 (ga ku (bj d) tz)),(cv gw 76 (cd.cells (cd.mk (aZ.mk (ar.mk (bB.mk kA d.ag.length kC)) (bB.mk pA d.ae.length pC) (bB.mk nA d.aq.length nC) d.a2 d.a4) (bB.mk tA ((bj d).length) tC)))),(cv g1 71 [(vP gw)]),(cv g2 82 (bc.cells n))] (vB (!(decide (hH d n x)))):=by
 have O:=hin.k3
 have M:=hin.side
 have AA:=hin.kb
 have S:=hin.kG
 have R:=hin.nk
 have T:=hin.pk
 unfold bx at hn
 have V:=dD (d:=d)
 refine bD kr Tryz.func68 U U fun W Q hQ hN=>?_
 try dsimp only
 refine WS fun _ K=>aY 1 U<|RK K<|ai fun _ H=>eA dw 29 kr<|kX 1 [] (mr 6 U mn) U<|dS (SX (cV U U) U U)<|dP 4 [] (mr 5 U mn) ?_
 obtain ⟨p,hp⟩:=bh d.ae ((x).toNat) I
 have L:=bG aV.cells hp
 refine dS (IA ((x).toNat) U (aO 1 U) m1 dc I I)<|dS (pB ((((x).toNat)*7)+1) U (aO 1 U) (Nat.mul_pos I dc) fZ U)<|dS (g5 ((x).toNat) 1 (Value.int .u8 p.Kind) U cz (aO 1 U) L U dc U)<|kX 2 [] (mr 7 U mn) U<|dS (BI U eY)<|dP 1 [] mn ?_
 refine dU (t:=17) U (aX fun A=>?_) (aW fun A=>?_)
 ·refine gf 6 U<|dP 10 [] mn ?_
  refine cR<|RK H<|an<|Q1 hQ U U U ?_
  first|(refine congrArg Value.bool ?_; rw [decide_eq_false (fun q=>by have N:=(jq hp).1 q; first|omega|exact A N.1)]; rfl)|(refine congrArg Value.bool ?_; have F:tm=eV d.ag p n.ao:=(by rw [E] at C; have G:=gp C; rw [Int.toNat_of_nonneg hn.1.1] at G; exact G); rw [show decide (hH d n x)=decide (tm≤n.e8) from decide_eq_decide.2 (by rw [jq hp,F]; exact ⟨fun q=>q.2,fun q=>⟨I,q⟩⟩)]; rw [← decide_not]; exact decide_eq_decide.2 I)
 refine kX 1 [] (mr 6 U mn) U<|dS (SX (cV U U) U U)<|dP 3 [] (mr 5 U mn) ?_
 obtain ⟨ms,D⟩:=bh (bj d) ((x).toNat) I
 obtain ⟨msa,B⟩:=bh tz ((x).toNat) I
 have AB:(List.zipWith jF (bj d) tz)[(x).toNat]? =some (jF ms msa):=qU D B
 refine dS (IA ((x).toNat) U (aO 3 U) w4 dc I I) ?_
 have E:=nG hp D
 have P:ms.length=d.ag.length:=by rw [E]; exact fI
 refine dS (g5 ((x).toNat) 0 (vS msa.1 ms.length msa.2) U cz (aO 3 U) AB U dc U)<|dP 2 [] (mr 7 U mn) ?_
 obtain ⟨tm,C⟩:=bh ms ((n.ao).toNat) I
 have J:=bG iC C
 refine dS (IA ((n.ao).toNat) U (show j3 _ (rd msa.1 ms.length 1 (ms.map iC)).holds from (rf 4 U (g_ D B (by simp [ku])))) cL dc I I)<|dS (g5 ((n.ao).toNat) 0 (vI tm) U cz (show j3 _ (rd msa.1 ms.length 1 (ms.map iC)).holds from (rf 4 U (g_ D B (by simp [ku])))) J U dc U)<|dP 5 [] (mr 7 U mn) ?_
 refine cR<|RK H<|an<|Q1 hQ U U U ?_
 first|(refine congrArg Value.bool ?_; rw [decide_eq_false (fun q=>by have N:=(jq hp).1 q; first|omega|exact A N.1)]; rfl)|(refine congrArg Value.bool ?_; have F:tm=eV d.ag p n.ao:=(by rw [E] at C; have G:=gp C; rw [Int.toNat_of_nonneg hn.1.1] at G; exact G); rw [show decide (hH d n x)=decide (tm≤n.e8) from decide_eq_decide.2 (by rw [jq hp,F]; exact ⟨fun q=>q.2,fun q=>⟨I,q⟩⟩)]; rw [← decide_not]; exact decide_eq_decide.2 I)
theorem u3 (l:List Int) (lA:OA) (lC:Nat) (hlen:l.length≤1000000):
 jH Tryz.prog 67 [(vS lA l.length lC)] [(rd lA l.length 1 (l.map iC))] (fun (x:(OA)×Nat)=>(vS x.1 l.length x.2)) (fun (x:(OA)×Nat)=>True) (fun (x:(OA)×Nat)=>[(own x.1 x.2 3 1 (l.map iC))]):=by
 refine dh kr Tryz.func67 U U fun L Q hQ hN=>?_
 try dsimp only
 refine WS fun _ D=>aY 1 U<|RK D<|ai fun _ E=>WS fun _ F=>rP 1 [] mn ?_
 refine rS (BI U (uD zJ))<|RK F<|cG U (aS fun B=>?_) (aR fun B=>?_)
 ·refine WS fun _ G=>oV (aO 0 U) B dc fun C=>?_
  have A:l=[]:=by simpa using C
  refine ea 3 1 ?_
  rw [show (own none 0 3 1 ([]:List (List Value)))=own none 0 3 1 (l.map iC) from by rw [A]; rfl]
  refine rP 1 [] mn ?_
  refine RK G<|an ?_
  refine LX hQ (none,0) [0] [] mn U U U ?_ ?_
  ·first|rfl|(rw [A]; rfl)
  ·trivial
 refine WK E<|WS fun _ H=>ou U cL U fun J=>rP 1 [] mn ?_
 refine eI (es:=(List.map iC [])) (C':=[own (some ⟨J,0,none⟩) 0 3 1 (List.map iC []),_]) 0 U sm U (by simp [maxLen]) U ?_
 refine dG (es2:=(List.map iC l)) (m':=l.length) 0 U U U mo U U sm (aO 1 U) (gX _) os (by (simp only [maxLen]; omega)) sm sm U fun AA K=>?_
 try dsimp only
 refine rP 1 [] mn ?_
 refine RK H<|an ?_
 refine LX hQ (AA,K) [0] [] mn U U U ?_ ?_
 ·first|rfl|(rw [A]; rfl)
 ·trivial
theorem sy (l:List Int) (lA:OA) (lC:Nat) (f:Value) (p:Int→Bool) (X:ah) (hf: ∀ x0,x0∈l→uU Tryz.prog f [.int .i64 x0] [X] (.bool (p x0))) (hlen:l.length≤1000000):
 uS Tryz.prog 66 [(vS lA l.length lC),f] [X] (own lA lC 3 1 (l.map iC)) (fun (x:(List Int))=>(vS lA x.length lC)) (fun (x:(List Int))=>x=(l.filter fun u=> !p u)) (fun (x:(List Int))=>(own lA lC 3 1 (x.map iC))):=by
 refine k5 kr Tryz.func66 U U fun w0 Q hQ hN=>?_
 try dsimp only
 refine WS fun _ b=>aY 1 U<|RK b<|WS fun _ c=>aY 2 U<|rS (CL (rr l lA lC f p X (by exact hf) hlen) (av (au (n:=l.length) 0 U sm)<|eB 1 U U<|aw) U)<|aY 1 U<|RK c<|ai fun _ d=>WS fun _ e=>rP 2 [] mn ?_
 refine RK e<|cG U (aS fun E=>?_) (aR fun E=>?_)
 ·refine WS fun _ g=>?_
  have AB:=te E
  refine rP 2 [] mn ?_
  refine RK g<|an ?_
  refine LM hQ l 0 [] mn U U U ?_ ?_
  ·first|rfl|(rw [C.2]<;>rfl)
  ·first|rfl|exact AB
 refine WK d<|ai fun _ h=>WS fun _ m=>?_
 obtain ⟨AC,t⟩:=se (p:=p) (l:=l) E
 refine rP 3 [] mn ?_
 refine RK m<|ay ?_
 have F:(((dz p l).toNat)≤((dz p l).toNat+1)∧((dz p l).toNat+1)≤l.length)∧(lf p l l ((dz p l).toNat) ((dz p l).toNat+1)):=by exact ⟨I,t⟩
 have r:(vI ((((dz p l).toNat):Nat):Int))=(vI (dz p l)):=by exact cI I
 have s:(vI ((((dz p l).toNat+1):Nat):Int))=(vI ((dz p l)+1)):=by exact cI I
 refine bu (ι:={z:Nat×Nat×(List Int) // (z.1≤z.2.1∧z.2.1≤l.length)∧(lf p l z.2.2 z.1 z.2.1)}) [0,1] [1] U U (fun z=>[(5,(vI (z.1.1:Int))),(6,(vI (z.1.2.1:Int)))]) (fun z=>[(own lA lC 3 1 (z.1.2.2.map iC))]) (fun _=>rfl) (fun _=>rfl) (fun z=>l.length-z.1.2.1) ⟨((dz p l).toNat,((dz p l).toNat+1),l),F⟩ (aN U r<|aN U s<|cE.nil _) (aL [1,0]) ?_
 clear F
 rintro ⟨⟨i,j,q⟩,⟨K,A⟩⟩ J10 G
 try dsimp only at K A
 try dsimp only
 have D:=A.len
 refine ai fun _ M=>WS fun _ N=>rP 4 [] mn ?_
 refine RK N<|bq U (aR fun Z=>?_) (aS fun Z=>?_)
 ·refine bk<|ab<|ab<|ax<|KK h<|WS fun _ S=>?_
  have D:=A.len
  have C:=A.done I
  refine rP 2 [] mn ?_
  refine rS (Ba i U cL I os) ?_
  refine vb (k:=i) 1 rfl rfl mo (by intro v hv; simp [Value.cells] at hv; subst hv; rfl) rfl (by simp [D]) I ?_
  try dsimp only
  rw [show (own lA lC 3 1 ((q.map iC).take i))=(own lA lC 3 1 ((l.filter fun u=> !p u).map iC)) from by rw [← C.1,List.map_take]]
  refine RK S<|WS fun _ T=>rP 2 [] mn ?_
  refine xB 1 U fun J=>?_
  have AQ:i≤lC:=by rw [List.length_map,C.2] at J; exact J
  refine rS (Bk i U cL I (by first|omega|exact Nat.zero_le _|(simp; omega))) ?_
  refine rP 1 [] mn ?_
  refine RK T<|an ?_
  refine LM hQ (l.filter fun u=> !p u) 1 [] mn U U U ?_ ?_
  ·first|rfl|(rw [C.2]<;>rfl)
  ·first|rfl|exact AB
 refine WK M<|ai fun _ H=>ay<|WS fun _ O=>rP 2 [] mn ?_
 obtain ⟨y,hy⟩:=bh q j I
 have L:=bG iC hy
 refine rS (IA j U (au (n:=l.length) 1 U sq) cL dc I I) ?_
 refine rS (g5 j 0 (vI y) U cz (au (n:=q.length) 1 U sm) L U dc U)<|aY 1 U<|RK O<|WS fun _ P=>rP 2 [] mn ?_
 have L:y∈l:=A.mem hy
 refine rS (SX (jd U U U (hf y L) (bg [0])) U U)<|rP 1 [] mn ?_
 refine RK P<|bq U (fun B=>?_) (fun B=>?_)
 ·rw [Bool.not_eq_false'] at B
  refine cg<|aF<|KK H<|aj<|rP 3 [] mn ?_
  refine aB ?_
  have W:(vI (i:Int))=(vI (i:Int)):=by exact cI I
  have Y:(vI (((j+1):Nat):Int))=(vI ((j:Int)+1)):=by exact cI I
  refine aU (G ⟨(i,(j+1),q),⟨dso,by first|exact A.h_ D I hy B|exact A.skip D hy B⟩⟩ _ _ _ U os (cE.cons U<|cE.cons U<|aN U W<|aN U Y<|cE.nil _) (aL [0,1]))
 rw [Bool.not_eq_true'] at B
 refine WS fun _ R=>rP 3 [] mn ?_
 obtain ⟨z,hz⟩:=bh q i I
 have w:=bG iC hz
 refine rS (IA i U (au (n:=l.length) 1 U sq) cL dc I I) ?_
 refine cw (k:=i) (o:=0) (vs:=[(vI y)]) (es':=(List.map iC (q.set i y))) (C':=[_,(own lA lC 3 1 (List.map iC (q.set i y)))]) 1 U U U qh U U U U w U dc (by exact (List.map_set (f:=iC) (l:=q) (i:=i) (a:=y)).symm) U<|RK R<|aj<|aY 3 U<|aB<|aF<|KK H<|aj<|rP 3 [] mn ?_
 refine aB ?_
 have AA:(vI (((i+1):Nat):Int))=(vI ((i:Int)+1)):=by exact cI I
 have V:(vI (((j+1):Nat):Int))=(vI ((j:Int)+1)):=by exact cI I
 refine aU (G ⟨((i+1),(j+1),(q.set i y)),⟨dso,by first|exact A.h_ D I hy B|exact A.skip D hy B⟩⟩ _ _ _ U os (cE.cons U<|cE.cons U<|aN U AA<|aN U V<|cE.nil _) (aL [0,1]))
end
section
open Go.RowKit
theorem pg (d:ak) (kA:OA) (kC:Nat) (pA:OA) (pC:Nat) (nA:OA) (nC:Nat) (tz:List RA) (tA:OA) (tC gw:Nat) (n:bc) (cl:List Int) (clA:OA) (clC:Nat) (hin:cJ d) (htr:a_ d.ag=true) (hok:dO d) (htz:tz.length=d.ae.length) (hn:bx d.ag n) (hc: ∀ x∈cl,0≤x∧x<(d.ae.length:Int)) (hcl:cl.length≤1000000):
 jH Tryz.prog 36 [(vP gw),(vA (bc.cells n)),(vS clA cl.length clC)] [(rd kA d.ag.length 9 (d.ag.map aa.cells)),(rd pA d.ae.length 7 (d.ae.map aV.cells)),(rd nA d.aq.length 3 (d.aq.map bc.cells)),(rd tA ((bj d).length) 1 (List.zipWith jF (bj d) tz)),(m7 (ga ku (bj d) tz)),(cv gw 76 (cd.cells (cd.mk (aZ.mk (ar.mk (bB.mk kA d.ag.length kC)) (bB.mk pA d.ae.length pC) (bB.mk nA d.aq.length nC) d.a2 d.a4) (bB.mk tA ((bj d).length) tC)))),(rd clA cl.length 1 (cl.map iC))] (fun (x:(OA)×Nat)=>(vS x.1 ((cl.filter fun x=>decide (hH d n x)).length) x.2)) (fun (x:(OA)×Nat)=>True) (fun (x:(OA)×Nat)=>[(own x.1 x.2 3 1 ((cl.filter fun x=>decide (hH d n x)).map iC))]):=by
 have L:=hin.k3
 have H:=hin.side
 have P:=hin.kb
 have N:=hin.kG
 have M:=hin.nk
 have O:=hin.pk
 refine dh kr Tryz.func36 U U fun T Q hQ hN=>?_
 try dsimp only
 refine WS fun _ D=>sT U U fun B=>fN U fun C=>aY 1 U<|RK D<|WS fun _ E=>rP 1 [] mn ?_
 refine cX (u3 cl clA clC (by exact hcl)) (bg [8]) U fun S R=>?_
 obtain ⟨J,K⟩:=S
 try dsimp only
 refine rS (FU U) ?_
 refine iB 0 U U U U (so (sy cl J K (Value.func (.func 68) [].toArray [(vP B),(vP C)].toArray) (fun AA=>(!(decide (hH d n AA)))) (m7 [(rd kA d.ag.length 9 (d.ag.map aa.cells)),(rd pA d.ae.length 7 (d.ae.map aV.cells)),(rd nA d.aq.length 3 (d.aq.map bc.cells)),(rd tA ((bj d).length) 1 (List.zipWith jF (bj d) tz)),(m7 (ga ku (bj d) tz)),(cv gw 76 (cd.cells (cd.mk (aZ.mk (ar.mk (bB.mk kA d.ag.length kC)) (bB.mk pA d.ae.length pC) (bB.mk nA d.aq.length nC) d.a2 d.a4) (bB.mk tA ((bj d).length) tC)))),(cv B 71 [(vP gw)]),(cv C 82 (bc.cells n))]) (by intro AA A; exact jY (fi:=[]) (ca:=[(vP B),(vP C)]) (iy (uq AA d kA kC pA pC nA nC tz tA tC gw n B C (by first|assumption|exact hc _ A|omega) (by first|assumption|exact hc _ A|omega) (by first|assumption|exact hc _ A|omega) (by first|assumption|exact hc _ A|omega) (by first|assumption|exact hc _ A|omega) (by first|assumption|exact hc _ A|omega)) (bg [0,1,2,3,4,5,6,7]))) I)) U (fO 3 U U (ff (cD _)) (fO 4 U U (ff (cD _)) (fO 5 U U (ff (cD _)) (fO 6 U U (ff (cD _)) (fO 7 U U (ff (cD _)) (fO 8 U U (ff (cD _)) (fO 2 U U (cD _) (fO 1 U U (cD _) jS)))))))) U (fun mm F=>?_)
 try dsimp only
 have G:mm=(cl.filter fun x=>decide (hH d n x)):=by rw [F]; simp only [Bool.not_not]
 rw [G]
 refine rP 1 [] mn ?_
 refine RK E<|an<|LX hQ (J,K) [0] [] mn U U U U ?_
 trivial
end
section
open Go.RowKit
theorem ky (d:ak) (kA:OA) (kC:Nat) (pA:OA) (pC:Nat) (nA:OA) (nC:Nat) (tz:List RA) (tA:OA) (tC gw s:Nat) (hin:cJ d) (htr:a_ d.ag=true) (hok:dO d) (htz:tz.length=d.ae.length) (hsb:s<256):
 jH Tryz.prog 34 [(vP gw),(vI (s:Int))] [(rd kA d.ag.length 9 (d.ag.map aa.cells)),(rd pA d.ae.length 7 (d.ae.map aV.cells)),(rd nA d.aq.length 3 (d.aq.map bc.cells)),(rd tA ((bj d).length) 1 (List.zipWith jF (bj d) tz)),(m7 (ga ku (bj d) tz)),(cv gw 76 (cd.cells (cd.mk (aZ.mk (ar.mk (bB.mk kA d.ag.length kC)) (bB.mk pA d.ae.length pC) (bB.mk nA d.aq.length nC) d.a2 d.a4) (bB.mk tA ((bj d).length) tC))))] (fun (x:(OA)×Nat)=>(vS x.1 ((cq d (bH s)).length) x.2)) (fun (x:(OA)×Nat)=>True) (fun (x:(OA)×Nat)=>[(own x.1 x.2 3 1 ((cq d (bH s)).map iC))]):=by
 have c:=hin.k3
 have a:=hin.side
 have v:=hin.kb
 have t:=hin.kG
 have r:=hin.nk
 have u:=hin.pk
 have o:=hok.len
 refine dh kr Tryz.func34 U U fun w0 Q hQ hN=>?_
 try dsimp only
 refine WS fun _ T=>aY 1 U<|RK T<|rL U<|WS fun _ AA=>rP 2 [] mn ?_
 refine cX (lg d kA kC pA pC nA nC tA ((bj d).length) tC gw s hin htr hok hsb) (bg [0,1,2,5]) U fun y w=>?_
 obtain ⟨g,l⟩:=y
 try dsimp only
 refine aY 1 U<|RK AA<|WS fun _ V=>aY 1 U<|RK V<|ai fun _ W=>rC<|KK W<|ai fun _ X=>WS fun _ F=>aY 1 U<|rS (SX (cV U U) U U)<|rP 5 [] (mr 6 U mn) ?_
 refine RK F<|ay<|ep 3 1 ?_
 have B:(0≤d.aq.length):=by exact Nat.zero_le _
 refine bu (ι:={z:Nat×(OA)×Nat // (z.1≤d.aq.length)}) [0,1,5,16,17] [1,2,3,4,5,6,7] U U (fun z=>[(6,(vS z.1.2.1 ((bZ z.1.1 (gu d (bH s))).length) z.1.2.2)),(18,(vI (z.1.1:Int)))]) (fun z=>[(own z.1.2.1 z.1.2.2 3 1 ((bZ z.1.1 (gu d (bH s))).map iC))]) (fun _=>rfl) (fun _=>rfl) (fun z=>d.aq.length-z.1.1) ⟨(0,none,0),B⟩ (a3 U) (aL [1,2,3,4,5,6,7,0]) ?_
 clear B
 rintro ⟨⟨j,la,lc⟩,E⟩ J11 C
 try dsimp only at E
 try dsimp only
 refine WS fun _ G=>rP 1 [] mn ?_
 refine RK G<|ai fun _ H=>bq U (aR fun S=>?_) (aS fun S=>?_)
 ·refine bk<|ab<|ab<|ax<|KK X<|WS fun _ L=>?_
  rw [show bZ j (gu d (bH s))=cq d (bH s) from by unfold cq; rw [show j=d.aq.length by omega]]
  refine rP 2 [] mn ?_
  refine RK L<|an<|LX hQ (la,lc) [7] [] mn U U U U ?_
  trivial
 refine WK H<|ai fun _ D=>ay<|WS fun _ AB=>rP 1 [] mn ?_
 obtain ⟨n,hn⟩:=bh d.aq j I
 have Y:=bG bc.cells hn
 refine rS (IA j U (aO 3 U) sN dc I I)<|rS (mY j 0 (bc.cells n) U cz (aO 3 U) Y U dc U U)<|AL U xP fun h=>rP 1 [] mn ?_
 refine gG U yJ U<|RK AB<|ai fun _ J=>WS fun _ K=>?_
 have Z:=hok.eQ n (aI hn)
 refine rP 3 [] (mc 0 U mn) ?_
 refine cX (pg d kA kC pA pC nA nC tz tA tC gw n (dI d (bH s)) g l hin htr hok htz (by exact Z) (by exact mI) (by exact Nat.le_trans mK I)) (fG [2,3,4,5,6,7]<|av (au (n:=(dI d (bH s)).length) 1 U sm)<|aw) U fun b e=>?_
 obtain ⟨f,k⟩:=b
 try dsimp only
 rw [kv]
 refine rP 2 [] mn ?_
 refine RK K<|cG U (aS fun A=>?_) (aR fun A=>?_)
 ·refine bk<|ab<|ax<|KK D<|aj<|rP 2 [] mn ?_
  refine aB ?_
  rw [show (bZ j (gu d (bH s)))=(bZ (j+1) (gu d (bH s))) from (fP (fun q=>by obtain ⟨n2,O,m⟩:=q; rw [hn] at O; cases O; rw [m] at A; simp at A)).symm]
  have M:(vI (((j+1):Nat):Int))=(vI ((j:Int)+1)):=by exact cI I
  refine aU (C ⟨((j+1),la,lc),(by first|omega|(simp only []; omega))⟩ _ _ _ U os (bL 6<|aN U M<|cE.nil _) (aL [2,3,4,5,6,7,8,9]))
 refine WK J<|aj<|rP 2 [] mn ?_
 refine df (xs:=[.tmp 30]) (cs:=[(vI (j:Int))]) U cL gY U U U U (by simp [Value.cells]) U U fun i=>?_
 refine dG (es2:=(List.map iC (bZ (j+1) (gu d (bH s))))) (m':=(bZ (j+1) (gu d (bH s))).length) 10 U U U mo U U sm (aK (es:=List.map iC [(j:Int)]) 0 U U (by simp [ba]) U) (gX _) (by have:=dE (n:=j) (p:=gu d (bH s)); omega) (by have:=dE (n:=j) (p:=gu d (bH s)); simp only [maxLen]; omega) (by rw [fm (p:=gu d (bH s)) ⟨n,hn,e9 I⟩]; simp) sm U fun P R=>?_
 try dsimp only
 refine aY 1 U<|aB<|aF<|KK D<|aj<|rP 2 [] mn ?_
 refine aB ?_
 have N:(vI (((j+1):Nat):Int))=(vI ((j:Int)+1)):=by exact cI I
 refine aU (C ⟨((j+1),P,R),(by first|omega|(simp only []; omega))⟩ _ _ _ U os (bL 6<|aN U N<|cE.nil _) (aL [3,4,5,6,7,8,9,10]))
theorem qS (d:ak) (kA:OA) (kC:Nat) (pA:OA) (pC:Nat) (nA:OA) (nC:Nat) (tz:List RA) (tA:OA) (tC gw s:Nat) (hin:cJ d) (htr:a_ d.ag=true) (hok:dO d) (htz:tz.length=d.ae.length) (hsb:s<256):
 jH Tryz.prog 39 [(vP gw),(vI (s:Int))] [(rd kA d.ag.length 9 (d.ag.map aa.cells)),(rd pA d.ae.length 7 (d.ae.map aV.cells)),(rd nA d.aq.length 3 (d.aq.map bc.cells)),(rd tA ((bj d).length) 1 (List.zipWith jF (bj d) tz)),(m7 (ga ku (bj d) tz)),(cv gw 76 (cd.cells (cd.mk (aZ.mk (ar.mk (bB.mk kA d.ag.length kC)) (bB.mk pA d.ae.length pC) (bB.mk nA d.aq.length nC) d.a2 d.a4) (bB.mk tA ((bj d).length) tC))))] (fun (x:(OA)×Nat)=>(vS x.1 ((iK d (bH s)).length) x.2)) (fun (x:(OA)×Nat)=>True) (fun (x:(OA)×Nat)=>[(own x.1 x.2 3 1 ((iK d (bH s)).map iC))]):=by
 have Y:=hin.k3
 have W:=hin.side
 have v:=hin.kb
 have l:=hin.kG
 have h:=hin.nk
 have u:=hin.pk
 have g:=hok.len
 refine dh kr Tryz.func39 U U fun w Q hQ hN=>?_
 try dsimp only
 refine WS fun _ P=>aY 1 U<|RK P<|WS fun _ R=>aY 1 U<|RK R<|ai fun _ S=>WS fun _ T=>aY 1 U<|rS (SX (cV U U) U U)<|rP 5 [] (mr 5 U mn) ?_
 refine RK T<|ay<|ep 3 1 ?_
 have C:(0≤d.ae.length):=by exact Nat.zero_le _
 refine bu (ι:={z:Nat×(OA)×Nat // (z.1≤d.ae.length)}) [0,1,11,12] [1,2,3,4,5,6] U U (fun z=>[(5,(vS z.1.2.1 ((bZ z.1.1 (fun i=>bH s i∧cq d (cW (bH s) i)≠[])).length) z.1.2.2)),(13,(vI (z.1.1:Int)))]) (fun z=>[(own z.1.2.1 z.1.2.2 3 1 ((bZ z.1.1 (fun i=>bH s i∧cq d (cW (bH s) i)≠[])).map iC))]) (fun _=>rfl) (fun _=>rfl) (fun z=>d.ae.length-z.1.1) ⟨(0,none,0),C⟩ (a3 U) (aL [1,2,3,4,5,6,0]) ?_
 clear C
 rintro ⟨⟨j,la,lc⟩,G⟩ J5 E
 try dsimp only at G
 try dsimp only
 refine WS fun _ AA=>rP 1 [] mn ?_
 refine RK AA<|ai fun _ V=>bq U (aR fun e=>?_) (aS fun e=>?_)
 ·refine bk<|ab<|ab<|ax<|KK S<|WS fun _ J=>?_
  rw [show bZ j (fun i=>bH s i∧cq d (cW (bH s) i)≠[])=iK d (bH s) from by unfold iK; rw [show j=d.ae.length by omega]]
  refine rP 2 [] mn ?_
  refine RK J<|an<|LX hQ (la,lc) [6] [] mn U U U U ?_
  trivial
 refine WK V<|ai fun _ F=>ay<|WS fun _ AB=>aY 2 U<|RK AB<|WS fun _ D=>rP 2 [] mn ?_
 refine rS (BI U (qb (i:=j) I I)) ?_
 refine rS (BI U (qy (m:=(s/2^j)) I (Nat.lt_of_le_of_lt (Nat.div_le_self _ _) I)))<|rP 2 [] mn ?_
 refine cK (t:=21) U (aR fun A=>?_) (aS fun A=>?_)
 ·refine aY 3 U<|aY 1 U<|aY 5 U<|RK D<|bp U<|cg<|aF<|KK F<|aj<|rP 2 [] mn ?_
  refine aB ?_
  rw [show (bZ j (fun i=>bH s i∧cq d (cW (bH s) i)≠[]))=(bZ (j+1) (fun i=>bH s i∧cq d (cW (bH s) i)≠[])) from (fP (show ¬ (bH s j∧cq d (cW (bH s) j)≠[]) from fun q=>by first|exact A (gj.2 q.1)|exact q.2 (by rw [← H]; exact e9 I))).symm]
  have M:(vI (((j+1):Nat):Int))=(vI ((j:Int)+1)):=by exact cI I
  refine aU (E ⟨((j+1),la,lc),(by first|omega|(simp only []; omega))⟩ _ _ _ U os (bL 5<|aN U M<|cE.nil _) (aL [0,1,2,3,4,5,6]))
 refine rP 3 [] mn ?_
 have o:=iu (n:=j) I
 refine rS (BI U (oc (i:=j) I I)) ?_
 have f:hU s j<256:=Nat.lt_of_le_of_lt p9 hsb
 have H:cq d (bH (hU s j))=cq d (cW (bH s) j):=fg fun k hk=>AR hsb I I
 have r:2^j≤256:=(iu I).2
 refine rS (BI U (oG (s:=s) (i:=j) I U I I)) ?_
 refine cX (ky d kA kC pA pC nA nC tz tA tC gw (hU s j) hin htr hok htz sd) (bg [0,1,2,3,4,5]) U fun X Z=>?_
 obtain ⟨a,c⟩:=X
 try dsimp only
 refine rP 3 [] mn ?_
 refine RK D<|bq U (aR fun B=>?_) (aS fun B=>?_)
 ·refine cg<|aF<|KK F<|aj<|rP 2 [] mn ?_
  refine aB ?_
  rw [show (bZ j (fun i=>bH s i∧cq d (cW (bH s) i)≠[]))=(bZ (j+1) (fun i=>bH s i∧cq d (cW (bH s) i)≠[])) from (fP (show ¬ (bH s j∧cq d (cW (bH s) j)≠[]) from fun q=>by first|exact A (gj.2 q.1)|exact q.2 (by rw [← H]; exact e9 I))).symm]
  have L:(vI (((j+1):Nat):Int))=(vI ((j:Int)+1)):=by exact cI I
  refine aU (E ⟨((j+1),la,lc),(by first|omega|(simp only []; omega))⟩ _ _ _ U os (bL 5<|aN U L<|cE.nil _) (aL [1,2,3,4,5,6,7]))
 refine aj<|rP 2 [] mn ?_
 refine df (xs:=[.tmp 32]) (cs:=[(vI (j:Int))]) U cL gY U U U U (by simp [Value.cells]) U U fun b=>?_
 refine dG (es2:=(List.map iC (bZ (j+1) (fun i=>bH s i∧cq d (cW (bH s) i)≠[])))) (m':=(bZ (j+1) (fun i=>bH s i∧cq d (cW (bH s) i)≠[])).length) 8 U U U mo U U sm (aK (es:=List.map iC [(j:Int)]) 0 U U (by simp [ba]) U) (gX _) (by have:=dE (n:=j) (p:=fun i=>bH s i∧cq d (cW (bH s) i)≠[]); omega) (by have:=dE (n:=j) (p:=fun i=>bH s i∧cq d (cW (bH s) i)≠[]); simp only [maxLen]; omega) (by rw [fm (p:=fun i=>bH s i∧cq d (cW (bH s) i)≠[]) (show bH s j∧cq d (cW (bH s) j)≠[] from ⟨gj.1 A,fun q=>by rw [H,q] at B; simp at B⟩)]; simp) sm U fun N O=>?_
 try dsimp only
 refine aY 1 U<|aB<|aF<|KK F<|aj<|rP 2 [] mn ?_
 refine aB ?_
 have K:(vI (((j+1):Nat):Int))=(vI ((j:Int)+1)):=by exact cI I
 refine aU (E ⟨((j+1),N,O),(by first|omega|(simp only []; omega))⟩ _ _ _ U os (bL 5<|aN U K<|cE.nil _) (aL [2,3,4,5,6,7,8]))
theorem nF (d:ak) (kA:OA) (kC:Nat) (pA:OA) (pC:Nat) (nA:OA) (nC:Nat) (tz:List RA) (tA:OA) (tC gw s:Nat) (hin:cJ d) (htr:a_ d.ag=true) (hok:dO d) (htz:tz.length=d.ae.length) (hsb:s<256):
 dx Tryz.prog 42 [(vP gw),(vI (s:Int))] [(rd kA d.ag.length 9 (d.ag.map aa.cells)),(rd pA d.ae.length 7 (d.ae.map aV.cells)),(rd nA d.aq.length 3 (d.aq.map bc.cells)),(rd tA ((bj d).length) 1 (List.zipWith jF (bj d) tz)),(m7 (ga ku (bj d) tz)),(cv gw 76 (cd.cells (cd.mk (aZ.mk (ar.mk (bB.mk kA d.ag.length kC)) (bB.mk pA d.ae.length pC) (bB.mk nA d.aq.length nC) d.a2 d.a4) (bB.mk tA ((bj d).length) tC))))] (vB (decide (cy d (bH s)))):=by
 have E:=hin.k3
 have D:=hin.side
 have J:=hin.kb
 have H:=hin.kG
 have G:=hin.nk
 have AA:=hin.pk
 refine bD kr Tryz.func42 U U fun S Q hQ hN=>?_
 try dsimp only
 refine WS fun _ C=>aY 1 U<|RK C<|WS fun _ B=>rP 2 [] mn ?_
 refine cX (ky d kA kC pA pC nA nC tz tA tC gw s hin htr hok htz hsb) (bg [0,1,2,3,4,5]) U fun M K=>?_
 obtain ⟨O,R⟩:=M
 try dsimp only
 refine rP 3 [] mn ?_
 refine cK (t:=10) U (aR fun A=>?_) (aS fun A=>?_)
 ·refine rP 7 [] mn ?_
  refine RK B<|an<|Q1 hQ U U U ?_
  first|exact cB (mW A)|exact cB (mu A)
 refine rP 2 [] mn ?_
 refine cX (qS d kA kC pA pC nA nC tz tA tC gw s hin htr hok htz hsb) (bg [1,2,3,4,5,6]) U fun N L=>?_
 obtain ⟨P,F⟩:=N
 try dsimp only
 refine rP 4 [] mn ?_
 refine RK B<|an<|Q1 hQ U U U ?_
 first|exact cB (mW A)|exact cB (mu A)
end
section
open Go.RowKit
theorem l6 (d:ak) (kA:OA) (kC:Nat) (pA:OA) (pC:Nat) (nA:OA) (nC:Nat) (l:List Int) (lA:OA) (lC:Nat) (hin:cJ d) (hll:l.length≤1000000):
 jH Tryz.prog 12 [(vA (aZ.cells (aZ.mk (ar.mk (bB.mk kA d.ag.length kC)) (bB.mk pA d.ae.length pC) (bB.mk nA d.aq.length nC) d.a2 d.a4))),(vS lA l.length lC)] [(rd kA d.ag.length 9 (d.ag.map aa.cells)),(rd pA d.ae.length 7 (d.ae.map aV.cells)),(rd nA d.aq.length 3 (d.aq.map bc.cells)),(rd lA l.length 1 (l.map iC))] (fun (x:(OA)×Nat)=>(vT [(vS x.1 ((cC d l).length) x.2),(vI (bM d l))])) (fun (x:(OA)×Nat)=>True) (fun (x:(OA)×Nat)=>[(own x.1 x.2 3 1 ((cC d l).map iC))]):=by
 have Z:=hin.k3
 have AA:=hin.side
 have h:=hin.kb
 have f:=hin.kG
 have e:=hin.nk
 have g:=hin.pk
 refine dh kr Tryz.func12 U U fun p Q hQ hN=>?_
 try dsimp only
 refine WS fun _ P=>fN U fun o=>aY 2 U<|RK P<|WS fun _ G=>rP 2 [] (mc 0 U mn) ?_
 refine cX (mL d kA kC pA pC nA nC l lA lC hin hll) (bg [1,2,3,4]) U fun n K=>?_
 obtain ⟨L,c,O,V,W,b⟩:=n
 cases L
 ·obtain ⟨AB,he⟩:=K.2 rfl
  try dsimp only at AB he
  subst AB
  try dsimp only [cond_true,cond_false,List.cons_append,List.nil_append]
  refine aY 7 U<|RK G<|ai fun _ Y=>WS fun _ B=>rP 2 [] mn ?_
  refine RK B<|bq U (aW fun A=>?_) (aX fun A=>?_)
  ·exact absurd A he
  refine WS fun _ C=>ea 3 1 ?_
  rw [show (own none 0 3 1 ([]:List (List Value)))=own none 0 3 1 ((cC d l).map iC) from by rw [jR he]; rfl]
  refine aY 1 U<|rP 2 [] mn ?_
  refine RK C<|an ?_
  refine LX hQ (none,0) [0] [] mn U U U ?_ ?_
  ·first|rfl|(rw [jR he]; rfl)|(rw [he]; rfl)
  ·trivial
 obtain ⟨he,m⟩:=K.1 rfl
 try dsimp only [cond_true,cond_false,List.cons_append,List.nil_append]
 obtain ⟨S,R⟩:=jf he
 obtain ⟨j,T⟩:=cO S
 have J:=T.len
 have i:=hE (l:=l) J.1
 have H:=fun k (hk:k<d.ae.length)=>gq J.1 (l:=l) (fun x hx=>by have:=jv R x hx; omega) hk
 refine aY 7 U<|RK G<|ai fun _ D=>WS fun _ E=>aY 1 U<|rS (SX (cj (r:= .bool false) U U U eY) U U)<|RK E<|bp U<|WK D<|WS fun _ F=>rP 2 [] mn ?_
 refine cX (lg d kA kC pA pC nA nC V ((bj d).length) W O (de d.ae.length l) hin sd sd sd) (bg [4,5,6,0]) U fun X a=>?_
 obtain ⟨M,N⟩:=X
 try dsimp only
 rw [show dI d (bH (de d.ae.length l))=cC d l from by rw [jT he]; exact nY H]
 refine rP 2 [] mn ?_
 refine RK F<|an ?_
 refine LX hQ (M,N) [0] [] mn U U U ?_ ?_
 ·first|rfl|(rw [jR he]; rfl)|(rw [he]; rfl)
 ·trivial
theorem q8 (d:ak) (kA:OA) (kC:Nat) (pA:OA) (pC:Nat) (nA:OA) (nC:Nat) (l:List Int) (lA:OA) (lC:Nat) (hin:cJ d) (hll:l.length≤1000000):
 jH Tryz.prog 11 [(vA (aZ.cells (aZ.mk (ar.mk (bB.mk kA d.ag.length kC)) (bB.mk pA d.ae.length pC) (bB.mk nA d.aq.length nC) d.a2 d.a4))),(vS lA l.length lC)] [(rd kA d.ag.length 9 (d.ag.map aa.cells)),(rd pA d.ae.length 7 (d.ae.map aV.cells)),(rd nA d.aq.length 3 (d.aq.map bc.cells)),(rd lA l.length 1 (l.map iC))] (fun (x:(OA)×Nat)=>(vT [(vS x.1 ((dM d l).length) x.2),(vI (bM d l))])) (fun (x:(OA)×Nat)=>True) (fun (x:(OA)×Nat)=>[(own x.1 x.2 3 1 ((dM d l).map iC))]):=by
 have b:=hin.k3
 have V:=hin.side
 have i:=hin.kb
 have g:=hin.kG
 have f:=hin.nk
 have h:=hin.pk
 refine dh kr Tryz.func11 U U fun q Q hQ hN=>?_
 try dsimp only
 refine WS fun _ R=>fN U fun p=>aY 2 U<|RK R<|WS fun _ G=>rP 2 [] (mc 0 U mn) ?_
 refine cX (mL d kA kC pA pC nA nC l lA lC hin hll) (bg [1,2,3,4]) U fun o K=>?_
 obtain ⟨L,e,P,X,Y,M⟩:=o
 cases L
 ·obtain ⟨AB,he⟩:=K.2 rfl
  try dsimp only at AB he
  subst AB
  try dsimp only [cond_true,cond_false,List.cons_append,List.nil_append]
  refine aY 7 U<|RK G<|ai fun _ a=>WS fun _ B=>rP 2 [] mn ?_
  refine RK B<|bq U (aW fun A=>?_) (aX fun A=>?_)
  ·exact absurd A he
  refine WS fun _ C=>ea 3 1 ?_
  rw [show (own none 0 3 1 ([]:List (List Value)))=own none 0 3 1 ((dM d l).map iC) from by rw [k4 he]; rfl]
  refine aY 1 U<|rP 2 [] mn ?_
  refine RK C<|an ?_
  refine LX hQ (none,0) [0] [] mn U U U ?_ ?_
  ·first|rfl|(rw [k4 he]; rfl)|(rw [he]; rfl)
  ·trivial
 obtain ⟨he,W⟩:=K.1 rfl
 try dsimp only [cond_true,cond_false,List.cons_append,List.nil_append]
 obtain ⟨T,S⟩:=jf he
 obtain ⟨m,AA⟩:=cO T
 have J:=AA.len
 have j:=hE (l:=l) J.1
 have H:=fun k (hk:k<d.ae.length)=>gq J.1 (l:=l) (fun x hx=>by have:=jv S x hx; omega) hk
 refine aY 7 U<|RK G<|ai fun _ D=>WS fun _ E=>aY 1 U<|rS (SX (cj (r:= .bool false) U U U eY) U U)<|RK E<|bp U<|WK D<|WS fun _ F=>rP 2 [] mn ?_
 refine cX (ky d kA kC pA pC nA nC M X Y P (de d.ae.length l) hin sd sd sd sd) (fG [4,5,6]<|av (au (n:=(bj d).length) 1 U (fQ (by rw [dD]; exact W)))<|av (f_ 2 U iU)<|eB 0 U U<|aw) U fun Z c=>?_
 obtain ⟨N,O⟩:=Z
 try dsimp only
 rw [show cq d (bH (de d.ae.length l))=dM d l from by rw [kS he]; exact fg H]
 refine rP 2 [] mn ?_
 refine RK F<|an ?_
 refine LX hQ (N,O) [0] [] mn U U U ?_ ?_
 ·first|rfl|(rw [k4 he]; rfl)|(rw [he]; rfl)
 ·trivial
theorem vr (d:ak) (kA:OA) (kC:Nat) (pA:OA) (pC:Nat) (nA:OA) (nC:Nat) (nd:Int) (l:List Int) (lA:OA) (lC:Nat) (hin:cJ d) (hll:l.length≤1000000):
 jH Tryz.prog 14 [(vA (aZ.cells (aZ.mk (ar.mk (bB.mk kA d.ag.length kC)) (bB.mk pA d.ae.length pC) (bB.mk nA d.aq.length nC) d.a2 d.a4))),(vI nd),(vS lA l.length lC)] [(rd kA d.ag.length 9 (d.ag.map aa.cells)),(rd pA d.ae.length 7 (d.ae.map aV.cells)),(rd nA d.aq.length 3 (d.aq.map bc.cells)),(rd lA l.length 1 (l.map iC))] (fun (x:(OA)×Nat)=>(vT [(vS x.1 ((gF d nd l).length) x.2),(vI (fr d nd l))])) (fun (x:(OA)×Nat)=>True) (fun (x:(OA)×Nat)=>[(own x.1 x.2 3 1 ((gF d nd l).map iC))]):=by
 have w:=hin.k3
 have q:=hin.side
 have A2:=hin.kb
 have A0:=hin.kG
 have AQ:=hin.nk
 have A1:=hin.pk
 refine dh kr Tryz.func14 U U fun w0 Q hQ hN=>?_
 try dsimp only
 refine WS fun _ i=>fN U fun b2=>aY 2 U<|RK i<|WS fun _ N=>rP 2 [] (mc 0 U mn) ?_
 refine cX (mL d kA kC pA pC nA nC l lA lC hin hll) (bg [1,2,3,4]) U fun y4 X=>?_
 obtain ⟨Y,AC,E,Z,a,b⟩:=y4
 cases Y
 ·obtain ⟨T,he⟩:=X.2 rfl
  try dsimp only at T he
  subst T
  try dsimp only [cond_true,cond_false,List.cons_append,List.nil_append]
  refine aY 7 U<|RK N<|ai fun _ v=>WS fun _ F=>rP 2 [] mn ?_
  refine RK F<|bq U (aW fun D=>?_) (aX fun D=>?_)
  ·exact absurd D he
  refine WS fun _ G=>rP 1 [] mn ?_
  obtain ⟨B,A⟩:=qD (nd:=nd) he
  refine ea 3 1 ?_
  rw [show (own none 0 3 1 ([]:List (List Value)))=own none 0 3 1 ((gF d nd l).map iC) from by rw [hZ B]; rfl]
  refine rP 2 [] mn ?_
  refine RK G<|an ?_
  refine LX hQ (none,0) [0] [] mn U U U ?_ ?_
  ·first|(rw [C.1]<;>rfl)|(rw [hZ B,A]<;>rfl)
  ·trivial
 obtain ⟨he,s⟩:=X.1 rfl
 try dsimp only [cond_true,cond_false,List.cons_append,List.nil_append]
 obtain ⟨m,j⟩:=jf he
 obtain ⟨A4,W⟩:=cO m
 have V:=W.len
 have A3:=hE (l:=l) V.1
 have S:=fun k (hk:k<d.ae.length)=>gq V.1 (l:=l) (fun x hx=>by have:=jv j x hx; omega) hk
 refine aY 7 U<|RK N<|ai fun _ H=>WS fun _ AB=>aY 1 U<|rS (SX (cj (r:= .bool false) U U U eY) U U)<|RK AB<|bp U<|WK H<|ai fun _ J=>WS fun _ K=>rP 5 [] (mc 3 U mn) ?_
 refine df (xs:=[.tmp 25]) (cs:=[(vI nd)]) U cL gY U U U U (by simp [Value.cells]) U U fun f=>?_
 refine rS (CL (dx.eq (ey 0 ((d.aq.length:Int)-1) ([nd]) (some ⟨f,0,none⟩) 1 sd) cA) (av (aK 0 U U (by simp [ba]) U)<|aw) U) ?_
 refine rP 1 [] mn ?_
 refine RK K<|cG U (aX fun AA=>?_) (aW fun AA=>?_)
 ·refine WS fun _ L=>?_
  obtain ⟨B,A⟩:=qs (nd:=nd) he I
  refine ea 3 1 ?_
  rw [show (own none 0 3 1 ([]:List (List Value)))=own none 0 3 1 ((gF d nd l).map iC) from by rw [hZ B]; rfl]
  refine rP 2 [] mn ?_
  refine RK L<|an ?_
  refine LX hQ (none,0) [0] [] mn U U U ?_ ?_
  ·first|(rw [C.1]<;>rfl)|(rw [hZ B,A]<;>rfl)
  ·trivial
 refine WK J<|ai fun _ M=>dY dw [8,9,10] [] [] [0,1,2,3,4,5,6,7,8] [] U U U U U<|eS U (MV U)<|eS U (FA 2 U fZ U)<|eS U (L1 (vS nA d.aq.length nC) 4 U cz U U)<|eS U (MV U) ?_
 obtain ⟨n,hn⟩:=bh d.aq ((nd).toNat) I
 have o:=bG bc.cells hn
 refine eS U (IA ((nd).toNat) U (aO 7 U) sN dc I I)<|eS U (mY ((nd).toNat) 0 (bc.cells n) U cz (aO 7 U) o U dc U U) ?_
 have p:=W.eQ n (aI hn)
 have C:=nf he I hn
 refine eS U (MV U)<|eS U (MV U)<|eS U (AG U)<|fx U<|bN U fun T22 O=>?_
 refine cX (lg d kA kC pA pC nA nC Z ((bj d).length) a E (de d.ae.length l) hin sd sd sd) (bg [5,6,7,1]) U fun t y=>?_
 obtain ⟨c,g⟩:=t
 try dsimp only
 refine aB (O _ _ (aL [1,2,3,4,5,6,7,8,9]) ?_)
 refine bN U fun T27 P=>?_
 refine cX (pg d kA kC pA pC nA nC b Z a E n (dI d (bH (de d.ae.length l))) c g hin sd sd sd (by exact p) (by exact mI) (by exact Nat.le_trans mK I)) (fG [6,7,8]<|av (au (n:=(bj d).length) 3 U (fQ (by rw [dD]; exact s)))<|av (f_ 4 U iU)<|eB 2 U U<|av (au (n:=(dI d (bH (de d.ae.length l))).length) 0 U sm)<|aw) U fun u z=>?_
 obtain ⟨e,h⟩:=u
 try dsimp only
 refine aB (P _ _ (aL [2,3,4,5,6,7,8,9,10]) ?_)
 refine bN U fun T32 R=>?_
 rw [kv,show gZ d n (bH (de d.ae.length l))=gF d nd l from by rw [C.2]; exact lv S]
 refine rS (AG U)<|aB (R _ _ (aL [2,3,4,5,6,7,8,9,10]) ?_)
 refine fR U<|KK M<|an ?_
 refine LX hQ (e,h) [0] [] mn U U U ?_ ?_
 ·first|(rw [C.1]<;>rfl)|(rw [hZ B,A]<;>rfl)
 ·trivial
theorem xG (d:ak) (kA:OA) (kC:Nat) (pA:OA) (pC:Nat) (nA:OA) (nC:Nat) (hin:cJ d):
 jH Tryz.prog 16 [(vA (aZ.cells (aZ.mk (ar.mk (bB.mk kA d.ag.length kC)) (bB.mk pA d.ae.length pC) (bB.mk nA d.aq.length nC) d.a2 d.a4)))] [(rd kA d.ag.length 9 (d.ag.map aa.cells)),(rd pA d.ae.length 7 (d.ae.map aV.cells)),(rd nA d.aq.length 3 (d.aq.map bc.cells))] (fun (x:(OA)×Nat)=>(vT [(vS x.1 ((je d).length) x.2),(vI (ja d))])) (fun (x:(OA)×Nat)=>True) (fun (x:(OA)×Nat)=>[(own x.1 x.2 3 1 ((je d).map iC))]):=by
 have i:=hin.k3
 have e:=hin.side
 have w:=hin.kb
 have u:=hin.kG
 have t:=hin.nk
 have v:=hin.pk
 refine dh kr Tryz.func16 U U fun w0 Q hQ hN=>?_
 try dsimp only
 refine WS fun _ b=>fN U fun b2=>aY 1 U<|aY 1 U<|RK b<|WS fun _ T=>rP 1 [] (mc 0 U mn) ?_
 refine cX (kz d kA kC pA pC nA nC hin) (rF 1 2 3 U U U U U U) U fun y4 X=>?_
 obtain ⟨Y,s,D,F,G,J⟩:=y4
 cases Y
 ·obtain ⟨AA,he⟩:=X.2 rfl
  try dsimp only at AA he
  subst AA
  try dsimp only [cond_true,cond_false,List.cons_append,List.nil_append]
  refine aY 5 U<|RK T<|ai fun _ h=>WS fun _ K=>rP 2 [] mn ?_
  refine RK K<|bq U (aW fun AB=>?_) (aX fun AB=>?_)
  ·exact absurd AB he
  refine WS fun _ L=>rP 1 [] mn ?_
  obtain ⟨E,A⟩:=ud he
  refine ea 3 1 ?_
  rw [show (own none 0 3 1 ([]:List (List Value)))=own none 0 3 1 ((je d).map iC) from by rw [A]; rfl]
  refine aY 1 U<|rP 1 [] mn ?_
  refine RK L<|an ?_
  refine LX hQ (none,0) [0] [] mn U U U ?_ ?_
  ·first|(rw [A,E]<;>rfl)|(rw [(ki he (by rw [← C]; exact e9 I)).1]<;>rfl)
  ·trivial
 obtain ⟨he,W⟩:=X.1 rfl
 try dsimp only [cond_true,cond_false,List.cons_append,List.nil_append]
 obtain ⟨z,c⟩:=cO he
 have V:=c.len
 have y:=hE (l:=[]) V.1
 have H: ∀ k,k<d.ae.length→((bH (de d.ae.length [])) k↔fh k):=fun k hk=>by rw [gq V.1 (l:=[]) sm hk]; simp [fh]
 have C:cq d (bH (de d.ae.length []))=cq d fh:=fg H
 refine aY 5 U<|RK T<|ai fun _ M=>WS fun _ N=>aY 1 U<|rS (SX (cj (r:= .bool false) U U U eY) U U)<|RK N<|bp U<|WK M<|ai fun _ O=>WS fun _ P=>rP 2 [] mn ?_
 refine rS (CL (rk d kA kC pA pC nA nC F ((bj d).length) G D ([]) none 0 sd sd sd) (fG [4,5,6,0]<|av (iI _ _)<|aw) U) ?_
 refine cX (ky d kA kC pA pC nA nC J F G D (de d.ae.length ([])) hin sd sd sd sd) (fG [4,5,6]<|av (au (n:=(bj d).length) 1 U (fQ (by rw [dD]; exact W)))<|av (f_ 2 U iU)<|eB 0 U U<|aw) U fun f j=>?_
 obtain ⟨o,p⟩:=f
 try dsimp only
 refine rP 2 [] mn ?_
 refine RK P<|cG U (aS fun B=>?_) (aR fun B=>?_)
 ·refine WS fun _ R=>?_
  obtain ⟨E,A⟩:=sD he (fun q=>by rw [C,q] at B; simp at B)
  refine ea 3 1 ?_
  rw [show (own none 0 3 1 ([]:List (List Value)))=own none 0 3 1 ((je d).map iC) from by rw [A]; rfl]
  refine aY 1 U<|rP 1 [] mn ?_
  refine RK R<|an ?_
  refine LX hQ (none,0) [0] [] mn U U U ?_ ?_
  ·first|(rw [A,E]<;>rfl)|(rw [(ki he (by rw [← C]; exact e9 I)).1]<;>rfl)
  ·trivial
 refine WK O<|WS fun _ S=>rP 2 [] mn ?_
 refine rS (CL (rk d kA kC pA pC nA nC F ((bj d).length) G D ([]) none 0 sd sd sd) (fG [5,6,7,1]<|av (iI _ _)<|aw) U) ?_
 refine cX (qS d kA kC pA pC nA nC J F G D (de d.ae.length ([])) hin sd sd sd sd) (fG [5,6,7]<|av (au (n:=(bj d).length) 2 U (fQ (by rw [dD]; exact W)))<|av (f_ 3 U iU)<|eB 1 U U<|aw) U fun g m=>?_
 obtain ⟨Z,a⟩:=g
 try dsimp only
 refine rP 1 [] mn ?_
 rw [show iK d (bH (de d.ae.length []))=je d from by rw [(ki he (by rw [← C]; exact e9 I)).2]; exact mf H]
 refine rP 1 [] mn ?_
 refine RK S<|an ?_
 refine LX hQ (Z,a) [0] [] mn U U U ?_ ?_
 ·first|(rw [A,E]<;>rfl)|(rw [(ki he (by rw [← C]; exact e9 I)).1]<;>rfl)
 ·trivial
theorem uZ (d:ak) (kA:OA) (kC:Nat) (pA:OA) (pC:Nat) (nA:OA) (nC:Nat) (hin:cJ d):
 jH Tryz.prog 18 [(vA (aZ.cells (aZ.mk (ar.mk (bB.mk kA d.ag.length kC)) (bB.mk pA d.ae.length pC) (bB.mk nA d.aq.length nC) d.a2 d.a4)))] [(rd kA d.ag.length 9 (d.ag.map aa.cells)),(rd pA d.ae.length 7 (d.ae.map aV.cells)),(rd nA d.aq.length 3 (d.aq.map bc.cells))] (fun (x:(OA)×Nat)=>(vT [(vS x.1 ((iE d).length) x.2),(vI (br d))])) (fun (x:(OA)×Nat)=>True) (fun (x:(OA)×Nat)=>[(own x.1 x.2 3 1 ((iE d).map iC))]):=by
 have u:=hin.k3
 have o:=hin.side
 have A0:=hin.kb
 have AC:=hin.kG
 have y:=hin.nk
 have AQ:=hin.pk
 refine dh kr Tryz.func18 U U fun w0 Q hQ hN=>?_
 try dsimp only
 refine WS fun _ l=>fN U fun b2=>aY 2 U<|RK l<|WS fun _ AA=>rP 1 [] (mc 0 U mn) ?_
 refine cX (kz d kA kC pA pC nA nC hin) (rF 1 2 3 U U U U U U) U fun y4 Z=>?_
 obtain ⟨a,w,H,b,c,e⟩:=y4
 cases a
 ·obtain ⟨Y,he⟩:=Z.2 rfl
  try dsimp only at Y he
  subst Y
  try dsimp only [cond_true,cond_false,List.cons_append,List.nil_append]
  refine aY 5 U<|RK AA<|ai fun _ t=>WS fun _ AB=>rP 2 [] mn ?_
  refine RK AB<|bq U (aW fun E=>?_) (aX fun E=>?_)
  ·exact absurd E he
  refine WS fun _ J=>rP 1 [] mn ?_
  refine ea 3 1 ?_
  rw [show (own none 0 3 1 ([]:List (List Value)))=own none 0 3 1 ((iE d).map iC) from by rw [kU he]; rfl]
  refine rP 2 [] mn ?_
  refine RK J<|an ?_
  refine LX hQ (none,0) [0] [] mn U U U ?_ ?_
  ·first|(rw [kU he]<;>rfl)|(rw [he]<;>rfl)
  ·trivial
 obtain ⟨he,s⟩:=Z.1 rfl
 try dsimp only [cond_true,cond_false,List.cons_append,List.nil_append]
 obtain ⟨A1,m⟩:=cO he
 have G:=m.len
 refine aY 5 U<|RK AA<|ai fun _ K=>WS fun _ L=>aY 1 U<|rS (SX (cj (r:= .bool false) U U U eY) U U)<|RK L<|bp U<|WK K<|WS fun _ M=>aY 1 U<|RK M<|ai fun _ N=>WS fun _ O=>rP 4 [] (mc 3 U mn) ?_
 refine RK O<|ay<|ep 3 1 ?_
 have B:(0≤d.ae.length):=by exact Nat.zero_le _
 refine bu (ι:={z:Nat×(OA)×Nat // (z.1≤d.ae.length)}) [1,2,3,4,17,18] [1,2,3,4,5,6,7] U U (fun z=>[(6,(vS z.1.2.1 ((bZ z.1.1 (fun i=>cy d (cW fh i))).length) z.1.2.2)),(19,(vI (z.1.1:Int)))]) (fun z=>[(own z.1.2.1 z.1.2.2 3 1 ((bZ z.1.1 (fun i=>cy d (cW fh i))).map iC))]) (fun _=>rfl) (fun _=>rfl) (fun z=>d.ae.length-z.1.1) ⟨(0,none,0),B⟩ (a3 U) (aL [1,2,3,4,5,6,7,0]) ?_
 clear B
 rintro ⟨⟨j,la,lc⟩,F⟩ J20 C
 try dsimp only at F
 try dsimp only
 refine WS fun _ P=>rP 1 [] mn ?_
 refine RK P<|ai fun _ R=>bq U (aR fun k=>?_) (aS fun k=>?_)
 ·refine bk<|ab<|ab<|ax<|KK N<|WS fun _ V=>?_
  rw [show bZ j (fun i=>cy d (cW fh i))=iE d from by rw [m_ he,show j=d.ae.length by omega]]
  refine aY 1 U<|rP 2 [] mn ?_
  refine RK V<|an ?_
  refine LX hQ (la,lc) [7] [] mn U U U ?_ ?_
  ·first|(rw [kU he]<;>rfl)|(rw [he]<;>rfl)
  ·trivial
 refine WK R<|ai fun _ D=>ay<|WS fun _ S=>aY 2 U<|RK S<|WS fun _ T=>rP 3 [] mn ?_
 refine df (xs:=[.tmp 24]) (cs:=[(vI (j:Int))]) U cL gY U U U U (by simp [Value.cells]) U U fun g=>?_
 refine rS (CL (rk d kA kC pA pC nA nC b ((bj d).length) c H ([(j:Int)]) (some ⟨g,0,none⟩) 1 I (by intro x hx; simp only [cu] at hx; omega) sm) (fG [5,6,7,1]<|av (aK 0 U U (by simp [ba]) U)<|aw) U) ?_
 refine rS (CL (nF d kA kC pA pC nA nC e b c H (de d.ae.length ([(j:Int)])) hin sd sd sd (by exact hE G.1)) (fG [5,6,7]<|av (au (n:=(bj d).length) 2 U (fQ (by rw [dD]; exact s)))<|av (f_ 3 U iU)<|eB 1 U U<|aw) U) ?_
 refine RK T<|bq U (aR fun A=>?_) (aS fun A=>?_)
 ·refine cg<|aF<|KK D<|aj<|rP 2 [] mn ?_
  refine aB ?_
  rw [show (bZ j (fun i=>cy d (cW fh i)))=(bZ (j+1) (fun i=>cy d (cW fh i))) from (fP (show ¬ cy d (cW fh j) from fun q=>A ((np G.1 I).2 q))).symm]
  have X:(vI (((j+1):Nat):Int))=(vI ((j:Int)+1)):=by exact cI I
  refine aU (C ⟨((j+1),la,lc),(by first|omega|(simp only []; omega))⟩ _ _ _ U os (bL 7<|aN U X<|cE.nil _) (aL [1,2,3,4,5,6,7,8]))
 refine aj<|rP 2 [] mn ?_
 refine df (xs:=[.tmp 29]) (cs:=[(vI (j:Int))]) U cL gY U U U U (by simp [Value.cells]) U U fun v=>?_
 refine dG (es2:=(List.map iC (bZ (j+1) (fun i=>cy d (cW fh i))))) (m':=(bZ (j+1) (fun i=>cy d (cW fh i))).length) 9 U U U mo U U sm (aK (es:=List.map iC [(j:Int)]) 0 U U (by simp [ba]) U) (gX _) (by have:=dE (n:=j) (p:=fun i=>cy d (cW fh i)); omega) (by have:=dE (n:=j) (p:=fun i=>cy d (cW fh i)); simp only [maxLen]; omega) (by rw [fm (p:=fun i=>cy d (cW fh i)) (show cy d (cW fh j) from (np G.1 I).1 A)]; simp) sm U fun f h=>?_
 try dsimp only
 refine aY 1 U<|aB<|aF<|KK D<|aj<|rP 2 [] mn ?_
 refine aB ?_
 have W:(vI (((j+1):Nat):Int))=(vI ((j:Int)+1)):=by exact cI I
 refine aU (C ⟨((j+1),f,h),(by first|omega|(simp only []; omega))⟩ _ _ _ U os (bL 7<|aN U W<|cE.nil _) (aL [2,3,4,5,6,7,8,9]))
end
section
open Go.RowKit
theorem qe (d:ak) (kA:OA) (kC:Nat) (pA:OA) (pC:Nat) (nA:OA) (nC:Nat) (a k:Int) (hin:cJ d):
 dx Tryz.prog 10 [(vA (aZ.cells (aZ.mk (ar.mk (bB.mk kA d.ag.length kC)) (bB.mk pA d.ae.length pC) (bB.mk nA d.aq.length nC) d.a2 d.a4))),(vI a),(vI k)] [(rd kA d.ag.length 9 (d.ag.map aa.cells)),(rd pA d.ae.length 7 (d.ae.map aV.cells)),(rd nA d.aq.length 3 (d.aq.map bc.cells))] (vT [(vI (hP d a k)),(vI (ik d a k))]):=by
 have j:=hin.k3
 have h:=hin.side
 have v:=hin.kb
 have q:=hin.kG
 have p:=hin.nk
 have u:=hin.pk
 refine bD kr Tryz.func10 U U fun w0 Q hQ hN=>?_
 try dsimp only
 refine WS fun _ g=>fN U fun b2=>aY 2 U<|RK g<|WS fun _ T=>rP 1 [] (mc 0 U mn) ?_
 refine cX (kz d kA kC pA pC nA nC hin) (rF 1 2 3 U U U U U U) U fun y4 Z=>?_
 obtain ⟨b,l,m,z,AC,AB⟩:=y4
 cases b
 ·obtain ⟨AA,he⟩:=Z.2 rfl
  try dsimp only at AA he
  subst AA
  try dsimp only [cond_true,cond_false,List.cons_append,List.nil_append]
  refine aY 5 U<|RK T<|ai fun _ i=>WS fun _ K=>rP 2 [] mn ?_
  refine RK K<|bq U (aW fun H=>?_) (aX fun H=>?_)
  ·exact absurd H he
  refine WS fun _ L=>rP 3 [] mn ?_
  refine RK L<|an<|Q2 hQ U U U U ?_
  first|(have e:=gK (a:=a) (k:=k) he; rw [e.1,e.2.2]<;>rfl)|(have e:=gN (a:=a) (k:=k) he I; rw [e.1,e.2.2]<;>rfl)|(have e:=gz (k:=k) he I hp; rw [e.1,e.2.2]; have B:tm=eV d.ag _ k:=(by rw [E] at A; have C:=gp A; rw [Int.toNat_of_nonneg I] at C; exact C); rw [B]<;>rfl)
 obtain ⟨he,J⟩:=Z.1 rfl
 try dsimp only [cond_true,cond_false,List.cons_append,List.nil_append]
 obtain ⟨y,s⟩:=cO he
 have x:=dD (d:=d)
 try dsimp only at J
 refine aY 5 U<|RK T<|ai fun _ M=>WS fun _ N=>aY 1 U<|rS (SX (cj (r:= .bool false) U U U eY) U U)<|RK N<|bp U<|WK M<|ai fun _ O=>WS fun _ G=>rP 5 [] (mc 3 U mn) ?_
 refine df (xs:=[.tmp 22]) (cs:=[(vI a)]) U cL gY U U U U (by simp [Value.cells]) U U fun c=>?_
 refine rS (CL (dx.eq (ey 0 ((d.ae.length:Int)-1) ([a]) (some ⟨c,0,none⟩) 1 sd) cA) (av (aK 0 U U (by simp [ba]) U)<|aw) U) ?_
 refine rP 2 [] mn ?_
 refine ct (t:=26) U (aX fun V=>?_) (aW fun V=>?_)
 ·refine aY 10 U<|RK G<|aT U<|WS fun _ P=>rP 2 [] mn ?_
  refine RK P<|an<|Q2 hQ U U U U ?_
  first|(have e:=gK (a:=a) (k:=k) he; rw [e.1,e.2.2]<;>rfl)|(have e:=gN (a:=a) (k:=k) he I; rw [e.1,e.2.2]<;>rfl)|(have e:=gz (k:=k) he I hp; rw [e.1,e.2.2]; have B:tm=eV d.ag _ k:=(by rw [E] at A; have C:=gp A; rw [Int.toNat_of_nonneg I] at C; exact C); rw [B]<;>rfl)
 refine rP 6 [] (mc 4 U mn) ?_
 refine df (xs:=[.tmp 32]) (cs:=[(vI k)]) U cL gY U U U U (by simp [Value.cells]) U U fun f=>?_
 refine rS (CL (dx.eq (ey 0 ((d.ag.length:Int)-1) ([k]) (some ⟨f,0,none⟩) 1 sd) cA) (av (aK 0 U U (by simp [ba]) U)<|aw) U) ?_
 refine rP 2 [] mn ?_
 refine RK G<|cG U (aX fun W=>?_) (aW fun W=>?_)
 ·refine WS fun _ R=>rP 2 [] mn ?_
  refine RK R<|an<|Q2 hQ U U U U ?_
  first|(have e:=gK (a:=a) (k:=k) he; rw [e.1,e.2.2]<;>rfl)|(have e:=gN (a:=a) (k:=k) he I; rw [e.1,e.2.2]<;>rfl)|(have e:=gz (k:=k) he I hp; rw [e.1,e.2.2]; have B:tm=eV d.ag _ k:=(by rw [E] at A; have C:=gp A; rw [Int.toNat_of_nonneg I] at C; exact C); rw [B]<;>rfl)
 refine WK O<|WS fun _ S=>aY 1 U<|rS (SX (cV U U) U U)<|rP 3 [] (mc 2 U mn) ?_
 obtain ⟨ms,F⟩:=bh (bj d) ((a).toNat) I
 obtain ⟨msa,D⟩:=bh AB ((a).toNat) I
 have X:(List.zipWith jF (bj d) AB)[(a).toNat]? =some (jF ms msa):=qU F D
 refine rS (IA ((a).toNat) U (au (n:=(bj d).length) 3 U (fQ (by rw [dD]; exact J))) w4 dc I I) ?_
 refine rS (g5 ((a).toNat) 0 (vS msa.1 ms.length msa.2) U cz (au (n:=(bj d).length) 3 U (fQ (by rw [dD]; exact J))) X U dc U) ?_
 have hp:d.ae[a.toNat]? =some (d.ae[a.toNat]'I):=dr _
 have E:=nG hp F
 have o:ms.length=d.ag.length:=by rw [E]; exact fI
 refine rP 1 [] mn ?_
 obtain ⟨tm,A⟩:=bh ms ((k).toNat) I
 have Y:=bG iC A
 refine rS (IA ((k).toNat) U (show j3 _ (rd msa.1 ms.length 1 (ms.map iC)).holds from (fun w hw=>(f_ 4 U iU) w hw _ (g_ F D (by simp [ku])))) cL dc I I)<|rS (g5 ((k).toNat) 0 (vI tm) U cz (show j3 _ (rd msa.1 ms.length 1 (ms.map iC)).holds from (fun w hw=>(f_ 4 U iU) w hw _ (g_ F D (by simp [ku])))) Y U dc U)<|rP 2 [] mn ?_
 refine RK S<|an<|Q2 hQ U U U U ?_
 first|(have e:=gK (a:=a) (k:=k) he; rw [e.1,e.2.2]<;>rfl)|(have e:=gN (a:=a) (k:=k) he I; rw [e.1,e.2.2]<;>rfl)|(have e:=gz (k:=k) he I hp; rw [e.1,e.2.2]; have B:tm=eV d.ag _ k:=(by rw [E] at A; have C:=gp A; rw [Int.toNat_of_nonneg I] at C; exact C); rw [B]<;>rfl)
end
section
open Go.RowKit
theorem eE (n lo hi:Int):
 dx Tryz.prog 71 [(vI n),(vI lo),(vI hi)] [] (vB (decide (lo≤n∧n≤hi))):=by
 refine bD kr Tryz.func71 U U fun D Q hQ hN=>?_
 try dsimp only
 refine WS fun _ B=>aY 1 U<|RK B<|WS fun _ A=>rP 4 [] mn ?_
 refine ct (t:=10) U (aS fun C=>?_) (aR fun C=>?_)
 ·refine rP 5 [] mn ?_
  refine RK A<|an<|Q1 hQ U U U ?_
  exact cB (dQ.2 I)
 refine rP 5 [] mn ?_
 refine RK A<|an<|Q1 hQ U U U ?_
 exact cB (aQ I).symm
theorem uE (d:ak) (kA:OA) (kC:Nat) (pA:OA) (pC:Nat) (nA:OA) (nC:Nat) (hraw:fV d):
 dx Tryz.prog 22 [(vA (aZ.cells (aZ.mk (ar.mk (bB.mk kA d.ag.length kC)) (bB.mk pA d.ae.length pC) (bB.mk nA d.aq.length nC) d.a2 d.a4)))] [(rd kA d.ag.length 9 (d.ag.map aa.cells)),(rd pA d.ae.length 7 (d.ae.map aV.cells)),(rd nA d.aq.length 3 (d.aq.map bc.cells))] (vB (decide (fH d))):=by
 have G:=hraw.k3
 have F:=hraw.kb
 have E:=hraw.kG
 refine bD kr Tryz.func22 U U fun AA Q hQ hN=>?_
 try dsimp only
 refine WS fun _ B=>fN U fun H=>aY 1 U<|RK B<|WS fun _ A=>aY 1 U<|rS (LP (ar.cells (ar.mk (bB.mk kA d.ag.length kC))) 0 U cz U U U)<|rS (CL (vd d.ag kA kC) (bg [1]) U)<|rP 1 [] mn ?_
 refine ct (t:=6) U (aS fun C=>?_) (aR fun C=>?_)
 ·refine rP 12 [] mn ?_
  refine RK A<|an<|Q1 hQ U U U ?_
  first|exact cB (dm (by unfold fH; omega)).symm|exact cB (dQ.2 (by unfold fH; omega))
 refine rP 6 [] (mc 0 U mn) ?_
 refine ct (t:=12) U (aS fun D=>?_) (aR fun D=>?_)
 ·refine rP 6 [] mn ?_
  refine RK A<|an<|Q1 hQ U U U ?_
  first|exact cB (dm (by unfold fH; omega)).symm|exact cB (dQ.2 (by unfold fH; omega))
 refine rP 6 [] (mc 0 U mn) ?_
 refine RK A<|an<|Q1 hQ U U U ?_
 first|exact cB (dm (by unfold fH; omega)).symm|exact cB (dQ.2 (by unfold fH; omega))
theorem s6 (d:ak) (kA:OA) (kC:Nat) (pA:OA) (pC:Nat) (nA:OA) (nC:Nat) (hin:cJ d) (htr:a_ d.ag=true):
 dx Tryz.prog 45 [(vA (aZ.cells (aZ.mk (ar.mk (bB.mk kA d.ag.length kC)) (bB.mk pA d.ae.length pC) (bB.mk nA d.aq.length nC) d.a2 d.a4)))] [(rd kA d.ag.length 9 (d.ag.map aa.cells)),(rd pA d.ae.length 7 (d.ae.map aV.cells)),(rd nA d.aq.length 3 (d.aq.map bc.cells))] (vB (decide (dO d))):=by
 have BW:=hin.k3
 have BT:=hin.side
 have Bv:=hin.kb
 have Bu:=hin.kG
 have BO:=hin.nk
 have BQ:=hin.pk
 have Bw:=cP htr
 have BV:=dy htr
 refine bD kr Tryz.func45 U U fun w0 Q hQ hN=>?_
 try dsimp only
 refine WS fun _ BE=>fN U fun b2=>aY 1 U<|RK BE<|ai fun _ BF=>WS fun _ L=>rP 5 [] (mc 0 U mn) ?_
 refine ct (t:=11) U (aS fun A3=>?_) (aR fun A3=>?_)
 ·refine aY 19 U<|RK L<|aT U<|WS fun _ BG=>rP 1 [] mn ?_
  refine RK BG<|an<|Q1 hQ U U U ?_
  first|exact cB (aQ fun q=>by have A:=q.len; omega).symm|exact cB (aQ fun q=>by exact absurd q.b1 (by simpa using B)).symm|exact cB (aQ fun q=>by have A:=q.dC; omega).symm|exact cB (aQ fun q=>by have A:=q.post i p hp; unfold cf at A; first|omega|exact absurd A.2.2.1 (by simpa using E)|(rw [cb I hy] at A; omega)).symm|exact cB (aQ fun q=>by have A:=q.eQ n (aI hn); unfold bx at A; omega).symm|exact cB (dm (bI I (by simpa using B) I D I (d_ (P:=bx d.ag) I C))).symm
 refine rP 6 [] (mc 0 U mn) ?_
 refine ct (t:=17) U (aS fun A4=>?_) (aR fun A4=>?_)
 ·refine aY 13 U<|RK L<|aT U<|WS fun _ BH=>rP 1 [] mn ?_
  refine RK BH<|an<|Q1 hQ U U U ?_
  first|exact cB (aQ fun q=>by have A:=q.len; omega).symm|exact cB (aQ fun q=>by exact absurd q.b1 (by simpa using B)).symm|exact cB (aQ fun q=>by have A:=q.dC; omega).symm|exact cB (aQ fun q=>by have A:=q.post i p hp; unfold cf at A; first|omega|exact absurd A.2.2.1 (by simpa using E)|(rw [cb I hy] at A; omega)).symm|exact cB (aQ fun q=>by have A:=q.eQ n (aI hn); unfold bx at A; omega).symm|exact cB (dm (bI I (by simpa using B) I D I (d_ (P:=bx d.ag) I C))).symm
 refine aY 1 U<|rS (LP (ar.cells (ar.mk (bB.mk kA d.ag.length kC))) 0 U cz U U U)<|rP 1 [] mn ?_
 refine rS (LP (aG.cells d.a2) 0 U cz U U U) ?_
 refine rS (CL (nT d.ag kA kC d.a2 sd sd) (bg [1]) U) ?_
 refine rP 3 [] mn ?_
 refine ct (t:=25) U (aX fun B=>?_) (aW fun B=>?_)
 ·refine aY 5 U<|RK L<|aT U<|WS fun _ BJ=>rP 1 [] mn ?_
  refine RK BJ<|an<|Q1 hQ U U U ?_
  first|exact cB (aQ fun q=>by have A:=q.len; omega).symm|exact cB (aQ fun q=>by exact absurd q.b1 (by simpa using B)).symm|exact cB (aQ fun q=>by have A:=q.dC; omega).symm|exact cB (aQ fun q=>by have A:=q.post i p hp; unfold cf at A; first|omega|exact absurd A.2.2.1 (by simpa using E)|(rw [cb I hy] at A; omega)).symm|exact cB (aQ fun q=>by have A:=q.eQ n (aI hn); unfold bx at A; omega).symm|exact cB (dm (bI I (by simpa using B) I D I (d_ (P:=bx d.ag) I C))).symm
 refine gS 2 [] (mc 0 U mn) U<|rS (CL (eE d.a4 0 400000) (aw) U)<|rP 2 [] mn ?_
 refine RK L<|cG U (aX fun A5=>?_) (aW fun A5=>?_)
 ·refine WS fun _ BK=>rP 1 [] mn ?_
  refine RK BK<|an<|Q1 hQ U U U ?_
  first|exact cB (aQ fun q=>by have A:=q.len; omega).symm|exact cB (aQ fun q=>by exact absurd q.b1 (by simpa using B)).symm|exact cB (aQ fun q=>by have A:=q.dC; omega).symm|exact cB (aQ fun q=>by have A:=q.post i p hp; unfold cf at A; first|omega|exact absurd A.2.2.1 (by simpa using E)|(rw [cb I hy] at A; omega)).symm|exact cB (aQ fun q=>by have A:=q.eQ n (aI hn); unfold bx at A; omega).symm|exact cB (dm (bI I (by simpa using B) I D I (d_ (P:=bx d.ag) I C))).symm
 refine WK BF<|ai fun _ BL=>WS fun _ AA=>rP 1 [] mn ?_
 refine RK AA<|ay ?_
 have G:(0≤d.ae.length)∧(gi d 0):=by exact ⟨Nat.zero_le _,l9⟩
 refine bu (ι:={z:Nat // (z≤d.ae.length)∧(gi d z)}) [1] [0,1,2,3] U U (fun z=>[(3,(vI (z.1:Int)))]) (fun z=>[]) (fun _=>rfl) (fun _=>rfl) (fun z=>d.ae.length-z.1) ⟨0,G⟩ (a3 U) (aL [0,1,2,3]) ?_
 clear G
 rintro ⟨i,⟨BN,D⟩⟩ J11 M
 try dsimp only
 refine ai fun _ V=>WS fun _ W=>rP 5 [] (mc 0 U mn) ?_
 refine RK W<|bq U (aR fun BC=>?_) (aS fun BC=>?_)
 ·refine bk<|ab<|ab<|ax<|KK BL<|ai fun _ l=>WS fun _ o=>rP 1 [] mn ?_
  refine RK o<|ay ?_
  have G:(0≤d.aq.length)∧(∀ (j:Nat) y,j<0→d.aq[j]? =some y→bx d.ag y):=by exact ⟨Nat.zero_le _,fun j y hj=>absurd hj (Nat.not_lt_zero _)⟩
  refine bu (ι:={z:Nat // (z≤d.aq.length)∧(∀ (j:Nat) y,j<z→d.aq[j]? =some y→bx d.ag y)}) [1] [0,1,2,3] U U (fun z=>[(5,(vI (z.1:Int)))]) (fun z=>[]) (fun _=>rfl) (fun _=>rfl) (fun z=>d.aq.length-z.1) ⟨0,G⟩ (a3 U) (aL [0,1,2,3]) ?_
  clear G
  rintro ⟨m,⟨BB,C⟩⟩ J33 T
  try dsimp only
  refine ai fun _ r=>WS fun _ s=>rP 5 [] (mc 0 U mn) ?_
  refine RK s<|bq U (aR fun BD=>?_) (aS fun BD=>?_)
  ·refine bk<|ab<|ab<|ax<|KK l<|WS fun _ AQ=>rP 1 [] mn ?_
   refine RK AQ<|an<|Q1 hQ U U U ?_
   first|exact cB (aQ fun q=>by have A:=q.len; omega).symm|exact cB (aQ fun q=>by exact absurd q.b1 (by simpa using B)).symm|exact cB (aQ fun q=>by have A:=q.dC; omega).symm|exact cB (aQ fun q=>by have A:=q.post i p hp; unfold cf at A; first|omega|exact absurd A.2.2.1 (by simpa using E)|(rw [cb I hy] at A; omega)).symm|exact cB (aQ fun q=>by have A:=q.eQ n (aI hn); unfold bx at A; omega).symm|exact cB (dm (bI I (by simpa using B) I D I (d_ (P:=bx d.ag) I C))).symm
  refine WK r<|ai fun _ u=>ay<|WS fun _ v=>rP 3 [] (mc 0 U mn) ?_
  obtain ⟨n,hn⟩:=bh d.aq m I
  have BP:=bG bc.cells hn
  refine rS (IA m U (aO 3 U) sN dc I I)<|rS (mY m 0 (bc.cells n) U cz (aO 3 U) BP U dc U U)<|AL U xP fun Bs=>gG U yJ U<|RK v<|WS fun _ H=>?_
  have BX:=BO n (aI hn)
  refine gS 7 [0,1] (mc 0 U (mc 1 U mn)) U<|rS (CL (eE n.ao 0 ((d.ag.length:Int)-1)) (aw) U)<|rP 2 [] mn ?_
  refine ct (t:=111) U (aX fun O=>?_) (aW fun O=>?_)
  ·refine aY 12 U<|RK H<|aT U<|WS fun _ w=>rP 1 [] mn ?_
   refine RK w<|an<|Q1 hQ U U U ?_
   first|exact cB (aQ fun q=>by have A:=q.len; omega).symm|exact cB (aQ fun q=>by exact absurd q.b1 (by simpa using B)).symm|exact cB (aQ fun q=>by have A:=q.dC; omega).symm|exact cB (aQ fun q=>by have A:=q.post i p hp; unfold cf at A; first|omega|exact absurd A.2.2.1 (by simpa using E)|(rw [cb I hy] at A; omega)).symm|exact cB (aQ fun q=>by have A:=q.eQ n (aI hn); unfold bx at A; omega).symm|exact cB (dm (bI I (by simpa using B) I D I (d_ (P:=bx d.ag) I C))).symm
  refine gS 2 [] (mc 0 U mn) U<|rS (SX (eK (m:=n.Kind) U U rW mZ (dq (by first|assumption|omega))) U U)<|rS (CL (eE n.Kind 1 3) (aw) U)<|rP 3 [] mn ?_
  refine ct (t:=118) U (aX fun R=>?_) (aW fun R=>?_)
  ·refine aY 5 U<|RK H<|aT U<|WS fun _ x=>rP 1 [] mn ?_
   refine RK x<|an<|Q1 hQ U U U ?_
   first|exact cB (aQ fun q=>by have A:=q.len; omega).symm|exact cB (aQ fun q=>by exact absurd q.b1 (by simpa using B)).symm|exact cB (aQ fun q=>by have A:=q.dC; omega).symm|exact cB (aQ fun q=>by have A:=q.post i p hp; unfold cf at A; first|omega|exact absurd A.2.2.1 (by simpa using E)|(rw [cb I hy] at A; omega)).symm|exact cB (aQ fun q=>by have A:=q.eQ n (aI hn); unfold bx at A; omega).symm|exact cB (dm (bI I (by simpa using B) I D I (d_ (P:=bx d.ag) I C))).symm
  refine gS 2 [] (mc 0 U mn) U<|rS (CL (eE n.e8 0 36000) (aw) U)<|rP 2 [] mn ?_
  refine RK H<|bq U (aW fun S=>?_) (aX fun S=>?_)
  ·refine cg<|aF<|KK u<|aj<|rP 3 [] mn ?_
   refine aB ?_
   have A2:(vI (((m+1):Nat):Int))=(vI ((m:Int)+1)):=by exact cI I
   refine aU (T ⟨(m+1),⟨I,rp (P:=fun _ y=>bx d.ag y) C hn (by unfold bx; omega)⟩⟩ _ _ _ U os (cE.cons U<|aN U A2<|cE.nil _) (aL [1,2,3,4]))
  refine WS fun _ AC=>rP 1 [] mn ?_
  refine RK AC<|an<|Q1 hQ U U U ?_
  first|exact cB (aQ fun q=>by have A:=q.len; omega).symm|exact cB (aQ fun q=>by exact absurd q.b1 (by simpa using B)).symm|exact cB (aQ fun q=>by have A:=q.dC; omega).symm|exact cB (aQ fun q=>by have A:=q.post i p hp; unfold cf at A; first|omega|exact absurd A.2.2.1 (by simpa using E)|(rw [cb I hy] at A; omega)).symm|exact cB (aQ fun q=>by have A:=q.eQ n (aI hn); unfold bx at A; omega).symm|exact cB (dm (bI I (by simpa using B) I D I (d_ (P:=bx d.ag) I C))).symm
 refine WK V<|ai fun _ N=>ay<|WS fun _ X=>rP 3 [] (mc 0 U mn) ?_
 obtain ⟨p,hp⟩:=bh d.ae i I
 have BR:=bG aV.cells hp
 refine rS (IA i U (aO 2 U) m1 dc I I)<|rS (mY i 0 (aV.cells p) U cz (aO 2 U) BR U dc U U)<|AL U uh fun BZ=>gG U vh U<|RK X<|ai fun _ F=>eA dw 47 kr ?_
 have BY:=BQ p (aI hp)
 refine kX 2 [] (mc 0 U mn) U<|dS (CL (eE p.Id 0 9999) (aw) U)<|dP 2 [] mn ?_
 refine dU (t:=47) U (aX fun A6=>?_) (aW fun A6=>?_)
 ·refine gf 42 U<|cR<|RK F<|aT U<|WS fun _ Y=>rP 1 [] mn ?_
  refine RK Y<|an<|Q1 hQ U U U ?_
  first|exact cB (aQ fun q=>by have A:=q.len; omega).symm|exact cB (aQ fun q=>by exact absurd q.b1 (by simpa using B)).symm|exact cB (aQ fun q=>by have A:=q.dC; omega).symm|exact cB (aQ fun q=>by have A:=q.post i p hp; unfold cf at A; first|omega|exact absurd A.2.2.1 (by simpa using E)|(rw [cb I hy] at A; omega)).symm|exact cB (aQ fun q=>by have A:=q.eQ n (aI hn); unfold bx at A; omega).symm|exact cB (dm (bI I (by simpa using B) I D I (d_ (P:=bx d.ag) I C))).symm
 refine dP 3 [] mn ?_
 refine lV (t:=50) U (aR fun A7=>?_) (aS fun A7=>?_)
 ·refine kX 15 [] (mc 0 U mn) U<|dS (SX (eK (m:=p.Kind) U U rW mZ (dq (by first|assumption|omega))) U U)<|dS (CL (eE p.Kind 1 3) (aw) U)<|dP 3 [] mn ?_
  refine dU (t:=70) U (aX fun AB=>?_) (aW fun AB=>?_)
  ·refine gf 19 U<|cR<|RK F<|aT U<|WS fun _ f=>rP 1 [] mn ?_
   refine RK f<|an<|Q1 hQ U U U ?_
   first|exact cB (aQ fun q=>by have A:=q.len; omega).symm|exact cB (aQ fun q=>by exact absurd q.b1 (by simpa using B)).symm|exact cB (aQ fun q=>by have A:=q.dC; omega).symm|exact cB (aQ fun q=>by have A:=q.post i p hp; unfold cf at A; first|omega|exact absurd A.2.2.1 (by simpa using E)|(rw [cb I hy] at A; omega)).symm|exact cB (aQ fun q=>by have A:=q.eQ n (aI hn); unfold bx at A; omega).symm|exact cB (dm (bI I (by simpa using B) I D I (d_ (P:=bx d.ag) I C))).symm
  refine gf 1 U<|dS (LP (ar.cells (ar.mk (bB.mk kA d.ag.length kC))) 1 U cz U U U)<|dP 1 [] mn ?_
  refine dS (LP (aG.cells p.cp) 0 U cz U U U) ?_
  refine dS (CL (nT d.ag kA kC p.cp sd sd) (bg [2]) U) ?_
  refine dP 3 [] mn ?_
  refine dU (t:=78) U (aX fun E=>?_) (aW fun E=>?_)
  ·refine gf 11 U<|cR<|RK F<|aT U<|WS fun _ g=>rP 1 [] mn ?_
   refine RK g<|an<|Q1 hQ U U U ?_
   first|exact cB (aQ fun q=>by have A:=q.len; omega).symm|exact cB (aQ fun q=>by exact absurd q.b1 (by simpa using B)).symm|exact cB (aQ fun q=>by have A:=q.dC; omega).symm|exact cB (aQ fun q=>by have A:=q.post i p hp; unfold cf at A; first|omega|exact absurd A.2.2.1 (by simpa using E)|(rw [cb I hy] at A; omega)).symm|exact cB (aQ fun q=>by have A:=q.eQ n (aI hn); unfold bx at A; omega).symm|exact cB (dm (bI I (by simpa using B) I D I (d_ (P:=bx d.ag) I C))).symm
  refine kX 2 [] (mc 0 U mn) U<|dS (CL (eE p.gT 0 36000) (aw) U)<|dP 3 [] mn ?_
  refine dU (t:=84) U (aX fun J=>?_) (aW fun J=>?_)
  ·refine gf 5 U<|cR<|RK F<|aT U<|WS fun _ h=>rP 1 [] mn ?_
   refine RK h<|an<|Q1 hQ U U U ?_
   first|exact cB (aQ fun q=>by have A:=q.len; omega).symm|exact cB (aQ fun q=>by exact absurd q.b1 (by simpa using B)).symm|exact cB (aQ fun q=>by have A:=q.dC; omega).symm|exact cB (aQ fun q=>by have A:=q.post i p hp; unfold cf at A; first|omega|exact absurd A.2.2.1 (by simpa using E)|(rw [cb I hy] at A; omega)).symm|exact cB (aQ fun q=>by have A:=q.eQ n (aI hn); unfold bx at A; omega).symm|exact cB (dm (bI I (by simpa using B) I D I (d_ (P:=bx d.ag) I C))).symm
  refine kX 2 [] (mc 0 U mn) U<|dS (CL (eE p.jM 1 1000) (aw) U)<|dP 2 [] mn ?_
  refine cR<|RK F<|bq U (aW fun K=>?_) (aX fun K=>?_)
  ·refine cg<|aF<|KK N<|aj<|rP 3 [] mn ?_
   refine aB ?_
   have A1:(vI (((i+1):Nat):Int))=(vI ((i:Int)+1)):=by exact cI I
   refine aU (M ⟨(i+1),⟨I,jU D hp (by unfold cf; exact ⟨(by first|(rw [gP I]; omega)|(rw [cb I hy]; omega)),I,by simpa using E,I,I⟩)⟩⟩ _ _ _ U os (cE.cons U<|aN U A1<|cE.nil _) (aL [1,2,3,4]))
  refine WS fun _ k=>rP 1 [] mn ?_
  refine RK k<|an<|Q1 hQ U U U ?_
  first|exact cB (aQ fun q=>by have A:=q.len; omega).symm|exact cB (aQ fun q=>by exact absurd q.b1 (by simpa using B)).symm|exact cB (aQ fun q=>by have A:=q.dC; omega).symm|exact cB (aQ fun q=>by have A:=q.post i p hp; unfold cf at A; first|omega|exact absurd A.2.2.1 (by simpa using E)|(rw [cb I hy] at A; omega)).symm|exact cB (aQ fun q=>by have A:=q.eQ n (aI hn); unfold bx at A; omega).symm|exact cB (dm (bI I (by simpa using B) I D I (d_ (P:=bx d.ag) I C))).symm
 refine dP 6 [0,1] (mc 0 U (mc 1 U mn)) ?_
 obtain ⟨y,hy⟩:=bh d.ae (i-1) I
 have BU:=bG aV.cells hy
 refine dS (IA (i-1) U (aO 3 U) m1 dc I I)<|dS (pB ((i-1)*7) U (aO 3 U) (Nat.mul_pos I dc) fZ U)<|dS (g5 (i-1) 0 (vI y.Id) U cz (aO 3 U) BU U dc U)<|dP 4 [] mn ?_
 refine dU (t:=63) U (aS fun A8=>?_) (aR fun A8=>?_)
 ·refine gf 26 U<|cR<|RK F<|aT U<|WS fun _ Z=>rP 1 [] mn ?_
  refine RK Z<|an<|Q1 hQ U U U ?_
  first|exact cB (aQ fun q=>by have A:=q.len; omega).symm|exact cB (aQ fun q=>by exact absurd q.b1 (by simpa using B)).symm|exact cB (aQ fun q=>by have A:=q.dC; omega).symm|exact cB (aQ fun q=>by have A:=q.post i p hp; unfold cf at A; first|omega|exact absurd A.2.2.1 (by simpa using E)|(rw [cb I hy] at A; omega)).symm|exact cB (aQ fun q=>by have A:=q.eQ n (aI hn); unfold bx at A; omega).symm|exact cB (dm (bI I (by simpa using B) I D I (d_ (P:=bx d.ag) I C))).symm
 refine kX 2 [] (mc 0 U mn) U<|dS (SX (eK (m:=p.Kind) U U rW mZ (dq (by first|assumption|omega))) U U)<|dS (CL (eE p.Kind 1 3) (aw) U)<|dP 3 [] mn ?_
 refine dU (t:=70) U (aX fun AB=>?_) (aW fun AB=>?_)
 ·refine gf 19 U<|cR<|RK F<|aT U<|WS fun _ a=>rP 1 [] mn ?_
  refine RK a<|an<|Q1 hQ U U U ?_
  first|exact cB (aQ fun q=>by have A:=q.len; omega).symm|exact cB (aQ fun q=>by exact absurd q.b1 (by simpa using B)).symm|exact cB (aQ fun q=>by have A:=q.dC; omega).symm|exact cB (aQ fun q=>by have A:=q.post i p hp; unfold cf at A; first|omega|exact absurd A.2.2.1 (by simpa using E)|(rw [cb I hy] at A; omega)).symm|exact cB (aQ fun q=>by have A:=q.eQ n (aI hn); unfold bx at A; omega).symm|exact cB (dm (bI I (by simpa using B) I D I (d_ (P:=bx d.ag) I C))).symm
 refine gf 1 U<|dS (LP (ar.cells (ar.mk (bB.mk kA d.ag.length kC))) 1 U cz U U U)<|dP 1 [] mn ?_
 refine dS (LP (aG.cells p.cp) 0 U cz U U U) ?_
 refine dS (CL (nT d.ag kA kC p.cp sd sd) (bg [2]) U) ?_
 refine dP 3 [] mn ?_
 refine dU (t:=78) U (aX fun E=>?_) (aW fun E=>?_)
 ·refine gf 11 U<|cR<|RK F<|aT U<|WS fun _ b=>rP 1 [] mn ?_
  refine RK b<|an<|Q1 hQ U U U ?_
  first|exact cB (aQ fun q=>by have A:=q.len; omega).symm|exact cB (aQ fun q=>by exact absurd q.b1 (by simpa using B)).symm|exact cB (aQ fun q=>by have A:=q.dC; omega).symm|exact cB (aQ fun q=>by have A:=q.post i p hp; unfold cf at A; first|omega|exact absurd A.2.2.1 (by simpa using E)|(rw [cb I hy] at A; omega)).symm|exact cB (aQ fun q=>by have A:=q.eQ n (aI hn); unfold bx at A; omega).symm|exact cB (dm (bI I (by simpa using B) I D I (d_ (P:=bx d.ag) I C))).symm
 refine kX 2 [] (mc 0 U mn) U<|dS (CL (eE p.gT 0 36000) (aw) U)<|dP 3 [] mn ?_
 refine dU (t:=84) U (aX fun J=>?_) (aW fun J=>?_)
 ·refine gf 5 U<|cR<|RK F<|aT U<|WS fun _ c=>rP 1 [] mn ?_
  refine RK c<|an<|Q1 hQ U U U ?_
  first|exact cB (aQ fun q=>by have A:=q.len; omega).symm|exact cB (aQ fun q=>by exact absurd q.b1 (by simpa using B)).symm|exact cB (aQ fun q=>by have A:=q.dC; omega).symm|exact cB (aQ fun q=>by have A:=q.post i p hp; unfold cf at A; first|omega|exact absurd A.2.2.1 (by simpa using E)|(rw [cb I hy] at A; omega)).symm|exact cB (aQ fun q=>by have A:=q.eQ n (aI hn); unfold bx at A; omega).symm|exact cB (dm (bI I (by simpa using B) I D I (d_ (P:=bx d.ag) I C))).symm
 refine kX 2 [] (mc 0 U mn) U<|dS (CL (eE p.jM 1 1000) (aw) U)<|dP 2 [] mn ?_
 refine cR<|RK F<|bq U (aW fun K=>?_) (aX fun K=>?_)
 ·refine cg<|aF<|KK N<|aj<|rP 3 [] mn ?_
  refine aB ?_
  have A0:(vI (((i+1):Nat):Int))=(vI ((i:Int)+1)):=by exact cI I
  refine aU (M ⟨(i+1),⟨I,jU D hp (by unfold cf; exact ⟨(by first|(rw [gP I]; omega)|(rw [cb I hy]; omega)),I,by simpa using E,I,I⟩)⟩⟩ _ _ _ U os (cE.cons U<|aN U A0<|cE.nil _) (aL [1,2,3,4]))
 refine WS fun _ e=>rP 1 [] mn ?_
 refine RK e<|an<|Q1 hQ U U U ?_
 first|exact cB (aQ fun q=>by have A:=q.len; omega).symm|exact cB (aQ fun q=>by exact absurd q.b1 (by simpa using B)).symm|exact cB (aQ fun q=>by have A:=q.dC; omega).symm|exact cB (aQ fun q=>by have A:=q.post i p hp; unfold cf at A; first|omega|exact absurd A.2.2.1 (by simpa using E)|(rw [cb I hy] at A; omega)).symm|exact cB (aQ fun q=>by have A:=q.eQ n (aI hn); unfold bx at A; omega).symm|exact cB (dm (bI I (by simpa using B) I D I (d_ (P:=bx d.ag) I C))).symm
theorem sP (d:ak) (kA:OA) (kC:Nat) (pA:OA) (pC:Nat) (nA:OA) (nC:Nat) (hin:cJ d):
 dx Tryz.prog 23 [(vA (aZ.cells (aZ.mk (ar.mk (bB.mk kA d.ag.length kC)) (bB.mk pA d.ae.length pC) (bB.mk nA d.aq.length nC) d.a2 d.a4)))] [(rd kA d.ag.length 9 (d.ag.map aa.cells)),(rd pA d.ae.length 7 (d.ae.map aV.cells)),(rd nA d.aq.length 3 (d.aq.map bc.cells))] (vI (br d)):=by
 have L:=hin.k3
 have K:=hin.side
 have P:=hin.kb
 have N:=hin.kG
 have M:=hin.nk
 have O:=hin.pk
 refine bD kr Tryz.func23 U U fun S Q hQ hN=>?_
 try dsimp only
 refine WS fun _ C=>fN U fun R=>aY 1 U<|RK C<|ai fun _ D=>WS fun _ E=>rP 1 [] mn ?_
 refine rS (LP (ar.cells (ar.mk (bB.mk kA d.ag.length kC))) 0 U cz U U U) ?_
 refine rS (CL (v_ d.ag kA kC sd) (bg [1]) U) ?_
 refine rP 1 [] mn ?_
 refine RK E<|cG U (fun A=>?_) (fun A=>?_)
 ·rw [Bool.not_eq_true'] at A
  refine WS fun _ F=>rP 1 [] mn ?_
  refine RK F<|an<|Q1 hQ U U U ?_
  first|exact cI (cS (by simpa using A)).symm|exact cI (aD A B).symm|exact cI (cY A B).symm
 rw [Bool.not_eq_false'] at A
 refine WK D<|ai fun _ G=>WS fun _ H=>rP 1 [] (mc 0 U mn) ?_
 refine rS (CL (s6 d kA kC pA pC nA nC hin sd) (rF 1 2 3 U U U U U U) U) ?_
 refine rP 1 [] mn ?_
 refine RK H<|cG U (aX fun B=>?_) (aW fun B=>?_)
 ·refine WS fun _ AA=>rP 1 [] mn ?_
  refine RK AA<|an<|Q1 hQ U U U ?_
  first|exact cI (cS (by simpa using A)).symm|exact cI (aD A B).symm|exact cI (cY A B).symm
 refine WK G<|WS fun _ J=>rP 1 [] mn ?_
 refine RK J<|an<|Q1 hQ U U U ?_
 first|exact cI (cS (by simpa using A)).symm|exact cI (aD A B).symm|exact cI (cY A B).symm
end
section
open Go.RowKit
theorem rm (d:ak) (kA:OA) (kC:Nat) (pA:OA) (pC:Nat) (nA:OA) (nC:Nat) (hraw:fV d):
 dx Tryz.prog 5 [(vA (aZ.cells (aZ.mk (ar.mk (bB.mk kA d.ag.length kC)) (bB.mk pA d.ae.length pC) (bB.mk nA d.aq.length nC) d.a2 d.a4)))] [(rd kA d.ag.length 9 (d.ag.map aa.cells)),(rd pA d.ae.length 7 (d.ae.map aV.cells)),(rd nA d.aq.length 3 (d.aq.map bc.cells))] (vB (decide (kP d))):=by
 refine bD kr Tryz.func5 U U fun F Q hQ hN=>?_
 try dsimp only
 refine WS fun _ C=>fN U fun E=>aY 1 U<|RK C<|WS fun _ B=>gS 1 [] (mc 0 U mn) U<|rS (CL (uE d kA kC pA pC nA nC hraw) (rF 1 2 3 U U U U U U) U)<|rP 2 [] mn ?_
 refine cK (t:=6) U (aW fun A=>?_) (aX fun A=>?_)
 ·refine aY 1 U<|rP 4 [] mn ?_
  refine RK B<|an<|Q1 hQ U U U ?_
  first|exact cB (aQ fun q=>q.1 A).symm|exact cB (dQ.2 ⟨fun q=>⟨A,q⟩,fun q=>q.2⟩)
 refine rP 1 [] (mc 0 U mn) ?_
 have D:=hraw.small A
 refine rS (CL (sP d kA kC pA pC nA nC sd) (rF 1 2 3 U U U U U U) U) ?_
 refine rP 3 [] mn ?_
 refine RK B<|an<|Q1 hQ U U U ?_
 first|exact cB (aQ fun q=>q.1 A).symm|exact cB (dQ.2 ⟨fun q=>⟨A,q⟩,fun q=>q.2⟩)
theorem wh (la:List Int) (laA:OA) (laC:Nat) (n:Int) (hlen:la.length≤1000000):
 dx Tryz.prog 13 [(vS laA la.length laC),(vI n)] [(rd laA la.length 1 (la.map iC))] (vB (decide (n∈la))):=by
 refine bD kr Tryz.func13 U U fun AA Q hQ hN=>?_
 try dsimp only
 refine WS fun _ AB=>aY 1 U<|RK AB<|ai fun _ J=>WS fun _ K=>rP 3 [] mn ?_
 refine RK K<|ay ?_
 have C:(0≤la.length)∧(∀ (j:Nat) y,j<0→la[j]? =some y→y≠n):=by exact ⟨Nat.zero_le _,fun j y hj=>absurd hj (Nat.not_lt_zero _)⟩
 refine bu (ι:={z:Nat // (z≤la.length)∧(∀ (j:Nat) y,j<z→la[j]? =some y→y≠n)}) [1,7,8] [0] U U (fun z=>[(9,(vI (z.1:Int)))]) (fun z=>[]) (fun _=>rfl) (fun _=>rfl) (fun z=>la.length-z.1) ⟨0,C⟩ (a3 U) (aL [0]) ?_
 clear C
 rintro ⟨i,⟨R,A⟩⟩ J4 H
 try dsimp only
 refine WS fun _ L=>rP 1 [] mn ?_
 refine RK L<|ai fun _ M=>bq U (aR fun T=>?_) (aS fun T=>?_)
 ·refine bk<|ab<|ab<|ax<|KK J<|WS fun _ F=>rP 1 [] mn ?_
  refine RK F<|an<|Q1 hQ U U U ?_
  first|exact cB (dm (by rw [← B]; exact aI hx)).symm|exact cB (aQ fun q=>d_ (P:=fun y=>y≠n) I A n q rfl).symm
 refine WK M<|ai fun _ N=>ay<|WS fun _ O=>?_
 obtain ⟨x,hx⟩:=bh la i I
 have S:=bG iC hx
 refine rS (IA i U (aO 0 U) cL dc I I)<|rS (g5 i 0 (vI x) U cz (aO 0 U) S U dc U)<|aY 1 U<|RK O<|WS fun _ D=>rP 3 [] mn ?_
 refine RK D<|cG U (aS fun B=>?_) (aR fun B=>?_)
 ·refine WS fun _ E=>rP 1 [] mn ?_
  refine RK E<|an<|Q1 hQ U U U ?_
  first|exact cB (dm (by rw [← B]; exact aI hx)).symm|exact cB (aQ fun q=>d_ (P:=fun y=>y≠n) I A n q rfl).symm
 refine cg<|aF<|KK N<|aj<|rP 2 [] mn ?_
 refine aB ?_
 have G:(vI (((i+1):Nat):Int))=(vI ((i:Int)+1)):=by exact cI I
 refine aU (H ⟨(i+1),⟨I,rp (P:=fun _ y=>y≠n) A hx B⟩⟩ _ _ _ U os (bL 3<|aN U G<|cE.nil _) (aL [0]))
end
section
open Go.RowKit
theorem xr (x y:Int):
 dx Tryz.prog 90 [(vI x),(vI y)] [] (vI (l3 x y)):=by
 refine bD zX Tryz.func90 U U fun R Q hQ hN=>?_
 try dsimp only
 refine WS fun _ H=>aY 1 U<|RK H<|WS fun _ AA=>aY 1 U<|rS (CL (nL x) (aw) U)<|aY 1 U<|RK AA<|WS fun _ J=>aY 1 U<|rS (CL (nL y) (aw) U)<|aY 1 U<|RK J<|ai fun _ K=>WS fun _ L=>aY 1 U<|RK L<|bp U<|WK K<|ai fun _ M=>WS fun _ N=>aY 1 U<|RK N<|bp U<|WK M<|ai fun _ O=>WS fun _ P=>rP 3 [] mn ?_
 refine RK P<|cG U (aS fun A=>?_) (aR fun A=>?_)
 ·refine WS fun _ C=>rP 1 [] mn ?_
  refine RK C<|an<|Q1 hQ U U U ?_
  first|exact cI (p8 A).symm|exact cI (p7 B).symm|exact cI (qB A B).symm
 refine WK O<|ai fun _ D=>WS fun _ E=>rP 3 [] mn ?_
 refine RK E<|cG U (aS fun B=>?_) (aR fun B=>?_)
 ·refine WS fun _ F=>rP 1 [] mn ?_
  refine RK F<|an<|Q1 hQ U U U ?_
  first|exact cI (p8 A).symm|exact cI (p7 B).symm|exact cI (qB A B).symm
 refine WK D<|WS fun _ G=>rP 1 [] mn ?_
 refine RK G<|an<|Q1 hQ U U U ?_
 first|exact cI (p8 A).symm|exact cI (p7 B).symm|exact cI (qB A B).symm
theorem pR (a:List Int) (aA:OA) (aC:Nat) (b:List Int) (bA:OA) (bC:Nat) (ha:a.length≤1000000) (hb:b.length≤1000000):
 dx Tryz.prog 69 [(vS aA a.length aC),(vS bA b.length bC)] [(rd aA a.length 1 (a.map iC)),(rd bA b.length 1 (b.map iC))] (vI (iO a b)):=by
 refine bD AV Tryz.func69 U U fun h Q hQ hN=>?_
 try dsimp only
 refine WS fun _ T=>aY 1 U<|RK T<|ai fun _ AA=>WS fun _ V=>rP 3 [] mn ?_
 refine RK V<|ay ?_
 have B:(0≤a.length)∧(0≤b.length)∧(iO a b=iO (a.drop 0) (b.drop 0)):=by exact ⟨Nat.zero_le _,Nat.zero_le _,rfl⟩
 refine bu (ι:={z:Nat // (z≤a.length)∧(z≤b.length)∧(iO a b=iO (a.drop z) (b.drop z))}) [0,1,9,10] [0,1] U U (fun z=>[(11,(vI (z.1:Int)))]) (fun z=>[]) (fun _=>rfl) (fun _=>rfl) (fun z=>a.length-z.1) ⟨0,B⟩ (a3 U) (aL [0,1]) ?_
 clear B
 rintro ⟨i,⟨c,d,A⟩⟩ J4 S
 try dsimp only
 refine WS fun _ W=>rP 1 [] mn ?_
 refine RK W<|ai fun _ X=>bq U (aR fun g=>?_) (aS fun g=>?_)
 ·refine bk<|ab<|ab<|ax<|KK AA<|ai fun _ J=>WS fun _ K=>rP 5 [] mn ?_
  refine RK K<|cG U (aS fun R=>?_) (aR fun R=>?_)
  ·refine WS fun _ L=>rP 1 [] mn ?_
   refine RK L<|an<|Q1 hQ U U U ?_
   first|exact cI (by rw [A]; exact (lU I I).symm)|exact cI (by rw [A]; exact (oi hx hy I).symm)|exact cI (by rw [A]; exact (jt I I).symm)|exact cI (by rw [A]; exact (kh I I).symm)
  refine WK J<|WS fun _ M=>rP 1 [] mn ?_
  refine RK M<|an<|Q1 hQ U U U ?_
  first|exact cI (by rw [A]; exact (lU I I).symm)|exact cI (by rw [A]; exact (oi hx hy I).symm)|exact cI (by rw [A]; exact (jt I I).symm)|exact cI (by rw [A]; exact (kh I I).symm)
 refine WK X<|ai fun _ Y=>ay<|WS fun _ Z=>rP 1 [] mn ?_
 obtain ⟨x,hx⟩:=bh a i I
 have e:=bG iC hx
 refine rS (IA i U (aO 0 U) cL dc I I)<|rS (g5 i 0 (vI x) U vw (aO 0 U) e U dc U)<|aY 2 U<|RK Z<|ai fun _ C=>WS fun _ D=>rP 4 [] mn ?_
 refine RK D<|cG U (aS fun O=>?_) (aR fun O=>?_)
 ·refine WS fun _ E=>rP 1 [] mn ?_
  refine RK E<|an<|Q1 hQ U U U ?_
  first|exact cI (by rw [A]; exact (lU I I).symm)|exact cI (by rw [A]; exact (oi hx hy I).symm)|exact cI (by rw [A]; exact (jt I I).symm)|exact cI (by rw [A]; exact (kh I I).symm)
 refine WK C<|WS fun _ F=>rP 2 [] mn ?_
 obtain ⟨y,hy⟩:=bh b i I
 have f:=bG iC hy
 refine rS (IA i U (aO 1 U) cL dc I I)<|rS (g5 i 0 (vI y) U vw (aO 1 U) f U dc U)<|aY 1 U<|RK F<|WS fun _ G=>aY 2 U<|rS (CL (xr x y) (aw) U)<|aY 1 U<|RK G<|WS fun _ H=>rP 2 [] mn ?_
 refine RK H<|bq U (aW fun P=>?_) (aX fun P=>?_)
 ·refine cg<|aF<|KK Y<|aj<|rP 2 [] mn ?_
  refine aB ?_
  have N:(vI (((i+1):Nat):Int))=(vI ((i:Int)+1)):=by exact cI I
  refine aU (S ⟨(i+1),⟨I,I,A.trans (tQ hx hy I)⟩⟩ _ _ _ U os (bL 4<|aN U N<|cE.nil _) (aL [0,1]))
 refine WS fun _ AB=>rP 2 [] mn ?_
 refine RK AB<|an<|Q1 hQ U U U ?_
 first|exact cI (by rw [A]; exact (lU I I).symm)|exact cI (by rw [A]; exact (oi hx hy I).symm)|exact cI (by rw [A]; exact (jt I I).symm)|exact cI (by rw [A]; exact (kh I I).symm)
theorem xY (l:List aV) (lA:OA) (lC:Nat) (f:Value) (p:Int→Bool) (X:ah) (hf: ∀ x0,(∃ z:Nat,x0=(z:Int)∧z<2^l.length)→uU Tryz.prog f [.int .i64 x0] [X] (.bool (p x0))) (hlen:l.length≤8):
 jH Tryz.prog 40 [(vS lA l.length lC),f] [(rd lA l.length 7 (l.map aV.cells)),X] (fun (x:(List Int)×(OA)×Nat×Bool)=>(vT [(vS x.2.1 x.1.length x.2.2.1),(vB x.2.2.2)])) (fun (x:(List Int)×(OA)×Nat×Bool)=>eu l.length (fun z=>p (z:Int)) (2^l.length)=cond x.2.2.2 (some x.1) none) (fun (x:(List Int)×(OA)×Nat×Bool)=>[(own x.2.1 x.2.2.1 3 1 (x.1.map iC))]):=by
 have BB:=iu hlen
 refine dh AS Tryz.func40 U U fun w0 Q hQ hN=>?_
 try dsimp only
 refine WS fun _ A0=>aY 2 U<|RK A0<|ai fun _ A1=>WS fun _ A2=>rP 2 [] mn ?_
 refine rS (BI U (oc (i:=l.length) I I)) ?_
 refine rP 1 [] mn ?_
 refine RK A2<|ay<|ep 3 1 ?_
 have D:(0≤2^l.length)∧(eu l.length (fun z=>p (z:Int)) 0=cond false (some ([]:List Int)) none)∧(([]:List Int).length≤8):=by exact ⟨Nat.zero_le _,rfl,Nat.zero_le _⟩
 refine bu (ι:={z:Nat×(List Int)×(OA)×Nat×Bool // (z.1≤2^l.length)∧(eu l.length (fun z=>p (z:Int)) z.1=cond z.2.2.2.2 (some z.2.1) none)∧(z.2.1.length≤8)}) [0,1,11] [1,2] U U (fun z=>[(4,(vS z.1.2.2.1 z.1.2.1.length z.1.2.2.2.1)),(5,(vB z.1.2.2.2.2)),(12,(vI (z.1.1:Int)))]) (fun z=>[(own z.1.2.2.1 z.1.2.2.2.1 3 1 (z.1.2.1.map iC))]) (fun _=>rfl) (fun _=>rfl) (fun z=>2^l.length-z.1.1) ⟨(0,([]:List Int),none,0,false),D⟩ (a3 U) (aL [1,2,0]) ?_
 clear D
 rintro ⟨⟨zz,fl,fa,fc,bo⟩,⟨L,A,M⟩⟩ J4 E
 try dsimp only at L A M
 try dsimp only
 refine WS fun _ A3=>rP 1 [] mn ?_
 refine RK A3<|ai fun _ A4=>bq U (aR fun h7=>?_) (aS fun h7=>?_)
 ·refine bk<|ab<|ab<|ax<|KK A1<|WS fun _ a=>aY 2 U<|rP 2 [] mn ?_
  refine RK a<|an<|LX hQ (fl,fa,fc,bo) [2] [] mn U U U U ?_
  (rw [show 2^l.length=zz by omega]; exact A)
 refine WK A4<|ai fun _ F=>ay<|WS fun _ A5=>aY 2 U<|RK A5<|WS fun _ O=>aY 1 U<|RK O<|ai fun _ P=>WS fun _ R=>rP 3 [] mn ?_
 refine RK R<|ay<|ep 3 1 ?_
 have D:(0≤l.length):=by exact Nat.zero_le _
 refine bu (ι:={z:Nat×(OA)×Nat // (z.1≤l.length)}) [0,1,4,5,6,11,12,15,16] [1,2,3] U U (fun z=>[(7,(vS z.1.2.1 ((bZ z.1.1 (bH zz)).length) z.1.2.2)),(17,(vI (z.1.1:Int)))]) (fun z=>[(own z.1.2.1 z.1.2.2 3 1 ((bZ z.1.1 (bH zz)).map iC))]) (fun _=>rfl) (fun _=>rfl) (fun z=>l.length-z.1.1) ⟨(0,none,0),D⟩ (a3 U) (aL [1,2,3,0]) ?_
 clear D
 rintro ⟨⟨j,la,lc⟩,N⟩ J13 J
 try dsimp only at N
 try dsimp only
 refine WS fun _ S=>rP 1 [] mn ?_
 refine RK S<|ai fun _ T=>cG U (aS fun AQ=>?_) (aR fun AQ=>?_)
 ·refine WK T<|ai fun _ K=>ay<|WS fun _ AA=>aY 2 U<|RK AA<|WS fun _ V=>rP 2 [] mn ?_
  refine rS (BI U (qb (i:=j) I I)) ?_
  refine rS (BI U (qy (m:=(zz/2^j)) I (Nat.lt_of_le_of_lt (Nat.div_le_self _ _) I)))<|rP 1 [] mn ?_
  refine RK V<|bq U (aR fun AB=>?_) (aS fun AB=>?_)
  ·refine cg<|aF<|KK K<|aj<|rP 2 [] mn ?_
   refine aB ?_
   rw [show (bZ j (bH zz))=(bZ (j+1) (bH zz)) from (fP (fun q=>AB (gj.2 q))).symm]
   have c:(vI (((j+1):Nat):Int))=(vI ((j:Int)+1)):=by exact cI I
   refine aU (J ⟨((j+1),la,lc),(by first|omega|(simp only []; omega))⟩ _ _ _ U os (bL 10<|aN U c<|cE.nil _) (aL [0,1,2,3]))
  refine aj<|rP 2 [] mn ?_
  refine df (xs:=[.tmp 26]) (cs:=[(vI (j:Int))]) U cL gY U U U U (by simp [Value.cells]) U U fun A6=>?_
  refine dG (es2:=(List.map iC (bZ (j+1) (bH zz)))) (m':=(bZ (j+1) (bH zz)).length) 4 U U U mo U U sm (aK (es:=List.map iC [(j:Int)]) 0 U U (by simp [ba]) U) (gX _) (by have:=dE (n:=j) (p:=bH zz); omega) (by have:=dE (n:=j) (p:=bH zz); simp only [maxLen]; omega) (by rw [fm (p:=bH zz) (gj.1 AB)]; simp) sm U fun y AC=>?_
  try dsimp only
  refine aY 1 U<|aB<|aF<|KK K<|aj<|rP 2 [] mn ?_
  refine aB ?_
  have b:(vI (((j+1):Nat):Int))=(vI ((j:Int)+1)):=by exact cI I
  refine aU (J ⟨((j+1),y,AC),(by first|omega|(simp only []; omega))⟩ _ _ _ U os (bL 10<|aN U b<|cE.nil _) (aL [1,2,3,4]))
 refine bk<|ab<|ab<|ax<|KK P<|ai fun _ H=>WS fun _ G=>?_
 have A8:=dE (n:=l.length) (p:=bH zz)
 rw [show bZ j (bH zz)=bZ l.length (bH zz) from by rw [show j=l.length by omega]]
 refine rP 2 [] mn ?_
 refine cK (t:=31) U (fun C=>?_) (fun C=>?_)
 ·refine aY 19 U<|RK G<|bp U<|WK H<|WS fun _ Z=>rP 2 [] mn ?_
  refine rS (SX (jd U U U (hf (zz:Int) ⟨zz,U,I⟩) (bg [1])) U U)<|RK Z<|bq U (fun B=>?_) (fun B=>?_)
  ·refine cg<|aF<|KK F<|aj<|rP 2 [] mn ?_
   refine aB ?_
   have s:(vI (((zz+1):Nat):Int))=(vI ((zz:Int)+1)):=by exact cI I
   refine aU (E ⟨((zz+1),fl,fa,fc,bo),⟨dso,by dsimp only; first|exact ej A C (by unfold eM; omega)|exact ew A B|exact fu A (fun hb=>by first|exact absurd (C.symm.trans hb) Bool.false_ne_true|(unfold eM; omega)) B,dso⟩⟩ _ _ _ U os (bL 5<|aN U s<|cE.nil _) (aL [0,1,2]))
  refine aj<|aY 1 U<|aY 2 U<|aB<|aF<|KK F<|aj<|rP 2 [] mn ?_
  refine aB ?_
  have r:(vI (((zz+1):Nat):Int))=(vI ((zz:Int)+1)):=by exact cI I
  refine aU (E ⟨((zz+1),(bZ l.length (bH zz)),la,lc,true),⟨dso,by dsimp only; first|exact ej A C (by unfold eM; omega)|exact ew A B|exact fu A (fun hb=>by first|exact absurd (C.symm.trans hb) Bool.false_ne_true|(unfold eM; omega)) B,dso⟩⟩ _ _ _ U os (bL 5<|aN U r<|cE.nil _) (aL [0,1,3]))
 refine rP 6 [] mn ?_
 refine ct (t:=37) U (aS fun u=>?_) (aR fun u=>?_)
 ·refine aY 13 U<|RK G<|aT U<|bk<|ab<|ax<|KK F<|aj<|rP 2 [] mn ?_
  refine aB ?_
  have d:(vI (((zz+1):Nat):Int))=(vI ((zz:Int)+1)):=by exact cI I
  refine aU (E ⟨((zz+1),fl,fa,fc,bo),⟨dso,by dsimp only; first|exact ej A C (by unfold eM; omega)|exact ew A B|exact fu A (fun hb=>by first|exact absurd (C.symm.trans hb) Bool.false_ne_true|(unfold eM; omega)) B,dso⟩⟩ _ _ _ U os (bL 5<|aN U d<|cE.nil _) (aL [0,1,2]))
 refine rP 6 [] mn ?_
 refine cK (t:=43) U (aR fun v=>?_) (aS fun v=>?_)
 ·refine aY 7 U<|RK G<|bp U<|WK H<|WS fun _ Y=>rP 2 [] mn ?_
  refine rS (SX (jd U U U (hf (zz:Int) ⟨zz,U,I⟩) (bg [1])) U U)<|RK Y<|bq U (fun B=>?_) (fun B=>?_)
  ·refine cg<|aF<|KK F<|aj<|rP 2 [] mn ?_
   refine aB ?_
   have o:(vI (((zz+1):Nat):Int))=(vI ((zz:Int)+1)):=by exact cI I
   refine aU (E ⟨((zz+1),fl,fa,fc,bo),⟨dso,by dsimp only; first|exact ej A C (by unfold eM; omega)|exact ew A B|exact fu A (fun hb=>by first|exact absurd (C.symm.trans hb) Bool.false_ne_true|(unfold eM; omega)) B,dso⟩⟩ _ _ _ U os (bL 5<|aN U o<|cE.nil _) (aL [0,1,2]))
  refine aj<|aY 1 U<|aY 2 U<|aB<|aF<|KK F<|aj<|rP 2 [] mn ?_
  refine aB ?_
  have k:(vI (((zz+1):Nat):Int))=(vI ((zz:Int)+1)):=by exact cI I
  refine aU (E ⟨((zz+1),(bZ l.length (bH zz)),la,lc,true),⟨dso,by dsimp only; first|exact ej A C (by unfold eM; omega)|exact ew A B|exact fu A (fun hb=>by first|exact absurd (C.symm.trans hb) Bool.false_ne_true|(unfold eM; omega)) B,dso⟩⟩ _ _ _ U os (bL 5<|aN U k<|cE.nil _) (aL [0,1,3]))
 refine aY 2 U<|rS (CL (pR (bZ l.length (bH zz)) la lc fl fa fc I I) (av (au (n:=(bZ l.length (bH zz)).length) 3 U sm)<|av (au (n:=fl.length) 2 U sm)<|aw) U)<|rP 4 [] mn ?_
 refine RK G<|cG U (aS fun w=>?_) (aR fun w=>?_)
 ·refine bk<|ab<|ax<|KK F<|aj<|rP 2 [] mn ?_
  refine aB ?_
  have e:(vI (((zz+1):Nat):Int))=(vI ((zz:Int)+1)):=by exact cI I
  refine aU (E ⟨((zz+1),fl,fa,fc,bo),⟨dso,by dsimp only; first|exact ej A C (by unfold eM; omega)|exact ew A B|exact fu A (fun hb=>by first|exact absurd (C.symm.trans hb) Bool.false_ne_true|(unfold eM; omega)) B,dso⟩⟩ _ _ _ U os (bL 5<|aN U e<|cE.nil _) (aL [0,1,2]))
 refine WK H<|WS fun _ W=>rP 2 [] mn ?_
 refine rS (SX (jd U U U (hf (zz:Int) ⟨zz,U,I⟩) (bg [1])) U U)<|RK W<|bq U (fun B=>?_) (fun B=>?_)
 ·refine cg<|aF<|KK F<|aj<|rP 2 [] mn ?_
  refine aB ?_
  have h:(vI (((zz+1):Nat):Int))=(vI ((zz:Int)+1)):=by exact cI I
  refine aU (E ⟨((zz+1),fl,fa,fc,bo),⟨dso,by dsimp only; first|exact ej A C (by unfold eM; omega)|exact ew A B|exact fu A (fun hb=>by first|exact absurd (C.symm.trans hb) Bool.false_ne_true|(unfold eM; omega)) B,dso⟩⟩ _ _ _ U os (bL 5<|aN U h<|cE.nil _) (aL [0,1,2]))
 refine aj<|aY 1 U<|aY 2 U<|aB<|aF<|KK F<|aj<|rP 2 [] mn ?_
 refine aB ?_
 have g:(vI (((zz+1):Nat):Int))=(vI ((zz:Int)+1)):=by exact cI I
 refine aU (E ⟨((zz+1),(bZ l.length (bH zz)),la,lc,true),⟨dso,by dsimp only; first|exact ej A C (by unfold eM; omega)|exact ew A B|exact fu A (fun hb=>by first|exact absurd (C.symm.trans hb) Bool.false_ne_true|(unfold eM; omega)) B,dso⟩⟩ _ _ _ U os (bL 5<|aN U g<|cE.nil _) (aL [0,1,3]))
end
section
open Go.RowKit
theorem x2 (x:Int) (d:ak) (kA:OA) (kC:Nat) (pA:OA) (pC:Nat) (nA:OA) (nC:Nat) (tz:List RA) (tA:OA) (tC gw g1:Nat) (hin:cJ d) (htr:a_ d.ag=true) (hok:dO d) (htz:tz.length=d.ae.length) (hx:0≤x∧x<256):
 dx Tryz.prog 41 [(vI x),(vP g1)] [(rd kA d.ag.length 9 (d.ag.map aa.cells)),(rd pA d.ae.length 7 (d.ae.map aV.cells)),(rd nA d.aq.length 3 (d.aq.map bc.cells)),(rd tA ((bj d).length) 1 (List.zipWith jF (bj d) tz)),(m7 (ga ku (bj d) tz)),(cv gw 76 (cd.cells (cd.mk (aZ.mk (ar.mk (bB.mk kA d.ag.length kC)) (bB.mk pA d.ae.length pC) (bB.mk nA d.aq.length nC) d.a2 d.a4) (bB.mk tA ((bj d).length) tC)))),(cv g1 71 [(vP gw)])] (vB (decide (cy d (bH x.toNat)))):=by
 have D:=hin.k3
 have C:=hin.side
 have H:=hin.kb
 have F:=hin.kG
 have E:=hin.nk
 have G:=hin.pk
 obtain ⟨s,rfl⟩: ∃ s:Nat,x=(s:Int):=⟨x.toNat,I⟩
 refine bD kr Tryz.func41 U U fun AA Q hQ hN=>?_
 try dsimp only
 refine WS fun _ A=>aY 1 U<|RK A<|WS fun _ B=>rP 2 [] (mr 6 U mn) ?_
 refine rS (CL (nF d kA kC pA pC nA nC tz tA tC gw s hin htr hok htz sd) (bg [0,1,2,3,4,5]) U) ?_
 refine rP 1 [] mn ?_
 refine RK B<|an ?_
 exact Q1 hQ U U U U
theorem tO (d:ak) (kA:OA) (kC:Nat) (pA:OA) (pC:Nat) (nA:OA) (nC:Nat) (hin:cJ d):
 jH Tryz.prog 17 [(vA (aZ.cells (aZ.mk (ar.mk (bB.mk kA d.ag.length kC)) (bB.mk pA d.ae.length pC) (bB.mk nA d.aq.length nC) d.a2 d.a4)))] [(rd kA d.ag.length 9 (d.ag.map aa.cells)),(rd pA d.ae.length 7 (d.ae.map aV.cells)),(rd nA d.aq.length 3 (d.aq.map bc.cells))] (fun (x:(OA)×Nat)=>(vT [(vS x.1 ((lK d).length) x.2),(vI (qC d))])) (fun (x:(OA)×Nat)=>True) (fun (x:(OA)×Nat)=>[(own x.1 x.2 3 1 ((lK d).map iC))]):=by
 have s:=hin.k3
 have k:=hin.side
 have AC:=hin.kb
 have w:=hin.kG
 have v:=hin.nk
 have z:=hin.pk
 refine dh kr Tryz.func17 U U fun w0 Q hQ hN=>?_
 try dsimp only
 refine WS fun _ h=>fN U fun b2=>aY 2 U<|RK h<|WS fun _ W=>rP 1 [] (mc 0 U mn) ?_
 refine cX (kz d kA kC pA pC nA nC hin) (rF 1 2 3 U U U U U U) U fun y4 a=>?_
 obtain ⟨b,u,K,L,c,F⟩:=y4
 cases b
 ·obtain ⟨Y,he⟩:=a.2 rfl
  try dsimp only at Y he
  subst Y
  try dsimp only [cond_true,cond_false,List.cons_append,List.nil_append]
  refine aY 3 U<|AL U yO fun t=>z3 U yg U U<|aY 1 U<|RK W<|ai fun _ q=>WS fun _ N=>rP 2 [] mn ?_
  refine RK N<|bq U (aW fun J=>?_) (aX fun J=>?_)
  ·exact absurd J he
  refine WS fun _ O=>rP 1 [] mn ?_
  obtain ⟨E,B⟩:=v5 he
  refine ea 3 1 ?_
  rw [show (own none 0 3 1 ([]:List (List Value)))=own none 0 3 1 ((lK d).map iC) from by rw [B]; rfl]
  refine rP 2 [] mn ?_
  refine RK O<|an ?_
  refine LX hQ (none,0) [0] [] mn U U U ?_ ?_
  ·(rw [E]<;>first|rfl|(rw [B]; rfl))
  ·trivial
 obtain ⟨he,l⟩:=a.1 rfl
 try dsimp only [cond_true,cond_false,List.cons_append,List.nil_append]
 obtain ⟨AQ,j⟩:=cO he
 have i:=j.len
 have y:=iu i.1
 refine aY 3 U<|AL U yO fun G=>z3 U yg U U<|aY 1 U<|RK W<|ai fun _ P=>WS fun _ R=>aY 1 U<|rS (SX (cj (r:= .bool false) U U U eY) U U)<|RK R<|bp U<|WK P<|WS fun _ S=>rP 2 [] (mc 4 U mn) ?_
 refine rS (FU U) ?_
 refine cX (xY d.ae pA pC (Value.func (.func 41) [].toArray [(vP G)].toArray) (fun M=>(decide (cy d (bH M.toNat)))) (m7 [(rd kA d.ag.length 9 (d.ag.map aa.cells)),(rd pA d.ae.length 7 (d.ae.map aV.cells)),(rd nA d.aq.length 3 (d.aq.map bc.cells)),(rd L ((bj d).length) 1 (List.zipWith jF (bj d) F)),(m7 (ga ku (bj d) F)),(cv K 76 (cd.cells (cd.mk (aZ.mk (ar.mk (bB.mk kA d.ag.length kC)) (bB.mk pA d.ae.length pC) (bB.mk nA d.aq.length nC) d.a2 d.a4) (bB.mk L ((bj d).length) c)))),(cv G 71 [(vP K)])]) (by intro M D; exact jY (fi:=[]) (ca:=[(vP G)]) (iy (x2 M d kA kC pA pC nA nC F L c K G (by first|assumption|(obtain ⟨e,H,AB⟩:=D; omega)|omega) (by first|assumption|(obtain ⟨e,H,AB⟩:=D; omega)|omega) (by first|assumption|(obtain ⟨e,H,AB⟩:=D; omega)|omega) (by first|assumption|(obtain ⟨e,H,AB⟩:=D; omega)|omega) (by first|assumption|(obtain ⟨e,H,AB⟩:=D; omega)|omega)) (bg [0,1,2,3,4,5,6]))) I) (eB 6 rfl rfl<|av (jw (fG [5,6,7]<|av (au (n:=(bj d).length) 2 rfl (fQ (by rw [dD]; exact l)))<|av (f_ 3 rfl iU)<|eB 1 rfl rfl<|eB 0 rfl rfl<|aw))<|aw) rfl fun m Z=>?_
 obtain ⟨p,f,g,o⟩:=m
 try dsimp only
 have A:=Z
 refine aY 5 U<|RK S<|ai fun _ T=>WS fun _ AA=>rP 2 [] mn ?_
 refine RK AA<|bq U (fun C=>?_) (fun C=>?_)
 ·rw [Bool.not_eq_false'] at C
  refine WK T<|WS fun _ X=>?_
  try dsimp only at A
  obtain ⟨E,B⟩:=oQ he (by rw [C] at A; exact A)
  rw [← B]
  refine aY 1 U<|rP 2 [] mn ?_
  refine RK X<|an ?_
  refine LX hQ (f,g) [0] [] mn U U U ?_ ?_
  ·(rw [E]<;>first|rfl|(rw [B]; rfl))
  ·trivial
 rw [Bool.not_eq_true'] at C
 refine WS fun _ V=>?_
 try dsimp only at A
 obtain ⟨E,B⟩:=sX he (by rw [C] at A; exact A)
 refine ea 3 1 ?_
 rw [show (own none 0 3 1 ([]:List (List Value)))=own none 0 3 1 ((lK d).map iC) from by rw [B]; rfl]
 refine rP 2 [] mn ?_
 refine RK V<|an ?_
 refine LX hQ (none,0) [0] [] mn U U U ?_ ?_
 ·(rw [E]<;>first|rfl|(rw [B]; rfl))
 ·trivial
end
section
open Go.RowKit
theorem iG (x y:Int):
 dx Tryz.prog 37 [(vI x),(vI y)] [] (vA (al.cells (al.mk x y))):=by
 refine bD kr Tryz.func37 U U fun D Q hQ hN=>?_
 try dsimp only
 refine WS fun _ A=>AL U eG fun C=>RK A<|WS fun _ B=>rP 2 [] mn ?_
 refine rS (SX (bl (xs:=[(0,.tmp 5),(1,.tmp 6)]) (cs:=(al.cells (al.mk x y))) U U (bm jD U)) U U)<|gG U dB U<|RK B<|an ?_
 exact zC hQ [0] (mc 0 U mn) U U
theorem fK (r:Int):
 jH Tryz.prog 15 [(vI r)] [] (fun (x:(OA)×Nat×(OA)×Nat×(OA)×Nat)=>(vA (aZ.cells (aZ.mk (ar.mk (bB.mk x.1 ((cm r 100).ag.length) x.2.1)) (bB.mk x.2.2.1 ((cm r 100).ae.length) x.2.2.2.1) (bB.mk x.2.2.2.2.1 ((cm r 100).aq.length) x.2.2.2.2.2) ((cm r 100).a2) ((cm r 100).a4))))) (fun (x:(OA)×Nat×(OA)×Nat×(OA)×Nat)=>True) (fun (x:(OA)×Nat×(OA)×Nat×(OA)×Nat)=>[(own x.1 x.2.1 85 9 ((cm r 100).ag.map aa.cells)),(own x.2.2.1 x.2.2.2.1 70 7 ((cm r 100).ae.map aV.cells)),(own x.2.2.2.2.1 x.2.2.2.2.2 82 3 ((cm r 100).aq.map bc.cells))]):=by
 refine dh kr Tryz.func15 U U fun G Q hQ hN=>?_
 try dsimp only
 refine WS fun _ D=>AL U wT fun F=>RK D<|WS fun _ E=>rS (CL (iG 10000 10200) (aw) U)<|rS (SX (bl (xs:=[(0,.const (vI 1)),(1,.tmp 3)]) (cs:=(aa.cells (aa.mk 1 (al.mk 10000 10200) (al.mk 0 0) (al.mk 0 0) 0 0))) U U (bm zi U)) U U)<|rS (CL (iG 5000 5000) (aw) U)<|rS (CL (iG 2000 2000) (aw) U)<|rS (SX (bl (xs:=[(0,.const (vI 2)),(1,.tmp 5),(3,.tmp 6),(4,.const (Value.int .u8 1))]) (cs:=(aa.cells (aa.mk 2 (al.mk 5000 5000) (al.mk 0 0) (al.mk 2000 2000) 1 0))) U U (bm zi U)) U U)<|df (xs:=[.tmp 4,.tmp 7]) (cs:=((aa.cells (aa.mk 1 (al.mk 10000 10200) (al.mk 0 0) (al.mk 0 0) 0 0))++(aa.cells (aa.mk 2 (al.mk 5000 5000) (al.mk 0 0) (al.mk 2000 2000) 1 0)))) U kg xW U U U U (by simp [Value.cells,aa.aP]) U U fun A=>rS (SX (bl (xs:=[(0,.tmp 8)]) (cs:=(ar.cells (ar.mk (bB.mk (some ⟨A,0,none⟩) 2 2)))) U U (bm rY U)) U U)<|rS (CL (iG 9000 9000) (aw) U)<|rS (SX (bl (xs:=[(1,.tmp 10)]) (cs:=(aG.cells (aG.mk 0 (al.mk 9000 9000)))) U U (bm ue U)) U U)<|rS (SX (bl (xs:=[(0,.const (vI 2)),(1,.const (Value.int .u8 1)),(2,.tmp 11),(3,.const (vI 20)),(4,.const (vI 10))]) (cs:=(aV.cells (aV.mk 2 1 (aG.mk 0 (al.mk 9000 9000)) 20 10))) U U (bm xI U)) U U)<|rS (CL (iG 1000 1000) (aw) U)<|rS (SX (bl (xs:=[(0,.const (vI 1)),(1,.tmp 13)]) (cs:=(aG.cells (aG.mk 1 (al.mk 1000 1000)))) U U (bm ue U)) U U)<|rS (SX (bl (xs:=[(0,.const (vI 5)),(1,.const (Value.int .u8 1)),(2,.tmp 14),(3,.const (vI 30)),(4,.const (vI 10))]) (cs:=(aV.cells (aV.mk 5 1 (aG.mk 1 (al.mk 1000 1000)) 30 10))) U U (bm xI U)) U U)<|rS (CL (iG 4000 4000) (aw) U)<|rS (SX (bl (xs:=[(0,.const (vI 1)),(1,.tmp 16)]) (cs:=(aG.cells (aG.mk 1 (al.mk 4000 4000)))) U U (bm ue U)) U U)<|rS (SX (bl (xs:=[(0,.const (vI 6)),(1,.const (Value.int .u8 1)),(2,.tmp 17),(3,.const (vI 10)),(4,.const (vI 10))]) (cs:=(aV.cells (aV.mk 6 1 (aG.mk 1 (al.mk 4000 4000)) 10 10))) U U (bm xI U)) U U)<|df (xs:=[.tmp 12,.tmp 15,.tmp 18]) (cs:=((aV.cells (aV.mk 2 1 (aG.mk 0 (al.mk 9000 9000)) 20 10))++(aV.cells (aV.mk 5 1 (aG.mk 1 (al.mk 1000 1000)) 30 10))++(aV.cells (aV.mk 6 1 (aG.mk 1 (al.mk 4000 4000)) 10 10)))) U m1 uh U U U U (by simp [Value.cells,aV.aP]) U U fun B=>rS (SX (bl (xs:=[(0,.const (vI 1)),(1,.const (Value.int .u8 1)),(2,.const (vI 100))]) (cs:=(bc.cells (bc.mk 1 1 100))) U U (bm Au U)) U U)<|df (xs:=[.tmp 20]) (cs:=(bc.cells (bc.mk 1 1 100))) U sN xP U U U U (by simp [Value.cells,bc.aP]) U U fun C=>rS (CL (iG 5000 5000) (aw) U)<|rS (SX (bl (xs:=[(1,.tmp 22)]) (cs:=(aG.cells (aG.mk 0 (al.mk 5000 5000)))) U U (bm ue U)) U U)<|rP 1 [] mn ?_
 refine rS (SX (bl (xs:=[(0,.tmp 9),(1,.tmp 19),(2,.tmp 21),(3,.tmp 23),(4,.tmp 24)]) (cs:=(aZ.cells (aZ.mk (ar.mk (bB.mk (some ⟨A,0,none⟩) 2 2)) (bB.mk (some ⟨B,0,none⟩) 3 3) (bB.mk (some ⟨C,0,none⟩) 1 1) (aG.mk 0 (al.mk 5000 5000)) r))) U U (bm AY U)) U U) ?_
 refine eI (es:=((cm r 100).ag.map aa.cells)) (C':=[_,_,(own (some ⟨A,0,none⟩) 2 85 9 ((cm r 100).ag.map aa.cells)),_]) 2 U (lX aa.aP _) U (by show _≤maxLen; exact Nat.le_trans (m:=10) (by first|decide|(show (1:Nat)≤10; decide)|(show (2:Nat)≤10; decide)|(show (3:Nat)≤10; decide)) dc) U ?_
 refine eI (es:=((cm r 100).ae.map aV.cells)) (C':=[_,(own (some ⟨B,0,none⟩) 3 70 7 ((cm r 100).ae.map aV.cells)),_,_]) 1 U (lX aV.aP _) U (by show _≤maxLen; exact Nat.le_trans (m:=10) (by first|decide|(show (1:Nat)≤10; decide)|(show (2:Nat)≤10; decide)|(show (3:Nat)≤10; decide)) dc) U ?_
 refine eI (es:=((cm r 100).aq.map bc.cells)) (C':=[(own (some ⟨C,0,none⟩) 1 82 3 ((cm r 100).aq.map bc.cells)),_,_,_]) 0 U (lX bc.aP _) U (by show _≤maxLen; exact Nat.le_trans (m:=10) (by first|decide|(show (1:Nat)≤10; decide)|(show (2:Nat)≤10; decide)|(show (3:Nat)≤10; decide)) dc) U ?_
 refine tL U w8 U<|RK E<|an<|LX hQ ((some ⟨A,0,none⟩),2,(some ⟨B,0,none⟩),3,(some ⟨C,0,none⟩),1) [2,1,0] [0] (mc 3 U mn) U U U U ?_
 trivial
end
section
open Go.RowKit
theorem qR (a n t:Int):
 dx Tryz.prog 19 [(vI a),(vI n),(vI t)] [] (vB (decide (qO a n t))):=by
 refine bD kr Tryz.func19 U U fun Y Q hQ hN=>?_
 try dsimp only
 refine WS fun _ S=>rP 1 [] mn ?_
 refine RK S<|WS fun _ T=>cX (fK 6000) (aw) U fun X W=>?_
 obtain ⟨M,P,N,R,O,J⟩:=X
 try dsimp only
 refine aY 1 U<|rS (CL (uJ (ak.mk ((cm 6000 100).ag) ((cm 6000 100).ae) ((cm 6000 100).aq) ((cm 6000 100).a2) ((cm 6000 100).a4)) M P N R O J a 1 (by exact j0)) (av (au (n:=((cm 6000 100).ag).length) 0 U sm)<|av (au (n:=((cm 6000 100).ae).length) 1 U sm)<|av (au (n:=((cm 6000 100).aq).length) 2 U sm)<|aw) U)<|rP 5 [] mn ?_
 refine RK T<|WS fun _ L=>cX (fK 6000) (aw) U fun AA V=>?_
 obtain ⟨E,H,F,AB,G,K⟩:=AA
 try dsimp only
 refine aY 1 U<|rS (CL (qe (ak.mk ((cm 6000 100).ag) ((cm 6000 100).ae) ((cm 6000 100).aq) ((cm 6000 100).a2) ((cm 6000 100).a4)) E H F AB G K a 1 (by exact j0)) (av (au (n:=((cm 6000 100).ag).length) 0 U sm)<|av (au (n:=((cm 6000 100).ae).length) 1 U sm)<|av (au (n:=((cm 6000 100).aq).length) 2 U sm)<|aw) U)<|aY 5 U<|RK L<|WS fun _ D=>rP 3 [] mn ?_
 refine cK (t:=25) U (aR fun A=>?_) (aS fun A=>?_)
 ·refine rP 14 [] mn ?_
  refine RK D<|an<|Q1 hQ U U U ?_
  first|exact cB (aQ fun q=>A q.1.1).symm|exact cB (aQ fun q=>B q.1.2).symm|exact cB (aQ fun q=>C q.2.1).symm|exact cB (dQ.2 ⟨fun q=>⟨⟨A,B⟩,C,q⟩,fun q=>q.2.2⟩)
 refine rP 5 [] mn ?_
 refine cK (t:=30) U (aR fun B=>?_) (aS fun B=>?_)
 ·refine rP 9 [] mn ?_
  refine RK D<|an<|Q1 hQ U U U ?_
  first|exact cB (aQ fun q=>A q.1.1).symm|exact cB (aQ fun q=>B q.1.2).symm|exact cB (aQ fun q=>C q.2.1).symm|exact cB (dQ.2 ⟨fun q=>⟨⟨A,B⟩,C,q⟩,fun q=>q.2.2⟩)
 refine rP 4 [] mn ?_
 refine cK (t:=34) U (aR fun C=>?_) (aS fun C=>?_)
 ·refine rP 5 [] mn ?_
  refine RK D<|an<|Q1 hQ U U U ?_
  first|exact cB (aQ fun q=>A q.1.1).symm|exact cB (aQ fun q=>B q.1.2).symm|exact cB (aQ fun q=>C q.2.1).symm|exact cB (dQ.2 ⟨fun q=>⟨⟨A,B⟩,C,q⟩,fun q=>q.2.2⟩)
 refine rP 5 [] mn ?_
 refine RK D<|an<|Q1 hQ U U U ?_
 first|exact cB (aQ fun q=>A q.1.1).symm|exact cB (aQ fun q=>B q.1.2).symm|exact cB (aQ fun q=>C q.2.1).symm|exact cB (dQ.2 ⟨fun q=>⟨⟨A,B⟩,C,q⟩,fun q=>q.2.2⟩)
theorem jZ (la:List Int) (laA:OA) (laC:Nat) (lb:List Int) (lbA:OA) (lbC:Nat) (h1:la.length≤1000000) (h2:lb.length≤1000000):
 dx Tryz.prog 20 [(vS laA la.length laC),(vS lbA lb.length lbC)] [(rd laA la.length 1 (la.map iC)),(rd lbA lb.length 1 (lb.map iC))] (vB (decide (bM (cm 6000 100) la=0∧cC (cm 6000 100) la=lb))):=by
 refine bD kr Tryz.func20 U U fun R Q hQ hN=>?_
 try dsimp only
 refine WS fun _ K=>rP 1 [] mn ?_
 refine RK K<|WS fun _ L=>cX (fK 6000) (aw) U fun P O=>?_
 obtain ⟨E,AA,F,J,G,C⟩:=P
 try dsimp only
 refine rP 1 [] mn ?_
 refine cX (l6 (ak.mk ((cm 6000 100).ag) ((cm 6000 100).ae) ((cm 6000 100).aq) ((cm 6000 100).a2) ((cm 6000 100).a4)) E AA F J G C la laA laC (by exact j0) h1) (av (au (n:=((cm 6000 100).ag).length) 0 U sm)<|av (au (n:=((cm 6000 100).ae).length) 1 U sm)<|av (au (n:=((cm 6000 100).aq).length) 2 U sm)<|eB 3 U U<|aw) U fun M N=>?_
 obtain ⟨D,H⟩:=M
 try dsimp only
 refine aY 5 U<|RK L<|WS fun _ B=>rP 3 [] mn ?_
 refine cK (t:=15) U (aR fun A=>?_) (aS fun A=>?_)
 ·refine rP 5 [] mn ?_
  refine RK B<|an<|Q1 hQ U U U ?_
  first|exact cB (aQ fun q=>A q.1).symm|exact cB (dQ.2 ⟨fun q=>⟨A,q⟩,fun q=>q.2⟩)
 refine aY 2 U<|rS (CL (gv (cC (ak.mk ((cm 6000 100).ag) ((cm 6000 100).ae) ((cm 6000 100).aq) ((cm 6000 100).a2) ((cm 6000 100).a4)) la) D H lb lbA lbC (by exact Nat.le_trans iW (show (3:Nat)≤1000000 by decide)) (by exact h2)) (av (au (n:=(cC (ak.mk ((cm 6000 100).ag) ((cm 6000 100).ae) ((cm 6000 100).aq) ((cm 6000 100).a2) ((cm 6000 100).a4)) la).length) 0 U sm)<|eB 5 U U<|aw) U)<|rP 2 [] mn ?_
 refine RK B<|an<|Q1 hQ U U U ?_
 first|exact cB (aQ fun q=>A q.1).symm|exact cB (dQ.2 ⟨fun q=>⟨A,q⟩,fun q=>q.2⟩)
theorem vk:
 dx Tryz.prog 4 [] [] (vB true):=by
 refine bD kr Tryz.func4 U U fun w0 Q hQ hN=>?_
 try dsimp only
 refine WS fun _ A4=>rP 1 [] mn ?_
 refine RK A4<|WS fun _ A5=>cX (fK 6000) (aw) U fun y3 BO=>?_
 obtain ⟨m,AQ,p,A1,M,d⟩:=y3
 try dsimp only
 refine cX (vr (ak.mk ((cm 6000 100).ag) ((cm 6000 100).ae) ((cm 6000 100).aq) ((cm 6000 100).a2) ((cm 6000 100).a4)) m AQ p A1 M d 0 ([]) none 0 (by exact j0) dc) (av (au (n:=((cm 6000 100).ag).length) 0 U sm)<|av (au (n:=((cm 6000 100).ae).length) 1 U sm)<|av (au (n:=((cm 6000 100).aq).length) 2 U sm)<|av (iI _ _)<|aw) U fun A6 BF=>?_
 obtain ⟨l,AC⟩:=A6
 try dsimp only
 refine rP 5 [] mn ?_
 refine RK A5<|WS fun _ h=>cX (fK 6000) (aw) U fun A7 BG=>?_
 obtain ⟨N,X,R,a,AA,e⟩:=A7
 try dsimp only
 refine cX (xG (ak.mk ((cm 6000 100).ag) ((cm 6000 100).ae) ((cm 6000 100).aq) ((cm 6000 100).a2) ((cm 6000 100).a4)) N X R a AA e (by exact j0)) (av (au (n:=((cm 6000 100).ag).length) 0 U sm)<|av (au (n:=((cm 6000 100).ae).length) 1 U sm)<|av (au (n:=((cm 6000 100).aq).length) 2 U sm)<|aw) U fun A8 BH=>?_
 obtain ⟨o,A0⟩:=A8
 try dsimp only
 refine rP 5 [] mn ?_
 refine RK h<|WS fun _ i=>cX (fK 6200) (aw) U fun BB BJ=>?_
 obtain ⟨O,Y,S,b,V,f⟩:=BB
 try dsimp only
 refine cX (tO (ak.mk ((cm 6200 100).ag) ((cm 6200 100).ae) ((cm 6200 100).aq) ((cm 6200 100).a2) ((cm 6200 100).a4)) O Y S b V f (by exact j0)) (av (au (n:=((cm 6200 100).ag).length) 0 U sm)<|av (au (n:=((cm 6200 100).ae).length) 1 U sm)<|av (au (n:=((cm 6200 100).aq).length) 2 U sm)<|aw) U fun BC BK=>?_
 obtain ⟨M,A2⟩:=BC
 try dsimp only
 refine rP 5 [] mn ?_
 refine RK i<|WS fun _ j=>cX (fK 6200) (aw) U fun BD BL=>?_
 obtain ⟨P,Z,T,c,W,g⟩:=BD
 try dsimp only
 refine cX (uZ (ak.mk ((cm 6200 100).ag) ((cm 6200 100).ae) ((cm 6200 100).aq) ((cm 6200 100).a2) ((cm 6200 100).a4)) P Z T c W g (by exact j0)) (av (au (n:=((cm 6200 100).ag).length) 0 U sm)<|av (au (n:=((cm 6200 100).ae).length) 1 U sm)<|av (au (n:=((cm 6200 100).aq).length) 2 U sm)<|aw) U fun BE BN=>?_
 obtain ⟨q,A3⟩:=BE
 try dsimp only
 refine aY 5 U<|RK j<|WS fun _ k=>rS (CL (qR 0 6200 82) (aw) U)<|rP 1 [] mn ?_
 refine cK (t:=30) U (aR fun A=>?_) (aS fun A=>?_)
 ·exact absurd wP A
 refine rS (CL (qR 1 4000 70) (aw) U)<|rP 2 [] mn ?_
 refine cK (t:=33) U (aR fun B=>?_) (aS fun B=>?_)
 ·exact absurd xc B
 refine df (xs:=[.const (vI 0),.const (vI 1),.const (vI 2)]) (cs:=[(vI 0),(vI 1),(vI 2)]) U cL gY U U U U (by simp [Value.cells]) U U fun r=>rS (CL (jZ ([]) none 0 ([0,1,2]) (some ⟨r,0,none⟩) 3 dc dc) (av (iI _ _)<|av (aK 0 U U (by simp [ba]) U)<|aw) U)<|rP 2 [] mn ?_
 refine cK (t:=37) U (aR fun C=>?_) (aS fun C=>?_)
 ·exact absurd tY C
 refine df (xs:=[.const (vI 0)]) (cs:=[(vI 0)]) U cL gY U U U U (by simp [Value.cells]) U U fun s=>rS (CL (jZ ([0]) (some ⟨s,0,none⟩) 1 ([]) none 0 dc dc) (av (aK 0 U U (by simp [ba]) U)<|av (iI _ _)<|aw) U)<|rP 2 [] mn ?_
 refine cK (t:=41) U (aR fun D=>?_) (aS fun D=>?_)
 ·exact absurd wO D
 refine df (xs:=[.const (vI 1)]) (cs:=[(vI 1)]) U cL gY U U U U (by simp [Value.cells]) U U fun u=>df (xs:=[.const (vI 0),.const (vI 2)]) (cs:=[(vI 0),(vI 2)]) U cL gY U U U U (by simp [Value.cells]) U U fun v=>rS (CL (jZ ([1]) (some ⟨u,0,none⟩) 1 ([0,2]) (some ⟨v,0,none⟩) 2 dc dc) (av (aK 1 U U (by simp [ba]) U)<|av (aK 0 U U (by simp [ba]) U)<|aw) U)<|rP 2 [] mn ?_
 refine cK (t:=46) U (aR fun E=>?_) (aS fun E=>?_)
 ·exact absurd x3 E
 refine rP 4 [] mn ?_
 refine cK (t:=50) U (aR fun F=>?_) (aS fun F=>?_)
 ·exact absurd ld.1 F
 refine rP 1 [] mn ?_
 refine df (xs:=[.const (vI 0),.const (vI 1),.const (vI 2)]) (cs:=[(vI 0),(vI 1),(vI 2)]) U cL gY U U U U (by simp [Value.cells]) U U fun w=>?_
 refine rS (CL (gv (gF (ak.mk ((cm 6000 100).ag) ((cm 6000 100).ae) ((cm 6000 100).aq) ((cm 6000 100).a2) ((cm 6000 100).a4)) 0 ([])) l AC ([0,1,2]) (some ⟨w,0,none⟩) 3 (by rw [ld.2]; decide) dc) (av (au (n:=(gF (ak.mk ((cm 6000 100).ag) ((cm 6000 100).ae) ((cm 6000 100).aq) ((cm 6000 100).a2) ((cm 6000 100).a4)) 0 ([])).length) 17 U sm)<|av (aK 0 U U (by simp [ba]) U)<|aw) U) ?_
 refine rP 2 [] mn ?_
 refine cK (t:=55) U (aR fun G=>?_) (aS fun G=>?_)
 ·exact absurd ld.2 G
 refine rP 4 [] mn ?_
 refine cK (t:=59) U (aR fun H=>?_) (aS fun H=>?_)
 ·exact absurd mO.1 H
 refine rP 1 [] mn ?_
 refine df (xs:=[.const (vI 0)]) (cs:=[(vI 0)]) U cL gY U U U U (by simp [Value.cells]) U U fun x=>?_
 refine rS (CL (gv (je (ak.mk ((cm 6000 100).ag) ((cm 6000 100).ae) ((cm 6000 100).aq) ((cm 6000 100).a2) ((cm 6000 100).a4))) o A0 ([0]) (some ⟨x,0,none⟩) 1 (by rw [mO.2]; decide) dc) (av (au (n:=(je (ak.mk ((cm 6000 100).ag) ((cm 6000 100).ae) ((cm 6000 100).aq) ((cm 6000 100).a2) ((cm 6000 100).a4))).length) 14 U sm)<|av (aK 0 U U (by simp [ba]) U)<|aw) U) ?_
 refine rP 2 [] mn ?_
 refine cK (t:=64) U (aR fun AB=>?_) (aS fun AB=>?_)
 ·exact absurd mO.2 AB
 refine rP 4 [] mn ?_
 refine cK (t:=68) U (aR fun J=>?_) (aS fun J=>?_)
 ·exact absurd nR.1 J
 refine rP 1 [] mn ?_
 refine df (xs:=[.const (vI 0),.const (vI 1)]) (cs:=[(vI 0),(vI 1)]) U cL gY U U U U (by simp [Value.cells]) U U fun y=>?_
 refine rS (CL (gv (lK (ak.mk ((cm 6200 100).ag) ((cm 6200 100).ae) ((cm 6200 100).aq) ((cm 6200 100).a2) ((cm 6200 100).a4))) M A2 ([0,1]) (some ⟨y,0,none⟩) 2 (by rw [nR.2]; decide) dc) (av (au (n:=(lK (ak.mk ((cm 6200 100).ag) ((cm 6200 100).ae) ((cm 6200 100).aq) ((cm 6200 100).a2) ((cm 6200 100).a4))).length) 11 U sm)<|av (aK 0 U U (by simp [ba]) U)<|aw) U) ?_
 refine rP 2 [] mn ?_
 refine cK (t:=73) U (aR fun K=>?_) (aS fun K=>?_)
 ·exact absurd nR.2 K
 refine rP 4 [] mn ?_
 refine cK (t:=77) U (aR fun L=>?_) (aS fun L=>?_)
 ·exact absurd k_.1 L
 refine rP 1 [] mn ?_
 refine df (xs:=[.const (vI 2)]) (cs:=[(vI 2)]) U cL gY U U U U (by simp [Value.cells]) U U fun z=>?_
 refine rS (CL (gv (iE (ak.mk ((cm 6200 100).ag) ((cm 6200 100).ae) ((cm 6200 100).aq) ((cm 6200 100).a2) ((cm 6200 100).a4))) q A3 ([2]) (some ⟨z,0,none⟩) 1 (by rw [k_.2]; decide) dc) (av (au (n:=(iE (ak.mk ((cm 6200 100).ag) ((cm 6200 100).ae) ((cm 6200 100).aq) ((cm 6200 100).a2) ((cm 6200 100).a4))).length) 8 U sm)<|av (aK 0 U U (by simp [ba]) U)<|aw) U) ?_
 refine rP 2 [] mn ?_
 refine RK k<|an<|Q1 hQ U U U ?_
 exact cB (dm k_.2)
end
section
open Go.RowKit
theorem vi (d:ak) (kA:OA) (kC:Nat) (pA:OA) (pC:Nat) (nA:OA) (nC:Nat) (hin:cJ d):
 jH Tryz.prog 8 [(vA (aZ.cells (aZ.mk (ar.mk (bB.mk kA d.ag.length kC)) (bB.mk pA d.ae.length pC) (bB.mk nA d.aq.length nC) d.a2 d.a4)))] [(rd kA d.ag.length 9 (d.ag.map aa.cells)),(rd pA d.ae.length 7 (d.ae.map aV.cells)),(rd nA d.aq.length 3 (d.aq.map bc.cells))] (fun (x:(OA)×Nat×(OA)×Nat×(OA)×Nat)=>(vA (aZ.cells (aZ.mk (ar.mk (bB.mk x.1 d.ag.length x.2.1)) (bB.mk x.2.2.1 d.ae.length x.2.2.2.1) (bB.mk x.2.2.2.2.1 d.aq.length x.2.2.2.2.2) d.a2 d.a4)))) (fun (x:(OA)×Nat×(OA)×Nat×(OA)×Nat)=>True) (fun (x:(OA)×Nat×(OA)×Nat×(OA)×Nat)=>[(own x.1 x.2.1 85 9 (d.ag.map aa.cells)),(own x.2.2.1 x.2.2.2.1 70 7 (d.ae.map aV.cells)),(own x.2.2.2.2.1 x.2.2.2.2.2 82 3 (d.aq.map bc.cells))]):=by
 have O:=hin.k3
 have N:=hin.side
 have T:=hin.kb
 have R:=hin.kG
 have P:=hin.nk
 have S:=hin.pk
 refine dh kr Tryz.func8 U U fun Y Q hQ hN=>?_
 try dsimp only
 refine WS fun _ K=>fN U fun W=>AL U wT fun X=>RK K<|WS fun _ L=>rP 1 [] mn ?_
 refine rS (LP (ar.cells (ar.mk (bB.mk kA d.ag.length kC))) 1 U cz U U U) ?_
 refine cX (wU d.ag kA kC sd) (bg [2]) U fun V AA=>?_
 obtain ⟨G,H⟩:=V
 try dsimp only
 refine aY 1 U<|Bi (aZ.cells (aZ.mk (ar.mk (bB.mk G d.ag.length H)) (bB.mk pA d.ae.length pC) (bB.mk nA d.aq.length nC) d.a2 d.a4)) U k6 U U<|RK L<|WS fun _ M=>ou U m1 U fun AB=>rP 2 [] (mc 3 U mn) ?_
 refine eI (es:=(List.map aV.cells [])) (C':=[own (some ⟨AB,0,none⟩) 0 70 7 (List.map aV.cells []),_,_,_,_,_,_]) 0 U sm U (by simp [maxLen]) U ?_
 refine dG (es2:=(List.map aV.cells d.ae)) (m':=d.ae.length) 0 U U U A9 U U sm (aO 5 U) (lL _) os (by first|(simp only [maxLen]; omega)|(simp [maxLen]; omega)) sm sm U fun A B=>?_
 try dsimp only
 refine aY 1 U<|Bq (aZ.cells (aZ.mk (ar.mk (bB.mk G d.ag.length H)) (bB.mk A d.ae.length B) (bB.mk nA d.aq.length nC) d.a2 d.a4)) U z6 U U<|RK M<|WS fun _ E=>ou U sN U fun J=>rP 2 [] (mc 4 U mn) ?_
 refine eI (es:=(List.map bc.cells [])) (C':=[own (some ⟨J,0,none⟩) 0 82 3 (List.map bc.cells []),_,_,_,_,_,_,_]) 0 U sm U (by simp [maxLen]) U ?_
 refine dG (es2:=(List.map bc.cells d.aq)) (m':=d.aq.length) 0 U U U zZ U U sm (aO 7 U) (lJ _) os (by first|(simp only [maxLen]; omega)|(simp [maxLen]; omega)) sm sm U fun C D=>?_
 try dsimp only
 refine aY 1 U<|Bl (aZ.cells (aZ.mk (ar.mk (bB.mk G d.ag.length H)) (bB.mk A d.ae.length B) (bB.mk C d.aq.length D) d.a2 d.a4)) U AZ U U<|RK E<|WS fun _ F=>rP 1 [] (mc 4 U mn) ?_
 refine tL U w8 U<|RK F<|an<|LX hQ (G,H,A,B,C,D) [2,1,0] [0] (mc 3 U mn) U U U U ?_
 trivial
end
section
open Go.RowKit
theorem qG (ts:List aa) (tsA:OA) (tsC:Nat) (l:List aH) (lA:OA) (lC:Nat) (hlen:ts.length≤1000000) (hk: ∀ m∈l,0≤m.Kind∧m.Kind≤255):
 dx Tryz.prog 6 [(vA (ar.cells (ar.mk (bB.mk tsA ts.length tsC)))),(vS lA l.length lC)] [(rd tsA ts.length 9 (ts.map aa.cells)),(rd lA l.length 5 (l.map aH.cells))] (vB (decide (e_ l ts.length))):=by
 refine bD kr Tryz.func6 U U fun g Q hQ hN=>?_
 try dsimp only
 refine WS fun _ W=>fN U fun f=>aY 1 U<|RK W<|ai fun _ X=>WS fun _ Y=>rP 3 [] mn ?_
 refine RK Y<|cG U (aS fun d=>?_) (aR fun d=>?_)
 ·refine WS fun _ Z=>rP 1 [] mn ?_
  refine RK Z<|an<|Q1 hQ U U U ?_
  first|exact cB (aQ (fun q=>by have:=q.1; omega)).symm|exact cB (aQ (iD hx (by simp only [dF,bf]; omega))).symm|exact cB (dm (gE I A I)).symm
 refine WK X<|ai fun _ a=>WS fun _ b=>rP 1 [] mn ?_
 refine RK b<|ay ?_
 have D:(0≤l.length)∧(∀ m∈l.take 0,dF m ts.length):=by exact ⟨Nat.zero_le _,sm⟩
 refine bu (ι:={z:Nat // (z≤l.length)∧(∀ m∈l.take z,dF m ts.length)}) [1,2] [0,1,2] U U (fun z=>[(5,(vI (z.1:Int)))]) (fun z=>[]) (fun _=>rfl) (fun _=>rfl) (fun z=>l.length-z.1) ⟨0,D⟩ (a3 U) (aL [0,1,2]) ?_
 clear D
 rintro ⟨i,⟨c,A⟩⟩ J9 V
 try dsimp only
 refine ai fun _ E=>WS fun _ F=>rP 4 [] mn ?_
 refine RK F<|bq U (aR fun O=>?_) (aS fun O=>?_)
 ·refine bk<|ab<|ab<|ax<|KK a<|WS fun _ M=>rP 1 [] mn ?_
  refine RK M<|an<|Q1 hQ U U U ?_
  first|exact cB (aQ (fun q=>by have:=q.1; omega)).symm|exact cB (aQ (iD hx (by simp only [dF,bf]; omega))).symm|exact cB (dm (gE I A I)).symm
 refine WK E<|ai fun _ G=>ay<|ai fun _ B=>eA dw 54 kr<|dP 2 [] mn ?_
 obtain ⟨x,hx⟩:=bh l i I
 have C:=bG aH.cells hx
 refine dS (IA i U (aO 2 U) oO dc I I)<|dS (pB (i*5) U (aO 2 U) (Nat.mul_pos I dc) fZ U)<|dS (g5 i 0 (Value.int .u8 x.Kind) U cz (aO 2 U) C U dc U) ?_
 have e:=hk x (aI hx)
 refine dS (SX (eK (m:=x.Kind) U U rW mZ (dq (by first|assumption|omega))) U U)<|dS (CL (fp x.Kind 1 2) (aw) U)<|dP 2 [] mn ?_
 refine dU (t:=23) U (aX fun P=>?_) (aW fun P=>?_)
 ·refine gf 45 U<|cR<|RK B<|aT U<|WS fun _ H=>rP 1 [] mn ?_
  refine RK H<|an<|Q1 hQ U U U ?_
  first|exact cB (aQ (fun q=>by have:=q.1; omega)).symm|exact cB (aQ (iD hx (by simp only [dF,bf]; omega))).symm|exact cB (dm (gE I A I)).symm
 refine gf 2 U<|dS (IA i U (aO 2 U) oO dc I I)<|dS (pB ((i*5)+1) U (aO 2 U) (Nat.mul_pos I dc) fZ U)<|dS (g5 i 1 (vI x.bw) U cz (aO 2 U) C U dc U)<|kX 3 [] (mc 0 U mn) U<|dS (CL (fp x.bw 0 (ts.length:Int)) (aw) U)<|dP 3 [] mn ?_
 refine dU (t:=35) U (aX fun R=>?_) (aW fun R=>?_)
 ·refine gf 33 U<|cR<|RK B<|aT U<|WS fun _ AB=>rP 1 [] mn ?_
  refine RK AB<|an<|Q1 hQ U U U ?_
  first|exact cB (aQ (fun q=>by have:=q.1; omega)).symm|exact cB (aQ (iD hx (by simp only [dF,bf]; omega))).symm|exact cB (dm (gE I A I)).symm
 refine gf 2 U<|dS (IA i U (aO 2 U) oO dc I I)<|dS (pB ((i*5)+2) U (aO 2 U) (Nat.mul_pos I dc) fZ U)<|dS (g5 i 2 (vI x.To) U cz (aO 2 U) C U dc U)<|kX 3 [] (mc 0 U mn) U<|dS (CL (fp x.To 0 (ts.length:Int)) (aw) U)<|dP 3 [] mn ?_
 refine dU (t:=47) U (aX fun S=>?_) (aW fun S=>?_)
 ·refine gf 21 U<|cR<|RK B<|aT U<|WS fun _ J=>rP 1 [] mn ?_
  refine RK J<|an<|Q1 hQ U U U ?_
  first|exact cB (aQ (fun q=>by have:=q.1; omega)).symm|exact cB (aQ (iD hx (by simp only [dF,bf]; omega))).symm|exact cB (dm (gE I A I)).symm
 refine gf 2 U<|dS (IA i U (aO 2 U) oO dc I I)<|dS (pB ((i*5)+1) U (aO 2 U) (Nat.mul_pos I dc) fZ U)<|dS (g5 i 1 (vI x.bw) U cz (aO 2 U) C U dc U)<|gf 2 U<|dS (IA i U (aO 2 U) oO dc I I)<|dS (pB ((i*5)+2) U (aO 2 U) (Nat.mul_pos I dc) fZ U)<|dS (g5 i 2 (vI x.To) U cz (aO 2 U) C U dc U)<|dP 3 [] mn ?_
 refine dU (t:=60) U (aS fun T=>?_) (aR fun T=>?_)
 ·refine gf 8 U<|cR<|RK B<|aT U<|WS fun _ K=>rP 1 [] mn ?_
  refine RK K<|an<|Q1 hQ U U U ?_
  first|exact cB (aQ (fun q=>by have:=q.1; omega)).symm|exact cB (aQ (iD hx (by simp only [dF,bf]; omega))).symm|exact cB (dm (gE I A I)).symm
 refine gf 2 U<|dS (IA i U (aO 2 U) oO dc I I)<|dS (pB ((i*5)+3) U (aO 2 U) (Nat.mul_pos I dc) fZ U)<|dS (mY i 3 (al.cells x.bO) U cz (aO 2 U) C U dc U U)<|dS (CL (gW x.bO 0 360000) (aw) U)<|dP 2 [] mn ?_
 refine cR<|RK B<|cG U (aX fun AA=>?_) (aW fun AA=>?_)
 ·refine WS fun _ L=>rP 1 [] mn ?_
  refine RK L<|an<|Q1 hQ U U U ?_
  first|exact cB (aQ (fun q=>by have:=q.1; omega)).symm|exact cB (aQ (iD hx (by simp only [dF,bf]; omega))).symm|exact cB (dm (gE I A I)).symm
 refine cg<|aF<|KK G<|aj<|rP 3 [] mn ?_
 refine aB ?_
 have N:(vI (((i+1):Nat):Int))=(vI ((i:Int)+1)):=by exact cI I
 refine aU (V ⟨(i+1),⟨I,sI A hx (by simp only [dF,bf]; omega)⟩⟩ _ _ _ U os (cE.cons U<|cE.cons U<|aN U N<|cE.nil _) (aL [0,1,2]))
theorem vj (m:aH) (k:Int) (tA:OA) (tN tC g1:Nat) (hm:dF m tN) (hn:tN≤12):
 dx Tryz.prog 47 [(vI k),(vA (aH.cells m)),(vP g1)] [(cv g1 24 (ar.cells (ar.mk (bB.mk tA tN tC))))] (vB false):=by
 have C:=hm
 simp only [dF,bf] at C
 refine bD kr Tryz.func47 U U fun J Q hQ hN=>?_
 try dsimp only
 refine WS fun _ B=>fN U fun AA=>aY 1 U<|RK B<|WS fun _ A=>rP 2 [] (mc 0 U mn) ?_
 refine rS (SX (eK (m:=m.Kind) U U rW mZ (dq (by first|assumption|omega))) U U)<|df (xs:=[.tmp 8]) (cs:=[(vI m.Kind)]) U cL gY U U U U (by simp [Value.cells]) U U fun D=>?_
 refine rS (CL (dx.eq (fz 1 2 ([m.Kind]) (some ⟨D,0,none⟩) 1 sd) cA) (av (aK 0 U U (by simp [ba]) U)<|aw) U) ?_
 refine rP 2 [] mn ?_
 refine ct (t:=12) U (aX fun F=>?_) (aW fun F=>?_)
 ·refine rP 25 [] mn ?_
  refine RK A<|an<|Q1 hQ U U U ?_
  first|rfl|(simp; omega)|(exfalso; omega)
 refine rP 7 [0,1,1] (mr 2 U (mc 1 U mn)) ?_
 refine df (xs:=[.tmp 17,.tmp 19]) (cs:=[(vI m.bw),(vI m.To)]) U cL gY U U U U (by simp [Value.cells]) U U fun E=>?_
 refine rS (CL (dx.eq (fz 0 (tN:Int) ([m.bw,m.To]) (some ⟨E,0,none⟩) 2 sd) lh) (av (aK 0 U U (by simp [ba]) U)<|aw) U) ?_
 refine rP 3 [] mn ?_
 refine ct (t:=24) U (aX fun G=>?_) (aW fun G=>?_)
 ·refine rP 13 [] mn ?_
  refine RK A<|an<|Q1 hQ U U U ?_
  first|rfl|(simp; omega)|(exfalso; omega)
 refine rP 7 [] (mc 2 U mn) ?_
 refine ct (t:=31) U (aS fun H=>?_) (aR fun H=>?_)
 ·refine rP 6 [] mn ?_
  refine RK A<|an<|Q1 hQ U U U ?_
  first|rfl|(simp; omega)|(exfalso; omega)
 refine aY 1 U<|rS (LP (al.cells m.bO) 2 U cz U U U)<|rS (CL (kj m.bO 0 360000) (aw) U)<|rP 3 [] mn ?_
 refine RK A<|an<|Q1 hQ U U U ?_
 first|rfl|(simp; omega)|(exfalso; omega)
theorem vq (l:List aH) (lA:OA) (lC:Nat) (f:Value) (p:Int→aH→Bool) (X:ah) (hf: ∀ x0 x1,(∃ i_:Nat,x0=(i_:Int)∧l[i_]? =some x1)→uU Tryz.prog f [.int .i64 x0,.agg (aH.cells x1).toArray] [X] (.bool (p x0 x1))) (hlen:l.length≤1000000) (hno: ∀ (i_:Nat) x,l[i_]? =some x→p (i_:Int) x=false):
 dx Tryz.prog 50 [(vS lA l.length lC),f] [(rd lA l.length 5 (l.map aH.cells)),X] (vS none 0 0):=by
 refine bD kr Tryz.func50 U U fun T Q hQ hN=>?_
 try dsimp only
 refine WS fun _ H=>aY 1 U<|RK H<|WS fun _ AA=>aY 1 U<|RK AA<|ai fun _ J=>WS fun _ K=>rP 3 [] mn ?_
 refine RK K<|ay ?_
 have A:(0≤l.length):=by exact Nat.zero_le _
 refine bu (ι:={z:Nat // (z≤l.length)}) [1,5,8,9] [0,1] U U (fun z=>[(10,(vI (z.1:Int)))]) (fun z=>[]) (fun _=>rfl) (fun _=>rfl) (fun z=>l.length-z.1) ⟨0,A⟩ (a3 U) (aL [0,1]) ?_
 clear A
 rintro ⟨i,O⟩ J5 G
 try dsimp only
 refine WS fun _ L=>rP 1 [] mn ?_
 refine RK L<|ai fun _ M=>bq U (aR fun S=>?_) (aS fun S=>?_)
 ·refine bk<|ab<|ab<|ax<|KK J<|WS fun _ E=>rP 2 [] mn ?_
  refine RK E<|an<|Q1 hQ U U U ?_
  rfl
 refine WK M<|ai fun _ N=>ay<|WS fun _ C=>rP 1 [] mn ?_
 obtain ⟨x,hx⟩:=bh l i I
 have P:=bG aH.cells hx
 refine rS (IA i U (aO 0 U) oO dc I I)<|rS (mY i 0 (aH.cells x) U cz (aO 0 U) P U dc U U)<|AL U s8 fun R=>aY 1 U<|gG U tq U<|RK C<|WS fun _ D=>rP 3 [] (mc 0 U mn) ?_
 refine rS (SX (jd U U U (hf (i:Int) x ⟨_,U,hx⟩) (bg [2])) U U)<|RK D<|cG U (fun B=>?_) (fun B=>?_)
 ·rw [hno _ _ hx] at B; exact Bool.noConfusion B
 refine cg<|aF<|KK N<|aj<|rP 2 [] mn ?_
 refine aB ?_
 have F:(vI (((i+1):Nat):Int))=(vI ((i:Int)+1)):=by exact cI I
 refine aU (G ⟨(i+1),(by first|omega|(simp only []; omega))⟩ _ _ _ U os (bL 4<|aN U F<|cE.nil _) (aL [1,2]))
theorem xd (l:List aH) (lA:OA) (lC:Nat):
 jH Tryz.prog 52 [(vS lA l.length lC)] [(rd lA l.length 5 (l.map aH.cells))] (fun (x:Nat)=>(Value.func (.func 74) [].toArray [(vP x)].toArray)) (fun (x:Nat)=>True) (fun (x:Nat)=>[(cv x 33 [(vS lA l.length lC)])]):=by
 refine dh kr Tryz.func52 U U fun D Q hQ hN=>?_
 try dsimp only
 refine WS fun _ A=>sT U U fun C=>aY 1 U<|RK A<|WS fun _ B=>rS (FU U)<|rP 1 [] mn ?_
 refine RK B<|an<|LX hQ C [0] [] mn U U U U ?_
 trivial
theorem vO (ms:List aH) (msA:OA) (msC g1:Nat) (hlen:ms.length≤1000000):
 vc Tryz.prog 74 [] [(vP g1)] [(rd msA ms.length 5 (ms.map aH.cells)),(cv g1 33 [(vS msA ms.length msC)])] (pb ms):=by
 refine rv kr Tryz.func74 U U fun l J Z A0 AA Q hY L K hQ hN=>?_
 try dsimp only
 refine WS fun _ N=>rP 3 [] (mr 2 U mn) ?_
 refine RK N<|ay ?_
 have F:(0≤ms.length)∧(J 0 A0)∧(Fo A0 AA A0):=by exact ⟨I,L,K⟩
 refine bu (ι:={z:Nat×ah // (z.1≤ms.length)∧(J z.1 z.2)∧(Fo A0 AA z.2)}) [0,1,5,6] [1,2] U U (fun z=>[(7,(vI (z.1.1:Int)))]) (fun z=>[z.1.2]) (fun _=>rfl) (fun _=>rfl) (fun z=>ms.length-z.1.1) ⟨(0,A0),F⟩ (a3 U) (aL [1,2,0]) ?_
 clear F
 rintro ⟨⟨i,A⟩,⟨G,B,C⟩⟩ J2 M
 try dsimp only at G B C
 try dsimp only
 refine WS fun _ O=>rP 1 [] mn ?_
 refine RK O<|ai fun _ P=>bq U (aR fun V=>?_) (aS fun V=>?_)
 ·refine bk<|ab<|ab<|ax ?_
  refine hN _ _ _ (fW (vs:=[]) trivial fun w hs=>yu 2 U (by rw [oJ]; have e:ms.length=i:=I; rw [e]; exact B) C hs)
 refine WK P<|ai fun _ R=>ay<|WS fun _ S=>rP 1 [] mn ?_
 obtain ⟨x,hx⟩:=bh ms i I
 have T:=bG aH.cells hx
 refine rS (IA i U (aO 0 U) oO dc I I)<|rS (mY i 0 (aH.cells x) U cz (aO 0 U) T U dc U U)<|AL U s8 fun W=>aY 1 U<|gG U tq U<|RK S<|WS fun _ H=>rP 3 [] (mc 0 U mn) ?_
 refine rI 3 hY B C U U U (uw hx) U U (fun B10 E D=>?_) (fun B10 E D=>?_)
 rotate_left 1
 ·refine rP 1 [] mn ?_
  refine RK H<|aT U<|an ?_
  refine hQ _ _ _ (fW (vs:=[]) trivial fun w hs=>wE 3 U E D hs)
 refine aY 1 U<|RK H<|bp U<|cg<|aF<|KK R<|aj<|rP 2 [] mn ?_
 refine aB ?_
 have AB:(vI (((i+1):Nat):Int))=(vI ((i:Int)+1)):=by exact cI I
 refine aU (M ⟨((i+1),B10),⟨I,E,D⟩⟩ _ _ _ U os (bL 4<|aN U AB<|cE.nil _) (aL [1,2,3]))
theorem wY (gm:Nat) (l:List aH) (lA:OA) (lC b:Nat) (hlen:l.length≤1000000):
 uS Tryz.prog 73 [(Value.map (some gm)),(Value.func (.func 74) [].toArray [(vP b)].toArray)] [(rd lA l.length 5 (l.map aH.cells)),(cv b 33 [(vS lA l.length lC)])] (lY iV gm (dv (fun s=>vA (aH.cells s)) ([]:List (Int×aH)))) (fun (x:(List (Int×aH)))=>(vT [])) (fun (x:(List (Int×aH)))=>(∀ e∈x,e.2∈l)) (fun (x:(List (Int×aH)))=>(lY iV gm (dv (fun s=>vA (aH.cells s)) x))):=by
 refine k5 kr Tryz.func73 U U fun P Q hQ hN=>?_
 try dsimp only
 refine WS fun _ A=>sT U U fun K=>RK A<|WS fun _ B=>rP 1 [] mn ?_
 refine RK B<|ay<|l5 2 U (by exact fun _ h=>h)<|l5 4 U (by exact fun _ h=>h) ?_
 refine rB (L0:=[(2,(vP K))]) (F:=[(rd lA l.length 5 (l.map aH.cells)).ro,(cv b 33 [(vS lA l.length lC)]).ro]) (xs:=(pb l)) (fun k (y:(List (Int×aH)))=>((∀ e∈y,e.2∈l))) (fun k y=>[(cv K 60 [(Value.map (some gm))]),(lY iV gm (dv (fun s=>vA (aH.cells s)) y)),(rd lA l.length 5 (l.map aH.cells)).ro]) (fun _ (_:Unit)=>False) (fun _ _=>[]) [2,3,4] [1,0] ([]:List (Int×aH)) rfl rfl (vO l lA lC b (by first|assumption|omega|(simp; done))) rfl rfl rfl (by intro e he; cases he) (by simp only [List.forall_mem_cons,List.not_mem_nil,false_imp_iff,implies_true,and_true]; exact ⟨⟨_,sm,(ff (cD _))⟩,⟨_,sm,(ff (cD _))⟩⟩) (by exact sE) rfl (a3 rfl) ?_ ?_ (fun _ _ _ h=>h.elim) (fun _ _ h=>h.elim)
 rotate_left 1
 ·rintro O ml C
  have D:=C
  try dsimp only
  refine aF<|hN _ _ _ (qj 0 U U<|fW (vs:=[]) trivial fun w hs=>zl ml 4 ?_ ?_ U U hs)
  ·clear hs w hQ hN B A; rfl
  ·clear hs w hQ hN B A; exact D
 rintro k x ml lr ra rb S R K4 Qr5 hx G H E L M
 obtain ⟨x,J,rfl⟩:=pj hx
 have D:=G
 try dsimp only
 refine WS fun _ AA=>rP 1 [] mn ?_
 refine RK AA<|aj<|AL U s8 fun N=>gG U tq U<|aB<|lu (fun _ _ h=>h) (aL [1,0,2,3,4])<|aU (H _ _ ?_)
 refine ay<|aj<|rP 3 [0,1] (mc 2 U (mc 1 U mn)) ?_
 refine ny (kV:=iV) (x:=(k:Int)) (C':=[_,_,_,(lY iV gm (dv (fun s=>vA (aH.cells s)) (fq ml (k:Int) x))),_]) 3 U U U U wQ (g9 mZ) U (l4 _ _ _ _).symm U<|aB<|aF ?_
 exact E (fq ml (k:Int) x) _ _ (by exact uj D (aI J)) (aL [0,2,3,4])
theorem vz (l:List aH) (lA:OA) (lC b:Nat) (hlen:l.length≤1000000):
 jH Tryz.prog 51 [(Value.func (.func 74) [].toArray [(vP b)].toArray)] [(rd lA l.length 5 (l.map aH.cells)),(cv b 33 [(vS lA l.length lC)])] (fun (x:Nat×(List (Int×aH)))=>(Value.map (some x.1))) (fun (x:Nat×(List (Int×aH)))=>(∀ e∈x.2,e.2∈l)) (fun (x:Nat×(List (Int×aH)))=>[(lY iV x.1 (dv (fun s=>vA (aH.cells s)) x.2))]):=by
 refine dh kr Tryz.func51 U U fun H Q hQ hN=>?_
 try dsimp only
 refine WS fun _ A=>rP 1 [] mn ?_
 refine RK A<|WS fun _ B=>oD (kV:=iV) U U fun F=>?_
 try dsimp only
 refine aY 1 U<|RK B<|WS fun _ C=>rP 2 [] mn ?_
 refine iB 0 U U U U (wY F l lA lC b hlen) U (fO 1 U U (ff (cD _)) (fO 2 U U (ff (cD _)) jS)) U (fun E G=>?_)
 try dsimp only
 refine RK C<|WS fun _ D=>rP 2 [] mn ?_
 refine RK D<|an<|LX hQ (F,E) [0] [] mn U U U U ?_
 assumption
theorem pW (ts:List aa) (tsA:OA) (tsC:Nat) (l:List aH) (lA:OA) (lC:Nat) (htr:a_ ts=true) (hside: ∀ x∈ts,0≤x.cT∧x.cT≤255) (hmo:e_ l ts.length):
 jH Tryz.prog 26 [(vA (ar.cells (ar.mk (bB.mk tsA ts.length tsC)))),(vS lA l.length lC)] [(rd tsA ts.length 9 (ts.map aa.cells)),(rd lA l.length 5 (l.map aH.cells))] (fun (x:Nat×(List (Int×aH)))=>(vT [(vA (bQ.cells (bQ.mk (ar.mk (bB.mk tsA ts.length tsC))))),(Value.map (some x.1)),(vI 0)])) (fun (x:Nat×(List (Int×aH)))=>(∀ e∈x.2,e.2∈l)) (fun (x:Nat×(List (Int×aH)))=>[(lY iV x.1 (dv (fun s=>vA (aH.cells s)) x.2))]):=by
 have Z:=dy htr
 have c:=hmo.1
 have V:(if a_ ts=true then (0:Int) else 10)=0:=if_pos htr
 refine dh kr Tryz.func26 U U fun h Q hQ hN=>?_
 try dsimp only
 refine WS fun _ O=>fN U fun L=>AL U pX fun f=>aY 2 U<|RK O<|WS fun _ P=>rP 1 [] (mc 1 U mn) ?_
 refine rS (CL (lS ts tsA tsC sd hside) (bg [2]) U) ?_
 refine aY 3 U<|AL U pX fun g=>gG U qH U<|aY 1 U<|RK P<|ai fun _ R=>WS fun _ S=>rP 2 [] mn ?_
 refine RK S<|cG U (aX fun C=>?_) (aW fun C=>?_)
 ·exact absurd V C
 refine WK R<|WS fun _ T=>rS (FU U)<|aY 1 U<|RK T<|ai fun _ AA=>WS fun _ D=>rP 4 [] mn ?_
 refine ct (t:=23) U (aS fun N=>?_) (aR fun N=>?_)
 ·exfalso; omega
 refine rP 2 [] mn ?_
 refine rS (CL (vq l lA lC (Value.func (.func 47) [].toArray [(vP L)].toArray) (fun _ _=>false) (m7 [(cv L 24 (ar.cells (ar.mk (bB.mk tsA ts.length tsC))))]) (by intro W X J; exact jY (fi:=[]) (ca:=[(vP L)]) (iy (vj X W tsA ts.length tsC L (by first|assumption|(obtain ⟨d,_,A⟩:=J; exact hmo.2 _ (aI A))|omega) (by first|assumption|(obtain ⟨d,_,A⟩:=J; exact hmo.2 _ (aI A))|omega)) (bg [0]))) sd (by intro _ _ _; rfl)) (eB 4 rfl rfl<|av (jw (bg [2]))<|aw) rfl) ?_
 refine aY 1 U<|rS (SX (cj (r:= .bool false) U U U wD) U U)<|rP 1 [] mn ?_
 refine RK D<|bp U<|WK AA<|ai fun _ E=>dY dw [2,3,4,5] [] [] [0,2,3,4] [] U U U U U<|eS U (LW 0 U cz U U)<|eS U (MV U)<|eS U (AG U)<|fx U<|bN U fun T15 F=>cX (xd l lA lC) (bg [4]) U fun M a=>?_
 try dsimp only
 refine aB (F _ _ (aL [1,3,4,5]) ?_)
 refine bN U fun T19 G=>?_
 refine cX (vz l lA lC M sd) (bg [5,0]) U fun Y b=>?_
 obtain ⟨B,K⟩:=Y
 try dsimp only
 refine aB (G _ _ (aL [2,4,5,6]) ?_)
 refine bN U fun T24 H=>tL U qH U<|aB (H _ _ (aL [2,4,5,6]) ?_)
 refine bN U fun T25 AB=>rS (AG U)<|aB (AB _ _ (aL [2,4,5,6]) ?_)
 refine fR U<|KK E<|an<|LX hQ (B,K) [0] [0] (mc 3 U mn) U U U U ?_
 assumption
end
section
open Go.RowKit
theorem rH (A:OA) (ad:Addr) (m:Nat) (hA:A=some ad):
 dx Tryz.prog 75 [(Value.pointer (eR A m))] [] (Value.pointer (eR A (m+1))):=by
 refine bD kr Tryz.func75 U U fun D Q hQ hN=>?_
 try dsimp only
 refine WS fun _ B=>aY 1 U<|RK B<|WS fun _ C=>aY 1 U<|rS (SX (gl U U hA) U U)<|rS (Bd (m+1) U hA fZ U)<|rP 1 [] mn ?_
 refine RK C<|an<|Q1 hQ U U U ?_
 rfl
theorem rq (A:OA) (ad:Addr) (m:Nat) (hA:A=some ad):
 dx Tryz.prog 76 [(Value.pointer (eR A m))] [] (Value.pointer (eR A (m+3))):=by
 refine bD kr Tryz.func76 U U fun D Q hQ hN=>?_
 try dsimp only
 refine WS fun _ B=>aY 1 U<|RK B<|WS fun _ C=>aY 1 U<|rS (SX (gl U U hA) U U)<|rS (Bd (m+3) U hA fZ U)<|rP 1 [] mn ?_
 refine RK C<|an<|Q1 hQ U U U ?_
 rfl
theorem uI:
 dx Tryz.prog 54 [] [] (vA ((ed.cells (ed.mk Value.nilFunc))++(ed.cells (ed.mk (Value.func (.func 75) [].toArray [].toArray)))++(ed.cells (ed.mk (Value.func (.func 76) [].toArray [].toArray))))):=by
 refine bD kr Tryz.func54 U U fun D Q hQ hN=>?_
 try dsimp only
 refine WS fun _ A=>AL U wy fun C=>RK A<|WS fun _ B=>rS (SX (bl (xs:=[(0,.func 75)]) (cs:=(ed.cells (ed.mk (Value.func (.func 75) [].toArray [].toArray)))) U U (bm wi U)) U U)<|rS (SX (bl (xs:=[(0,.func 76)]) (cs:=(ed.cells (ed.mk (Value.func (.func 76) [].toArray [].toArray)))) U U (bm wi U)) U U)<|rS (SX (bl (xs:=[(1,.tmp 1),(2,.tmp 2)]) (cs:=((ed.cells (ed.mk Value.nilFunc))++(ed.cells (ed.mk (Value.func (.func 75) [].toArray [].toArray)))++(ed.cells (ed.mk (Value.func (.func 76) [].toArray [].toArray))))) U U (bm yi U)) U U)<|gG U wx U<|RK B<|an<|zC hQ [0] (mc 0 U mn) U ?_
 rfl
theorem sW (l:List aa) (lA:OA) (lC:Nat) (hlen:l.length≤1000000):
 jH Tryz.prog 53 [(vS lA l.length lC)] [(rd lA l.length 9 (l.map aa.cells))] (fun (x:(OA)×Nat)=>(vS x.1 l.length x.2)) (fun (x:(OA)×Nat)=>True) (fun (x:(OA)×Nat)=>[(own x.1 x.2 85 9 (l.map aa.cells))]):=by
 refine dh kr Tryz.func53 U U fun L Q hQ hN=>?_
 try dsimp only
 refine WS fun _ D=>aY 1 U<|RK D<|ai fun _ E=>WS fun _ F=>rP 1 [] mn ?_
 refine rS (BI U (uD xw))<|RK F<|cG U (aS fun B=>?_) (aR fun B=>?_)
 ·refine WS fun _ G=>oV (aO 0 U) B dc fun C=>?_
  have A:l=[]:=by simpa using C
  refine ea 85 9 ?_
  rw [show (own none 0 85 9 ([]:List (List Value)))=own none 0 85 9 (l.map aa.cells) from by rw [A]; rfl]
  refine rP 1 [] mn ?_
  refine RK G<|an ?_
  refine LX hQ (none,0) [0] [] mn U U U ?_ ?_
  ·first|rfl|(rw [A]; rfl)
  ·trivial
 refine WK E<|WS fun _ H=>ou U kg U fun J=>rP 1 [] mn ?_
 refine eI (es:=(List.map aa.cells [])) (C':=[own (some ⟨J,0,none⟩) 0 85 9 (List.map aa.cells []),_]) 0 U sm U (by simp [maxLen]) U ?_
 refine dG (es2:=(List.map aa.cells l)) (m':=l.length) 0 U U U za U U sm (aO 1 U) (gA _) os (by (simp only [maxLen]; omega)) sm sm U fun AA K=>?_
 try dsimp only
 refine rP 1 [] mn ?_
 refine RK H<|an ?_
 refine LX hQ (AA,K) [0] [] mn U U U ?_ ?_
 ·first|rfl|(rw [A]; rfl)
 ·trivial
theorem oy (mb mc:Nat) (M:List Int) (n:Nat) (hn:n≤13) (hM:Cl n 0 M):
 uS Tryz.prog 55 [(vP mb),(vI (n:Int))] [] (own (some ⟨mb,0,none⟩) mc 107 1 (M.map iC)) (fun (x:(List Int)×Bool)=>(vB x.2)) (fun (x:(List Int)×Bool)=>x.2=true→Cl n n x.1∧ ∀ a b,a<n→b<n→mt x.1 a b≤mt M a b) (fun (x:(List Int)×Bool)=>(own (some ⟨mb,0,none⟩) mc 107 1 (x.1.map iC))):=by
 refine k5 kr Tryz.func55 U U fun w0 Q hQ hN=>?_
 try dsimp only
 refine WS fun _ w=>aY 1 U<|RK w<|ai fun _ y=>WS fun _ AC=>rP 2 [] mn ?_
 refine RK AC<|ay ?_
 have C:(0≤n)∧(Cl n 0 M)∧(∀ a b,a<n→b<n→mt M a b≤mt M a b):=by exact ⟨Nat.zero_le _,hM,fun _ _ _ _=>Int.le_refl _⟩
 refine bu (ι:={z:Nat×(List Int) // (z.1≤n)∧(Cl n z.1 z.2)∧(∀ a b,a<n→b<n→mt z.2 a b≤mt M a b)}) [0,1,9] [] U U (fun z=>[(10,(vI (z.1.1:Int)))]) (fun z=>[(own (some ⟨mb,0,none⟩) mc 107 1 (z.1.2.map iC))]) (fun _=>rfl) (fun _=>rfl) (fun z=>n-z.1.1) ⟨(0,M),C⟩ (a3 U) (aL [0]) ?_
 clear C
 rintro ⟨⟨x,M1⟩,⟨AB,B,D⟩⟩ J4 v
 try dsimp only at AB B D
 try dsimp only
 refine WS fun _ AQ=>rP 1 [] mn ?_
 refine RK AQ<|ai fun _ A0=>bq U (aR fun h7=>?_) (aS fun h7=>?_)
 ·refine bk<|ab<|ab<|ax<|KK y<|WS fun _ g=>rP 1 [] mn ?_
  refine RK g<|an<|LM hQ (M1,true) 0 [] mn U U U U ?_
  first|exact fun q=>Bool.noConfusion q|(obtain rfl:x=n:=I; exact fun _=>⟨B,D⟩)
 refine WK A0<|ai fun _ A1=>ay<|WS fun _ A2=>aY 2 U<|RK A2<|WS fun _ N=>rP 2 [] mn ?_
 refine RK N<|ay ?_
 have C:(0≤n)∧(Rd n x M1 M1 0 0):=by exact ⟨Nat.zero_le _,.zero B.len⟩
 refine bu (ι:={z:Nat×(List Int) // (z.1≤n)∧(Rd n x M1 z.2 z.1 0)}) [0,1,5,9,10,13] [] U U (fun z=>[(14,(vI (z.1.1:Int)))]) (fun z=>[(own (some ⟨mb,0,none⟩) mc 107 1 (z.1.2.map iC))]) (fun _=>rfl) (fun _=>rfl) (fun z=>n-z.1.1) ⟨(0,M1),C⟩ (a3 U) (aL [0]) ?_
 clear C
 rintro ⟨⟨i,M2⟩,⟨J,E⟩⟩ J11 L
 try dsimp only at J E
 try dsimp only
 refine WS fun _ O=>rP 1 [] mn ?_
 refine RK O<|ai fun _ P=>bq U (aR fun s=>?_) (aS fun s=>?_)
 ·refine bk<|ab<|ab<|ax<|aF<|KK A1 ?_
  have r:=Rd.done B (show x<n by omega) (show Rd n x M1 M2 n 0 from by have e:i=n:=I; rw [e] at E; exact E)
  refine aj<|rP 2 [] mn ?_
  refine aB ?_
  have p:(vI (((x+1):Nat):Int))=(vI ((x:Int)+1)):=by exact cI I
  refine aU (v ⟨((x+1),M2),⟨I,r.1,fun a b ha hb=>Int.le_trans (r.2 a b ha hb) (D a b ha hb)⟩⟩ _ _ _ U os (bL 3<|aN U p<|cE.nil _) (aL [0]))
 refine WK P<|ai fun _ R=>ay<|WS fun _ S=>aY 2 U<|RK S<|WS fun _ T=>rP 2 [] mn ?_
 refine RK T<|ay ?_
 have C:(0≤n)∧(Rd n x M1 M2 i 0):=by exact ⟨Nat.zero_le _,E⟩
 refine bu (ι:={z:Nat×(List Int) // (z.1≤n)∧(Rd n x M1 z.2 i z.1)}) [0,1,5,6,9,10,13,14,17] [] U U (fun z=>[(18,(vI (z.1.1:Int)))]) (fun z=>[(own (some ⟨mb,0,none⟩) mc 107 1 (z.1.2.map iC))]) (fun _=>rfl) (fun _=>rfl) (fun z=>n-z.1.1) ⟨(0,M2),C⟩ (a3 U) (aL [0]) ?_
 clear C
 rintro ⟨⟨k,M3⟩,⟨K,A⟩⟩ J18 G
 try dsimp only at K A
 try dsimp only
 refine WS fun _ AA=>rP 1 [] mn ?_
 refine RK AA<|ai fun _ V=>bq U (aR fun t=>?_) (aS fun t=>?_)
 ·refine bk<|ab<|ab<|ax<|aF<|KK R ?_
  have A3:Rd n x M1 M3 i n:=by have e:k=n:=I; rw [e] at A; exact A
  refine aj<|rP 2 [] mn ?_
  refine aB ?_
  have m:(vI (((i+1):Nat):Int))=(vI ((i:Int)+1)):=by exact cI I
  refine aU (L ⟨((i+1),M3),⟨I,A3.row⟩⟩ _ _ _ U os (bL 6<|aN U m<|cE.nil _) (aL [0]))
 refine WK V<|ai fun _ H=>ay<|WS fun _ W=>aY 2 U<|RK W<|ai fun _ X=>eA dw 16 kr<|gf 3 U<|dS (SX (cV U U) U U)<|dS (SX (dN (k:=i) U U U eN I I) U U)<|dS (SX (dK (k:=x) (m':=((i*13+x)*1)) U U U eO I I I) U U)<|dS (g5 (i*13+x) 0 (vI (mt M3 i x)) U cz (au (n:=M3.length) 0 U sm) (dk (i:=i) (k:=x) A.len I I) U dc U)<|dP 3 [] mn ?_
 refine dS (SX (cV U U) U U)<|dS (SX (dN (k:=x) U U U eN I I) U U)<|dS (SX (dK (k:=k) (m':=((x*13+k)*1)) U U U eO I I I) U U)<|dS (g5 (x*13+k) 0 (vI (mt M3 x k)) U cz (au (n:=M3.length) 0 U sm) (dk (i:=x) (k:=k) A.len I I) U dc U) ?_
 have A5:=A.wX hn B (show x<n by omega) (show i<n by omega) (show x<n by omega)
 have A6:=A.wX hn B (show x<n by omega) (show x<n by omega) (show k<n by omega)
 refine gf 2 U<|cR<|RK X<|WS fun _ Y=>aY 4 U<|rS (SX (cV U U) U U)<|rS (SX (dN (k:=i) U U U eN I I) U U)<|rS (SX (dK (k:=k) (m':=((i*13+k)*1)) U U U eO I I I) U U)<|rS (g5 (i*13+k) 0 (vI (mt M3 i k)) U cz (au (n:=M3.length) 0 U sm) (dk (i:=i) (k:=k) A.len I I) U dc U)<|rP 1 [] mn ?_
 refine RK Y<|bq U (aR fun F=>?_) (aS fun F=>?_)
 ·refine cg<|aF<|KK H<|aj<|rP 2 [] mn ?_
  refine aB ?_
  have j:(vI (((k+1):Nat):Int))=(vI ((k:Int)+1)):=by exact cI I
  refine aU (G ⟨((k+1),M3),⟨I,by first|exact A.put hn B I I I F I rfl|exact A.skip B I I I F⟩⟩ _ _ _ U os (bL 9<|aN U j<|cE.nil _) (aL [0]))
 refine WS fun _ Z=>aY 4 U<|rS (SX (cV U U) U U)<|rS (SX (dN (k:=i) U U U eN I I) U U)<|rS (SX (dK (k:=k) (m':=((i*13+k)*1)) U U U eO I I I) U U)<|cw (k:=(i*13+k)) (o:=0) (vs:=[(vI ((mt M3 i x)+(mt M3 x k)))]) (es':=(List.map iC (M3.set (i*13+k) ((mt M3 i x)+(mt M3 x k))))) (C':=[(own (some ⟨mb,0,none⟩) mc 107 1 (List.map iC (M3.set (i*13+k) ((mt M3 i x)+(mt M3 x k)))))]) 0 U U U qh U U U U (dk (i:=i) (k:=k) A.len I I) U dc (by exact (List.map_set (f:=iC) (l:=M3) (i:=(i*13+k)) (a:=((mt M3 i x)+(mt M3 x k)))).symm) U<|RK Z<|WS fun _ c=>rP 3 [] mn ?_
 refine RK c<|cG U (aS fun u=>?_) (aR fun u=>?_)
 ·refine WS fun _ d=>rP 1 [] mn ?_
  refine RK d<|an<|LM hQ ((M3.set (i*13+k) ((mt M3 i x)+(mt M3 x k))),false) 0 [] mn U U U U ?_
  first|exact fun q=>Bool.noConfusion q|(obtain rfl:x=n:=I; exact fun _=>⟨B,D⟩)
 refine cg<|aF<|KK H<|aj<|rP 2 [] mn ?_
 refine aB ?_
 have h:(vI (((k+1):Nat):Int))=(vI ((k:Int)+1)):=by exact cI I
 refine aU (G ⟨((k+1),(M3.set (i*13+k) ((mt M3 i x)+(mt M3 x k)))),⟨I,by first|exact A.put hn B I I I F I rfl|exact A.skip B I I I F⟩⟩ _ _ _ U os (bL 9<|aN U h<|cE.nil _) (aL [0]))
end
end Go.Proofs.YtpfjokbjambohaaGreat
