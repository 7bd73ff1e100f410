/-
 The statement postNarrow_said, part 3 of 4: P2, P3, P4, P5, P6, RangeG, MarkD, MapD, P7, S2, P8, M1, M2, M3, P9, P12, G1, G2, P10, P11, A1, A2, G3, N1, N2.
 Conditions: none.
-/
import Derived.Test.YtpfjokbjambohaaGreatTz1
import Derived.Test.YtpfjokbjambohaaGreatTz2
namespace Go.Proofs.YtpfjokbjambohaaGreat
set_option maxRecDepth 100000
set_option maxHeartbeats 4000000
set_option linter.unusedVariables false
section
open Go.RowKit
theorem o_ (d:ak) (kA:OA) (kC:Nat) (pA:OA) (pC:Nat) (nA:OA) (nC:Nat) (hin:cK d):
 dx Tryz.prog 29 [(vA (aZ.cells (aZ.mk (ar.mk (bB.mk kA d.ag.length kC)) (bB.mk pA d.ae.length pC) (bB.mk nA d.aq.length nC) d.a2 d.a4)))] [(rd kA d.ag.length 9 (d.ag.map aa.cells)),(rd pA d.ae.length 7 (d.ae.map aV.cells)),(rd nA d.aq.length 3 (d.aq.map bc.cells))] (vI (br d)):=by
 have BH:=hin.kS
 have BG:=hin.side
 have BO:=hin.ku
 have BL:=hin.j7
 have u:=hin.nk
 have BE:=hin.pk
 refine bD kr Tryz.func29 U U fun w0 Q hQ hN=>?_
 try dsimp only
 refine WS fun _ A4=>fN U fun N=>aY 1 U<|RK A4<|aj fun _ A5=>WS fun _ A6=>rP 1 [] mn ?_
 refine rS (LP (ar.cells (ar.mk (bB.mk kA d.ag.length kC))) 0 U cA U U U) ?_
 refine rS (CL (oz d.ag kA kC sd sd) (bg [1]) U) ?_
 refine aY 1 U<|RK A6<|WS fun _ A7=>rP 2 [] mn ?_
 refine RK A7<|cG U (aX fun E=>?_) (aW fun E=>?_)
 ·refine WS fun _ BB=>rP 2 [] mn ?_
  refine RK BB<|an<|Q1 hQ U U U ?_
  first|(refine cI ?_; rw [(dn E).2,cU (dn E).1])|exact cI (aD A fun q=>by have:=q.len; omega).symm|exact cI (aD A fun q=>by exact absurd q.b1 (by simpa using B)).symm|exact cI (aD A fun q=>by exact B q.b1).symm|exact cI (aD A fun q=>by have:=q.dC; omega).symm|exact cI (aD A fun q=>by have G:=q.post i p hp; unfold cg at G; first|omega|exact absurd G.2.2.1 (by simpa using F)|exact F G.2.2.1).symm|exact cI (aD A fun q=>by rw [cc.2 q.eT] at C; cases C).symm|exact cI (cZ A (bI I (by simpa using B) I D I (cc.1 (by simpa using C)))).symm
 refine WK A5<|WS fun _ BC=>?_
 have A:=nU E
 refine rS (FU U)<|aY 1 U<|RK BC<|aj fun _ BD=>WS fun _ J=>rP 5 [] (mc 0 U mn) ?_
 refine ct (t:=19) U (aR fun AD=>?_) (aS fun AD=>?_)
 ·refine aY 19 U<|RK J<|aT U<|WS fun _ P=>rP 1 [] mn ?_
  refine RK P<|an<|Q1 hQ U U U ?_
  first|(refine cI ?_; rw [(dn E).2,cU (dn E).1])|exact cI (aD A fun q=>by have:=q.len; omega).symm|exact cI (aD A fun q=>by exact absurd q.b1 (by simpa using B)).symm|exact cI (aD A fun q=>by exact B q.b1).symm|exact cI (aD A fun q=>by have:=q.dC; omega).symm|exact cI (aD A fun q=>by have G:=q.post i p hp; unfold cg at G; first|omega|exact absurd G.2.2.1 (by simpa using F)|exact F G.2.2.1).symm|exact cI (aD A fun q=>by rw [cc.2 q.eT] at C; cases C).symm|exact cI (cZ A (bI I (by simpa using B) I D I (cc.1 (by simpa using C)))).symm
 refine rP 6 [] (mc 0 U mn) ?_
 refine ct (t:=25) U (aR fun Al=>?_) (aS fun Al=>?_)
 ·refine aY 13 U<|RK J<|aT U<|WS fun _ R=>rP 1 [] mn ?_
  refine RK R<|an<|Q1 hQ U U U ?_
  first|(refine cI ?_; rw [(dn E).2,cU (dn E).1])|exact cI (aD A fun q=>by have:=q.len; omega).symm|exact cI (aD A fun q=>by exact absurd q.b1 (by simpa using B)).symm|exact cI (aD A fun q=>by exact B q.b1).symm|exact cI (aD A fun q=>by have:=q.dC; omega).symm|exact cI (aD A fun q=>by have G:=q.post i p hp; unfold cg at G; first|omega|exact absurd G.2.2.1 (by simpa using F)|exact F G.2.2.1).symm|exact cI (aD A fun q=>by rw [cc.2 q.eT] at C; cases C).symm|exact cI (cZ A (bI I (by simpa using B) I D I (cc.1 (by simpa using C)))).symm
 refine rP 2 [] mn ?_
 refine rS (LP (aG.cells d.a2) 0 U cA U U U) ?_
 refine rS (CL (nt d.a2 d kA kC pA pC nA nC N hin sd) (bg [1,2,3,0]) U) ?_
 refine rP 3 [] mn ?_
 refine ct (t:=32) U (aX fun B=>?_) (aW fun B=>?_)
 ·refine aY 6 U<|RK J<|aT U<|WS fun _ S=>rP 1 [] mn ?_
  refine RK S<|an<|Q1 hQ U U U ?_
  first|(refine cI ?_; rw [(dn E).2,cU (dn E).1])|exact cI (aD A fun q=>by have:=q.len; omega).symm|exact cI (aD A fun q=>by exact absurd q.b1 (by simpa using B)).symm|exact cI (aD A fun q=>by exact B q.b1).symm|exact cI (aD A fun q=>by have:=q.dC; omega).symm|exact cI (aD A fun q=>by have G:=q.post i p hp; unfold cg at G; first|omega|exact absurd G.2.2.1 (by simpa using F)|exact F G.2.2.1).symm|exact cI (aD A fun q=>by rw [cc.2 q.eT] at C; cases C).symm|exact cI (cZ A (bI I (by simpa using B) I D I (cc.1 (by simpa using C)))).symm
 refine rP 2 [] (mc 0 U mn) ?_
 refine df (xs:=[.tmp 34]) (cs:=[(vI d.a4)]) U cL g0 U U U U (by simp [Value.cells]) U U fun v=>?_
 refine rS (CL (dx.eq (ey 0 400000 ([d.a4]) (some ⟨v,0,none⟩) 1 sd) cz) (av (aK 0 U U (by simp [ba]) U)<|aw) U) ?_
 refine rP 2 [] mn ?_
 refine RK J<|cG U (aX fun Aw=>?_) (aW fun Aw=>?_)
 ·refine WS fun _ T=>rP 1 [] mn ?_
  refine RK T<|an<|Q1 hQ U U U ?_
  first|(refine cI ?_; rw [(dn E).2,cU (dn E).1])|exact cI (aD A fun q=>by have:=q.len; omega).symm|exact cI (aD A fun q=>by exact absurd q.b1 (by simpa using B)).symm|exact cI (aD A fun q=>by exact B q.b1).symm|exact cI (aD A fun q=>by have:=q.dC; omega).symm|exact cI (aD A fun q=>by have G:=q.post i p hp; unfold cg at G; first|omega|exact absurd G.2.2.1 (by simpa using F)|exact F G.2.2.1).symm|exact cI (aD A fun q=>by rw [cc.2 q.eT] at C; cases C).symm|exact cI (cZ A (bI I (by simpa using B) I D I (cc.1 (by simpa using C)))).symm
 refine WK BD<|WS fun _ AA=>aY 1 U<|RK AA<|aj fun _ V=>WS fun _ W=>rP 4 [] (mc 1 U mn) ?_
 refine RK W<|ax ?_
 have AB:(0≤d.ae.length)∧(gh d 0):=by exact ⟨Nat.zero_le _,mH⟩
 have o:(vI (fb d.ae 0))=(vI (-1)):=by rw [gU rfl]
 refine bu (ι:={z:Nat // (z≤d.ae.length)∧(gh d z)}) [1,4,40,41] [1,2,3,4] U U (fun z=>[(5,(vI (fb d.ae z.1))),(42,(vI (z.1:Int)))]) (fun z=>[]) (fun _=>rfl) (fun _=>rfl) (fun z=>d.ae.length-z.1) ⟨0,AB⟩ (aN U o<|a3 U) (aL [1,2,3,4]) ?_
 clear AB
 rintro ⟨i,⟨L,D⟩⟩ J19 O
 try dsimp only
 refine WS fun _ X=>rP 1 [] mn ?_
 refine RK X<|aj fun _ Y=>bq U (aS fun AY=>?_) (aR fun AY=>?_)
 ·refine bj<|ab<|ab<|ay<|KK V<|aj fun _ j=>WS fun _ k=>rP 2 [] (mc 0 U mn) ?_
  refine rS (FU U) ?_
  refine rS (CL (ob d.aq nA nC (Value.func (.func 60) [].toArray [(vP N)].toArray) (fun M=>(!(decide (bw d.ag M)))) (nw [(rd kA d.ag.length 9 (d.ag.map aa.cells)),(rd pA d.ae.length 7 (d.ae.map aV.cells)),(rd nA d.aq.length 3 (d.aq.map bc.cells)),(cv N 32 (aZ.cells (aZ.mk (ar.mk (bB.mk kA d.ag.length kC)) (bB.mk pA d.ae.length pC) (bB.mk nA d.aq.length nC) d.a2 d.a4)))]) (by intro M K; exact jW (fi:=[]) (ca:=[(vP N)]) (ir (u_ M d kA kC pA pC nA nC N (by first|assumption|exact u _ K|omega) (by first|assumption|exact u _ K|omega)) (bg [0,1,2,3]))) sd) (eF 3 U U<|av (jr (bg [1,2,3,0]))<|aw) U) ?_
  refine RK k<|cG U (fun C=>?_) (fun C=>?_)
  ·refine WS fun _ l=>rP 1 [] mn ?_
   refine RK l<|an<|Q1 hQ U U U ?_
   first|(refine cI ?_; rw [(dn E).2,cU (dn E).1])|exact cI (aD A fun q=>by have:=q.len; omega).symm|exact cI (aD A fun q=>by exact absurd q.b1 (by simpa using B)).symm|exact cI (aD A fun q=>by exact B q.b1).symm|exact cI (aD A fun q=>by have:=q.dC; omega).symm|exact cI (aD A fun q=>by have G:=q.post i p hp; unfold cg at G; first|omega|exact absurd G.2.2.1 (by simpa using F)|exact F G.2.2.1).symm|exact cI (aD A fun q=>by rw [cc.2 q.eT] at C; cases C).symm|exact cI (cZ A (bI I (by simpa using B) I D I (cc.1 (by simpa using C)))).symm
  refine WK j<|WS fun _ n=>rP 1 [] mn ?_
  refine RK n<|an<|Q1 hQ U U U ?_
  first|(refine cI ?_; rw [(dn E).2,cU (dn E).1])|exact cI (aD A fun q=>by have:=q.len; omega).symm|exact cI (aD A fun q=>by exact absurd q.b1 (by simpa using B)).symm|exact cI (aD A fun q=>by exact B q.b1).symm|exact cI (aD A fun q=>by have:=q.dC; omega).symm|exact cI (aD A fun q=>by have G:=q.post i p hp; unfold cg at G; first|omega|exact absurd G.2.2.1 (by simpa using F)|exact F G.2.2.1).symm|exact cI (aD A fun q=>by rw [cc.2 q.eT] at C; cases C).symm|exact cI (cZ A (bI I (by simpa using B) I D I (cc.1 (by simpa using C)))).symm
 refine WK Y<|aj fun _ Z=>ax<|WS fun _ a=>?_
 obtain ⟨p,hp⟩:=bk d.ae i I
 have BF:=bG aV.cells hp
 refine rS (IA i U (aO 2 U) m1 dc I I)<|rS (mZ i 0 (aV.cells p) U cA (aO 2 U) BF U dc U U)<|AL U uc fun BK=>gH U vk U<|RK a<|aj fun _ b=>WS fun _ H=>?_
 have BN:=uq L D
 have BJ:=BE p (aI hp)
 refine rP 4 [] (mc 0 U mn) ?_
 refine df (xs:=[.tmp 49]) (cs:=[(vI p.Id)]) U cL g0 U U U U (by simp [Value.cells]) U U fun w=>?_
 refine rS (CL (dx.eq (ey ((fb d.ae i)+1) 9999 ([p.Id]) (some ⟨w,0,none⟩) 1 sd) cz) (av (aK 0 U U (by simp [ba]) U)<|aw) U) ?_
 refine rP 2 [] mn ?_
 refine ct (t:=53) U (aX fun A0=>?_) (aW fun A0=>?_)
 ·refine aY 28 U<|RK H<|aT U<|WS fun _ c=>rP 1 [] mn ?_
  refine RK c<|an<|Q1 hQ U U U ?_
  first|(refine cI ?_; rw [(dn E).2,cU (dn E).1])|exact cI (aD A fun q=>by have:=q.len; omega).symm|exact cI (aD A fun q=>by exact absurd q.b1 (by simpa using B)).symm|exact cI (aD A fun q=>by exact B q.b1).symm|exact cI (aD A fun q=>by have:=q.dC; omega).symm|exact cI (aD A fun q=>by have G:=q.post i p hp; unfold cg at G; first|omega|exact absurd G.2.2.1 (by simpa using F)|exact F G.2.2.1).symm|exact cI (aD A fun q=>by rw [cc.2 q.eT] at C; cases C).symm|exact cI (cZ A (bI I (by simpa using B) I D I (cc.1 (by simpa using C)))).symm
 refine rP 2 [] (mc 1 U mn) ?_
 refine rS (SX (eJ (m:=p.Kind) U U sK mY (dr (by first|assumption|omega))) U U)<|df (xs:=[.tmp 56]) (cs:=[(vI p.Kind)]) U cL g0 U U U U (by simp [Value.cells]) U U fun x=>?_
 refine rS (CL (dx.eq (ey 1 3 ([p.Kind]) (some ⟨x,0,none⟩) 1 sd) cz) (av (aK 0 U U (by simp [ba]) U)<|aw) U) ?_
 refine rP 3 [] mn ?_
 refine ct (t:=61) U (aX fun A1=>?_) (aW fun A1=>?_)
 ·refine aY 20 U<|RK H<|aT U<|WS fun _ e=>rP 1 [] mn ?_
  refine RK e<|an<|Q1 hQ U U U ?_
  first|(refine cI ?_; rw [(dn E).2,cU (dn E).1])|exact cI (aD A fun q=>by have:=q.len; omega).symm|exact cI (aD A fun q=>by exact absurd q.b1 (by simpa using B)).symm|exact cI (aD A fun q=>by exact B q.b1).symm|exact cI (aD A fun q=>by have:=q.dC; omega).symm|exact cI (aD A fun q=>by have G:=q.post i p hp; unfold cg at G; first|omega|exact absurd G.2.2.1 (by simpa using F)|exact F G.2.2.1).symm|exact cI (aD A fun q=>by rw [cc.2 q.eT] at C; cases C).symm|exact cI (cZ A (bI I (by simpa using B) I D I (cc.1 (by simpa using C)))).symm
 refine rP 2 [] mn ?_
 refine rS (LP (aG.cells p.cp) 2 U cA U U U) ?_
 refine rS (CL (nt p.cp d kA kC pA pC nA nC N hin sd) (bg [4,5,6,3]) U) ?_
 refine rP 3 [] mn ?_
 refine ct (t:=68) U (aX fun F=>?_) (aW fun F=>?_)
 ·refine aY 13 U<|RK H<|aT U<|WS fun _ f=>rP 1 [] mn ?_
  refine RK f<|an<|Q1 hQ U U U ?_
  first|(refine cI ?_; rw [(dn E).2,cU (dn E).1])|exact cI (aD A fun q=>by have:=q.len; omega).symm|exact cI (aD A fun q=>by exact absurd q.b1 (by simpa using B)).symm|exact cI (aD A fun q=>by exact B q.b1).symm|exact cI (aD A fun q=>by have:=q.dC; omega).symm|exact cI (aD A fun q=>by have G:=q.post i p hp; unfold cg at G; first|omega|exact absurd G.2.2.1 (by simpa using F)|exact F G.2.2.1).symm|exact cI (aD A fun q=>by rw [cc.2 q.eT] at C; cases C).symm|exact cI (cZ A (bI I (by simpa using B) I D I (cc.1 (by simpa using C)))).symm
 refine rP 2 [] (mc 2 U mn) ?_
 refine df (xs:=[.tmp 70]) (cs:=[(vI p.gL)]) U cL g0 U U U U (by simp [Value.cells]) U U fun y=>?_
 refine rS (CL (dx.eq (ey 0 36000 ([p.gL]) (some ⟨y,0,none⟩) 1 sd) cz) (av (aK 0 U U (by simp [ba]) U)<|aw) U) ?_
 refine rP 3 [] mn ?_
 refine ct (t:=75) U (aX fun A2=>?_) (aW fun A2=>?_)
 ·refine aY 6 U<|RK H<|aT U<|WS fun _ g=>rP 1 [] mn ?_
  refine RK g<|an<|Q1 hQ U U U ?_
  first|(refine cI ?_; rw [(dn E).2,cU (dn E).1])|exact cI (aD A fun q=>by have:=q.len; omega).symm|exact cI (aD A fun q=>by exact absurd q.b1 (by simpa using B)).symm|exact cI (aD A fun q=>by exact B q.b1).symm|exact cI (aD A fun q=>by have:=q.dC; omega).symm|exact cI (aD A fun q=>by have G:=q.post i p hp; unfold cg at G; first|omega|exact absurd G.2.2.1 (by simpa using F)|exact F G.2.2.1).symm|exact cI (aD A fun q=>by rw [cc.2 q.eT] at C; cases C).symm|exact cI (cZ A (bI I (by simpa using B) I D I (cc.1 (by simpa using C)))).symm
 refine rP 2 [] (mc 3 U mn) ?_
 refine df (xs:=[.tmp 77]) (cs:=[(vI p.jM)]) U cL g0 U U U U (by simp [Value.cells]) U U fun AC=>?_
 refine rS (CL (dx.eq (ey 1 1000 ([p.jM]) (some ⟨AC,0,none⟩) 1 sd) cz) (av (aK 0 U U (by simp [ba]) U)<|aw) U) ?_
 refine rP 2 [] mn ?_
 refine RK H<|bq U (aW fun A3=>?_) (aX fun A3=>?_)
 ·refine WK b<|ai<|gJ 3 [] (mc 4 U mn) U<|aB<|aF<|KK Z<|ai<|rP 2 [] mn ?_
  refine aB ?_
  have r:(vI (fb d.ae (i+1)))=(vI p.Id):=by rw [o1 hp]
  have s:(vI (((i+1):Nat):Int))=(vI ((i:Int)+1)):=by exact cI I
  refine aU (O ⟨(i+1),⟨I,jR D hp (by unfold cg; exact ⟨I,I,by simpa using F,I,I⟩)⟩⟩ _ _ _ U os (bL 4<|aN U r<|aN U s<|cE.nil _) (aL [5,6,7,8]))
 refine WS fun _ h=>rP 1 [] mn ?_
 refine RK h<|an<|Q1 hQ U U U ?_
 first|(refine cI ?_; rw [(dn E).2,cU (dn E).1])|exact cI (aD A fun q=>by have:=q.len; omega).symm|exact cI (aD A fun q=>by exact absurd q.b1 (by simpa using B)).symm|exact cI (aD A fun q=>by exact B q.b1).symm|exact cI (aD A fun q=>by have:=q.dC; omega).symm|exact cI (aD A fun q=>by have G:=q.post i p hp; unfold cg at G; first|omega|exact absurd G.2.2.1 (by simpa using F)|exact F G.2.2.1).symm|exact cI (aD A fun q=>by rw [cc.2 q.eT] at C; cases C).symm|exact cI (cZ A (bI I (by simpa using B) I D I (cc.1 (by simpa using C)))).symm
end
section
open Go.RowKit
theorem jX (l:List Int) (lA:OA) (lC:Nat) (hl: ∀ x∈l,-1000000000≤x∧x≤1000000000) (hlen:l.length≤1000000):
 dx Tryz.prog 84 [(vS lA l.length lC)] [(rd lA l.length 1 (l.map iC))] (vI (gZ l)):=by
 refine bD kr Tryz.func84 U U fun T Q hQ hN=>?_
 try dsimp only
 refine WS fun _ H=>aY 1 U<|RK H<|WS fun _ AA=>aY 1 U<|RK AA<|aj fun _ J=>WS fun _ K=>rP 3 [] mn ?_
 refine RK K<|ax ?_
 have A:(0≤l.length):=by exact Nat.zero_le _
 have N:(vI (gZ (l.take 0)))=(vI 0):=by rfl
 refine bu (ι:={z:Nat // (z≤l.length)}) [6,7] [0] U U (fun z=>[(3,(vI (gZ (l.take z.1)))),(8,(vI (z.1:Int)))]) (fun z=>[]) (fun _=>rfl) (fun _=>rfl) (fun z=>l.length-z.1) ⟨0,A⟩ (aN U N<|a3 U) (aL [0]) ?_
 clear A
 rintro ⟨i,O⟩ J6 G
 try dsimp only
 refine WS fun _ L=>rP 1 [] mn ?_
 refine RK L<|aj fun _ M=>bq U (aS fun R=>?_) (aR fun R=>?_)
 ·refine bj<|ab<|ab<|ay<|KK J<|WS fun _ D=>rP 2 [] mn ?_
  refine RK D<|an<|Q1 hQ U U U ?_
  rw [List.take_of_length_le I]
 refine WK M<|aj fun _ B=>ax<|WS fun _ C=>?_
 obtain ⟨x,hx⟩:=bk l i I
 have P:=bG iC hx
 refine rS (IA i U (aO 0 U) cL dc I I)<|rS (g5 i 0 (vI x) U cA (aO 0 U) P U dc U)<|rP 1 [] mn ?_
 refine RK C<|ai ?_
 have S:=hl x (aI hx)
 refine aY 3 U<|rS (NG U ⟨I,I⟩)<|rS (SX (vE U U U U) U U)<|aY 1 U<|aB<|aF<|KK B<|ai<|rP 2 [] mn ?_
 refine aB ?_
 have E:(vI (gZ (l.take (i+1))))=(vI (max (max (gZ (l.take i)) x) (-x))):=by rw [qH hx]
 have F:(vI (((i+1):Nat):Int))=(vI ((i:Int)+1)):=by exact cI I
 refine aU (G ⟨(i+1),(by first|omega|(simp only []; omega))⟩ _ _ _ U os (cE.cons U<|cE.cons U<|aN U E<|aN U F<|cE.nil _) (aL [0]))
theorem rj (ts:List aa) (tsA:OA) (tsC:Nat) (s:aG) (k:Int) (hlen:ts.length≤1000000) (hside: ∀ x∈ts,0≤x.cT∧x.cT≤255) (htr:a_ ts=true) (hs:bR ts s) (hk:0≤k∧k<(ts.length:Int)):
 dx Tryz.prog 82 [(vA (ar.cells (ar.mk (bB.mk tsA ts.length tsC)))),(vA (aG.cells s)),(vI k)] [(rd tsA ts.length 9 (ts.map aa.cells))] (vI (gR ts s k)):=by
 refine bD kr Tryz.func82 U U fun K Q hQ hN=>?_
 try dsimp only
 refine WS fun _ B=>fN U fun H=>fN U fun AA=>aY 1 U<|RK B<|WS fun _ C=>gJ 3 [0,1] (mc 1 U (mc 0 U mn)) U<|rS (SX (bm (xs:=[(0,.tmp 12)]) (cs:=(aG.cells (aG.mk k (al.mk 0 0)))) U U (bl ui U)) U U)<|rS (CL (nR ts tsA tsC s (aG.mk k (al.mk 0 0)) hlen hside) (bg [2]) U)<|aY 3 U<|AL U eH fun J=>gH U dA U<|rP 1 [] mn ?_
 refine RK C<|WS fun _ D=>?_
 have F:=iY htr ⟨hs,pj htr hk⟩
 have E:=mz (cO htr) (dy htr) hs (pj htr hk)
 have A:=qs htr hs hk
 rw [← F.2] at E A
 refine rP 4 [] (mc 0 U mn) ?_
 refine df (xs:=[.tmp 18,.tmp 20]) (cs:=[(vI ((dK ts s (aG.mk k (al.mk 0 0))).Lo)),(vI ((dK ts s (aG.mk k (al.mk 0 0))).Hi))]) U cL g0 U U U U (by simp [Value.cells]) U U fun G=>?_
 refine rS (CL (jX ([(dK ts s (aG.mk k (al.mk 0 0))).Lo,(dK ts s (aG.mk k (al.mk 0 0))).Hi]) (some ⟨G,0,none⟩) 2 (by intro x hx; simp only [bE,List.not_mem_nil,or_false] at hx; omega) sm) (av (aK 0 U U (by simp [ba]) U)<|aw) U) ?_
 refine rP 1 [] mn ?_
 refine RK D<|an<|Q1 hQ U U U ?_
 exact cI A
theorem xN (ts:List aa) (tsA:OA) (tsC:Nat) (s:aG) (k:Int) (g1:Nat) (hlen:ts.length≤1000000) (hside: ∀ x∈ts,0≤x.cT∧x.cT≤255) (htr:a_ ts=true) (hs:bR ts s) (hk:0≤k∧k<(ts.length:Int)):
 dx Tryz.prog 85 [(vA (ar.cells (ar.mk (bB.mk tsA ts.length tsC)))),(vA (aG.cells s)),(vI k),(vP g1)] [(rd tsA ts.length 9 (ts.map aa.cells)),(cv g1 68 [(Value.func (.func 82) [].toArray [].toArray)])] (vI (gR ts s (k+1))):=by
 have K:=dy htr
 have J:=hs.1
 have L:=kP (cO htr) hs
 refine bD kr Tryz.func85 U U fun R Q hQ hN=>?_
 try dsimp only
 refine WS fun _ D=>fN U fun M=>fN U fun N=>aY 1 U<|RK D<|aj fun _ E=>WS fun _ F=>rP 6 [] (mc 1 U mn) ?_
 refine RK F<|cG U (aR fun C=>?_) (aS fun C=>?_)
 ·refine WS fun _ G=>rP 5 [0,1,2] (mr 3 U (mc 1 U (mc 0 U mn))) ?_
  refine rS (CL (rj ts tsA tsC s (k+1) hlen hside htr hs sd) (bg [2]) U) ?_
  refine rP 1 [] mn ?_
  refine RK G<|an<|Q1 hQ U U U ?_
  first|rfl|(refine cI ?_; unfold gR; rw [if_neg I,A.2.1])
 refine WK E<|WS fun _ H=>gJ 5 [0,1] (mc 1 U (mc 0 U mn)) U<|rS (CL (xq ts tsA tsC s.ao (k+1) hlen hside) (bg [2]) U)<|aY 4 U<|AL U eH fun O=>AL U eH fun P=>vZ U dA U<|gH U dA U<|rP 1 [] mn ?_
 refine RK H<|WS fun _ B=>?_
 have A:=iU (f:=s.ao) (t:=k+1) htr ⟨J.1,I,I⟩
 have AA:=iy (cO htr) s.ao.toNat (k+1-s.ao).toNat
 rw [← A.2.1] at AA
 refine rP 7 [0,1] (mc 1 U (mc 2 U mn)) ?_
 refine RK B<|an<|Q1 hQ U U U ?_
 first|rfl|(refine cI ?_; unfold gR; rw [if_neg I,A.2.1])
theorem wZ:
 jK Tryz.prog 63 [] [] (fun (x:Nat)=>(vA ((dZ.cells (dZ.mk (Value.func (.func 82) [].toArray [].toArray)))++(dZ.cells (dZ.mk (Value.func (.func 85) [].toArray [(vP x)].toArray)))))) (fun (x:Nat)=>True) (fun (x:Nat)=>[(cv x 68 [(Value.func (.func 82) [].toArray [].toArray)])]):=by
 refine dh kr Tryz.func63 U U fun F Q hQ hN=>?_
 try dsimp only
 refine WS fun _ B=>AL U yY fun E=>RK B<|WS fun _ C=>AL U Ab fun A=>Av U AE U U<|RK C<|WS fun _ D=>rP 1 [] (mc 0 U mn) ?_
 refine rS (SX (bm (xs:=[(0,.tmp 2)]) (cs:=(dZ.cells (dZ.mk (Value.func (.func 82) [].toArray [].toArray)))) U U (bl wy U)) U U)<|rS (FU U)<|rS (SX (bm (xs:=[(0,.tmp 4)]) (cs:=(dZ.cells (dZ.mk (Value.func (.func 85) [].toArray [(vP A)].toArray)))) U U (bl wy U)) U U)<|rS (SX (bm (xs:=[(0,.tmp 3),(1,.tmp 5)]) (cs:=((dZ.cells (dZ.mk (Value.func (.func 82) [].toArray [].toArray)))++(dZ.cells (dZ.mk (Value.func (.func 85) [].toArray [(vP A)].toArray))))) U U (bl zn U)) U U)<|vZ U yh U<|RK D<|an<|LX hQ A [0] [0] (mc 1 U mn) U U U U ?_
 trivial
theorem uv (ts:List aa) (tsA:OA) (tsC:Nat) (s:aG) (k:Int) (hlen:ts.length≤1000000) (hside: ∀ x∈ts,0≤x.cT∧x.cT≤255) (htr:a_ ts=true) (hs:bR ts s) (hk:0≤k∧k<(ts.length:Int)):
 dx Tryz.prog 31 [(vA (ar.cells (ar.mk (bB.mk tsA ts.length tsC)))),(vA (aG.cells s)),(vI k)] [(rd tsA ts.length 9 (ts.map aa.cells))] (vI (ji ts s k)):=by
 have W:=nY htr hs (m:=k) I
 have X:=nY htr hs (m:=k+1) I
 refine bD kr Tryz.func31 U U fun b Q hQ hN=>?_
 try dsimp only
 refine WS fun _ N=>fN U fun Z=>fN U fun a=>aY 1 U<|RK N<|WS fun _ O=>rP 1 [] mn ?_
 refine RK O<|aj fun _ P=>WS fun _ R=>cX wZ (aw) U fun A Y=>?_
 try dsimp only
 refine aY 1 U<|RK R<|ax<|mR 3<|ib fun R10 L=>WS fun _ B=>rS (SX (ck (r:= .bool true) U U U rv) U U)<|RK B<|aj fun _ C=>aT U<|WK C<|aj fun _ D=>ax<|WS fun _ E=>rS (SX (oJ (vs:=(dZ.cells (dZ.mk (Value.func (.func 82) [].toArray [].toArray)))) 0 U U U wC cA U dc U) U U)<|AL U wI fun AA=>gH U wH U<|RK E<|ai<|gJ 6 [0,1,2] (mc 0 U (mc 3 U (mc 2 U mn))) U<|rS (CL (rj ts tsA tsC s k hlen hside htr hs hk) (bg [4]) U)<|rS (MX U)<|aY 1 U<|aB<|aF<|KK D<|ai<|rS (SX (ck (r:= .int .i64 1) U U U (jJ ⟨dc,dc⟩)) U U)<|rP 1 [] mn ?_
 refine RK L<|ib fun R16 M=>WS fun _ F=>rS (SX (ck (r:= .bool true) U U U rv) U U)<|RK F<|aj fun _ G=>aT U<|WK G<|aj fun _ H=>ax<|WS fun _ AB=>?_
 refine rS (SX (oJ (vs:=(dZ.cells (dZ.mk (Value.func (.func 85) [].toArray [(vP A)].toArray)))) 1 U U U wC cA U dc U) U U)<|AL U wI fun V=>gH U wH U<|RK AB<|ai<|gJ 6 [0,1,2] (mc 0 U (mc 4 U (mc 3 U mn))) U<|rS (CL (xN ts tsA tsC s k A hlen hside htr hs hk) (bg [5,2]) U)<|rS (MX U)<|aY 1 U<|aB<|aF<|KK H<|ai<|rS (SX (ck (r:= .int .i64 2) U U U (jJ ⟨dc,dc⟩)) U U)<|aY 1 U<|RK M<|ib fun R22 T=>WS fun _ J=>rS (SX (ck (r:= .bool false) U U U rv) U U)<|RK J<|aj fun _ S=>bp U<|bj<|ab<|ab<|ay<|KK P<|WS fun _ K=>rP 2 [] mn ?_
 refine RK K<|an<|Q1 hQ U U U ?_
 exact cI (by unfold ji; omega)
end
section
open Go.RowKit
theorem s8 (d:ak) (kA:OA) (kC:Nat) (pA:OA) (pC:Nat) (nA:OA) (nC:Nat) (a k:Int) (hin:cK d):
 dx Tryz.prog 9 [(vA (aZ.cells (aZ.mk (ar.mk (bB.mk kA d.ag.length kC)) (bB.mk pA d.ae.length pC) (bB.mk nA d.aq.length nC) d.a2 d.a4))),(vI a),(vI k)] [(rd kA d.ag.length 9 (d.ag.map aa.cells)),(rd pA d.ae.length 7 (d.ae.map aV.cells)),(rd nA d.aq.length 3 (d.aq.map bc.cells))] (vT [(vI (kW d a k)),(vI (iD d a k))]):=by
 have S:=hin.kS
 have R:=hin.side
 have X:=hin.ku
 have V:=hin.j7
 have AA:=hin.nk
 have W:=hin.pk
 refine bD kr Tryz.func9 U U fun c Q hQ hN=>?_
 try dsimp only
 refine WS fun _ AB=>fN U fun b=>aY 2 U<|RK AB<|aj fun _ J=>WS fun _ K=>gJ 1 [] (mc 0 U mn) U<|rS (CL (o_ d kA kC pA pC nA nC hin) (qZ 1 2 3 U U U U U U) U)<|aY 1 U<|RK K<|WS fun _ L=>rP 2 [] mn ?_
 refine RK L<|cG U (aX fun A=>?_) (aW fun A=>?_)
 ·refine WS fun _ M=>rP 3 [] mn ?_
  refine RK M<|an<|Q2 hQ U U U U ?_
  first|(have e:=gN (a:=a) (k:=k) A; rw [e.1,e.2.1]<;>rfl)|(have e:=gM (a:=a) (k:=k) A I; rw [e.1,e.2.1]<;>rfl)|(have e:=gC (k:=k) A I hp; rw [e.1,e.2.1]<;>rfl)
 refine WK J<|aj fun _ N=>WS fun _ E=>rP 1 [] mn ?_
 obtain ⟨Z,O⟩:=cP A
 refine rP 4 [] (mc 0 U mn) ?_
 refine df (xs:=[.tmp 18]) (cs:=[(vI a)]) U cL g0 U U U U (by simp [Value.cells]) U U fun T=>?_
 refine rS (CL (dx.eq (ey 0 ((d.ae.length:Int)-1) ([a]) (some ⟨T,0,none⟩) 1 sd) cz) (av (aK 0 U U (by simp [ba]) U)<|aw) U) ?_
 refine rP 2 [] mn ?_
 refine ct (t:=22) U (aX fun G=>?_) (aW fun G=>?_)
 ·refine aY 10 U<|RK E<|aT U<|WS fun _ B=>rP 2 [] mn ?_
  refine RK B<|an<|Q2 hQ U U U U ?_
  first|(have e:=gN (a:=a) (k:=k) A; rw [e.1,e.2.1]<;>rfl)|(have e:=gM (a:=a) (k:=k) A I; rw [e.1,e.2.1]<;>rfl)|(have e:=gC (k:=k) A I hp; rw [e.1,e.2.1]<;>rfl)
 refine rP 6 [] (mc 1 U mn) ?_
 refine df (xs:=[.tmp 28]) (cs:=[(vI k)]) U cL g0 U U U U (by simp [Value.cells]) U U fun F=>?_
 refine rS (CL (dx.eq (ey 0 ((d.ag.length:Int)-1) ([k]) (some ⟨F,0,none⟩) 1 sd) cz) (av (aK 0 U U (by simp [ba]) U)<|aw) U) ?_
 refine rP 2 [] mn ?_
 refine RK E<|cG U (aX fun H=>?_) (aW fun H=>?_)
 ·refine WS fun _ C=>rP 2 [] mn ?_
  refine RK C<|an<|Q2 hQ U U U U ?_
  first|(have e:=gN (a:=a) (k:=k) A; rw [e.1,e.2.1]<;>rfl)|(have e:=gM (a:=a) (k:=k) A I; rw [e.1,e.2.1]<;>rfl)|(have e:=gC (k:=k) A I hp; rw [e.1,e.2.1]<;>rfl)
 refine WK N<|aj fun _ D=>eD dw 12 kr<|gf 1 U<|dS (LP (ar.cells (ar.mk (bB.mk kA d.ag.length kC))) 2 U cA U U U)<|dP 3 [] (mc 2 U mn) ?_
 obtain ⟨p,hp⟩:=bk d.ae ((a).toNat) I
 have P:=bG aV.cells hp
 refine dS (IA ((a).toNat) U (aO 4 U) m1 dc I I)<|dS (o6 ((((a).toNat)*7)+2) U (aO 4 U) (Nat.mul_pos I dc) fY U)<|dS (mZ ((a).toNat) 2 (aG.cells p.cp) U cA (aO 4 U) P U dc U U) ?_
 have Y:=(O.post _ p hp).2.2.1
 refine dP 1 [] mn ?_
 refine dS (CL (uv d.ag kA kC p.cp k sd sd sd sd sd) (bg [3]) U) ?_
 refine dP 2 [] mn ?_
 refine cR<|RK D<|an<|Q2 hQ U U U U ?_
 first|(have e:=gN (a:=a) (k:=k) A; rw [e.1,e.2.1]<;>rfl)|(have e:=gM (a:=a) (k:=k) A I; rw [e.1,e.2.1]<;>rfl)|(have e:=gC (k:=k) A I hp; rw [e.1,e.2.1]<;>rfl)
end
section
open Go.RowKit
theorem j4 (d:ak) (kA:OA) (kC:Nat) (pA:OA) (pC:Nat) (nA:OA) (nC:Nat) (hin:cK d):
 jK Tryz.prog 32 [(vA (aZ.cells (aZ.mk (ar.mk (bB.mk kA d.ag.length kC)) (bB.mk pA d.ae.length pC) (bB.mk nA d.aq.length nC) d.a2 d.a4)))] [(rd kA d.ag.length 9 (d.ag.map aa.cells)),(rd pA d.ae.length 7 (d.ae.map aV.cells)),(rd nA d.aq.length 3 (d.aq.map bc.cells))] (fun (x:Bool×Int×Nat×(OA)×Nat×(List RA))=>bif x.1 then (vT [(Value.pointer (some ⟨x.2.2.1,0,none⟩)),(vI 0)]) else (vT [(Value.pointer none),(vI x.2.1)])) (fun (x:Bool×Int×Nat×(OA)×Nat×(List RA))=>(x.1=true→(br d=0∧x.2.2.2.2.2.length=d.ae.length))∧(x.1=false→(x.2.1=br d∧ ¬ br d=0))) (fun (x:Bool×Int×Nat×(OA)×Nat×(List RA))=>bif x.1 then [(cv x.2.2.1 76 (cd.cells (cd.mk (aZ.mk (ar.mk (bB.mk kA d.ag.length kC)) (bB.mk pA d.ae.length pC) (bB.mk nA d.aq.length nC) d.a2 d.a4) (bB.mk x.2.2.2.1 ((bh d).length) x.2.2.2.2.1)))),(own x.2.2.2.1 x.2.2.2.2.1 43 1 (List.zipWith jD (bh d) x.2.2.2.2.2)),(eg (ga mJ (bh d) x.2.2.2.2.2))] else []):=by
 have A3:=hin.kS
 have A1:=hin.side
 have BF:=hin.ku
 have BC:=hin.j7
 have BB:=hin.nk
 have BE:=hin.pk
 refine dh kr Tryz.func32 U U fun w0 Q hQ hN=>?_
 try dsimp only
 refine WS fun _ t=>fN U fun b2=>aY 2 U<|RK t<|aj fun _ u=>WS fun _ v=>gJ 1 [] (mc 0 U mn) U<|rS (CL (o_ d kA kC pA pC nA nC hin) (qZ 1 2 3 U U U U U U) U)<|aY 1 U<|RK v<|WS fun _ w=>rP 2 [] mn ?_
 refine RK w<|cG U (aX fun C=>?_) (aW fun C=>?_)
 ·refine WS fun _ y=>rP 3 [] mn ?_
  refine RK y<|an ?_
  refine LX hQ (false,(br d),0,none,0,[]) [] [] mn U (by first|rfl|(show List.all _ _=true; simp only [cond_true,ig,List.all_nil,kB,Bool.and_true]; rfl)) U U ?_
  refine ⟨AN,fun _=>?_⟩; first|exact ⟨U,C⟩
 refine WK u<|WS fun _ AC=>?_
 obtain ⟨j,Aw⟩:=cP C
 refine gJ 1 [] (mc 0 U mn) U<|rS (SX (bm (xs:=[(0,.tmp 16)]) (cs:=(cd.cells (cd.mk (aZ.mk (ar.mk (bB.mk kA d.ag.length kC)) (bB.mk pA d.ae.length pC) (bB.mk nA d.aq.length nC) d.a2 d.a4) (bB.mk none 0 0)))) U U (bl AB U)) U U)<|fN U fun b8=>aY 1 U<|RK AC<|aj fun _ AD=>WS fun _ M=>rP 4 [] (mc 1 U mn) ?_
 refine RK M<|ax<|ep 43 1<|sV ?_
 have A:(0≤d.ae.length)∧(([]:List RA).length=0):=by exact ⟨Nat.zero_le _,rfl⟩
 refine bu (ι:={z:Nat×(List RA)×(OA)×Nat // (z.1≤d.ae.length)∧(z.2.1.length=z.1)}) [1,2,3,5,20,21] [3,4,5,6] U U (fun z=>[(22,(vI (z.1.1:Int)))]) (fun z=>[(eg (ga mJ (eh d z.1.1) z.1.2.1)),(own z.1.2.2.1 z.1.2.2.2 43 1 (List.map sC (List.zipWith m3 (eh d z.1.1) z.1.2.1))),(cv b8 76 (cd.cells (cd.mk (aZ.mk (ar.mk (bB.mk kA d.ag.length kC)) (bB.mk pA d.ae.length pC) (bB.mk nA d.aq.length nC) d.a2 d.a4) (bB.mk z.1.2.2.1 ((List.zipWith m3 (eh d z.1.1) z.1.2.1).length) z.1.2.2.2))))]) (fun _=>rfl) (fun _=>rfl) (fun z=>d.ae.length-z.1.1) ⟨(0,([]:List RA),none,0),A⟩ (a3 U) (aL [3,4,5,6,0,1,2]) ?_
 clear A
 rintro ⟨⟨i,tz,a,c⟩,⟨AE,B⟩⟩ J11 L
 try dsimp only at AE B
 try dsimp only
 refine WS fun _ N=>rP 1 [] mn ?_
 refine RK N<|aj fun _ O=>bq U (aS fun r=>?_) (aR fun r=>?_)
 ·refine bj<|ab<|ab<|ay<|KK AD<|aj fun _ b=>?_
  have Al:eh d i=bh d:=by unfold bh; rw [show i=d.ae.length by omega]
  have l:tz.length=d.ae.length:=by omega
  rw [Al,pN,show (List.zipWith m3 (bh d) tz).length=(bh d).length from by rw [List.length_zipWith,dG]; omega]
  refine ai<|rP 3 [] mn ?_
  refine RK b<|an ?_
  refine LX hQ (true,0,b8,a,c,tz) [6,5,4] [] mn U (by first|rfl|(show List.all _ _=true; simp only [cond_true,ig,List.all_nil,kB,Bool.and_true]; rfl)) U U ?_
  exact ⟨fun _=>⟨C,l⟩,Bd⟩
 refine WK O<|aj fun _ P=>ax<|WS fun _ R=>?_
 obtain ⟨p,hp⟩:=bk d.ae i I
 have A0:=bG aV.cells hp
 refine rS (IA i U (aO 2 U) m1 dc I I)<|rS (mZ i 0 (aV.cells p) U cA (aO 2 U) A0 U dc U U)<|AL U uc fun A4=>gH U vk U<|RK R<|WS fun _ S=>aY 1 U<|RK S<|aj fun _ T=>WS fun _ AA=>rP 5 [] (mc 1 U mn) ?_
 refine RK AA<|ax<|ep 3 1 ?_
 have A:(0≤d.ag.length):=by exact Nat.zero_le _
 refine bu (ι:={z:Nat×(OA)×Nat // (z.1≤d.ag.length)}) [1,2,3,5,7,20,21,22,28,29] [1,2,3,4,5,6,7,8] U U (fun z=>[(8,(vS z.1.2.1 ((dB d p z.1.1).length) z.1.2.2)),(30,(vI (z.1.1:Int)))]) (fun z=>[(own z.1.2.1 z.1.2.2 3 1 ((dB d p z.1.1).map iC))]) (fun _=>rfl) (fun _=>rfl) (fun z=>d.ag.length-z.1.1) ⟨(0,none,0),A⟩ (a3 U) (aL [1,2,3,4,5,6,7,8,0]) ?_
 clear A
 rintro ⟨⟨k,la,lc⟩,D⟩ J21 F
 try dsimp only at D
 try dsimp only
 refine WS fun _ V=>rP 1 [] mn ?_
 refine RK V<|aj fun _ W=>bq U (aS fun s=>?_) (aR fun s=>?_)
 ·refine bj<|ab<|ab<|ay<|KK T<|ai ?_
  rw [show dB d p k=dB d p d.ag.length from by rw [show k=d.ag.length by omega]]
  refine aY 2 U<|rS (SX (cV U U) U U)<|rP 3 [] (mc 7 U mn) ?_
  refine df (xs:=[.tmp 61]) (cs:=[(vS la ((dB d p d.ag.length).length) lc)]) U xC yf U U U U (by simp [Value.cells]) U U fun A7=>?_
  refine dF (es2:=(List.map sC (List.zipWith m3 (eh d (i+1)) (tz++[(la,lc)])))) (m':=(List.zipWith m3 (eh d (i+1)) (tz++[(la,lc)])).length) 7 U U U An U U sm (aK (es:=List.map sC [(bB.mk la ((dB d p d.ag.length).length) lc)]) 0 U U (by simp [sj]) U) (x5 _) (by rw [List.length_zipWith,gz I]; omega) (by rw [List.length_zipWith,gz I]; simp only [maxLen]; omega) (by rw [su hp B,List.map_append]; rfl) sm U fun J K=>?_
  try dsimp only
  refine rS (SX (cV U U) U U)<|aY 1 U<|Bk (cd.cells (cd.mk (aZ.mk (ar.mk (bB.mk kA d.ag.length kC)) (bB.mk pA d.ae.length pC) (bB.mk nA d.aq.length nC) d.a2 d.a4) (bB.mk J ((List.zipWith m3 (eh d (i+1)) (tz++[(la,lc)])).length) K))) U zV U U<|aB<|aF<|KK P<|ai<|rP 2 [] mn ?_
  refine aB<|yN (X':=ga mJ (eh d (i+1)) (tz++[(la,lc)])) 6 9 U U (sI (a:=(la,lc)) hp B) ?_
  have g:(vI (((i+1):Nat):Int))=(vI ((i:Int)+1)):=by exact cI I
  refine aU (L ⟨((i+1),(tz++[(la,lc)]),J,K),⟨I,by simp; omega⟩⟩ _ _ _ U os (bL 6<|aN U g<|cE.nil _) (aL [3,4,5,6,0,7,8]))
 refine WK W<|aj fun _ G=>ax<|WS fun _ X=>rP 2 [] mn ?_
 refine RK X<|aj fun _ Y=>eD dw 10 kr ?_
 have E:=Aw.post i p hp
 unfold cg at E
 have AY:=ye j E.2.2.1 (k:=(k:Int)) I
 have BD:=xr E.2.2.2.2 AY
 refine kU 3 [] (mc 0 U mn) U<|dS (LP (ar.cells (ar.mk (bB.mk kA d.ag.length kC))) 1 U cA U U U)<|gf 1 U<|dS (LP (aG.cells p.cp) 0 U cA U U U)<|dP 1 [] mn ?_
 refine dS (CL (uv d.ag kA kC p.cp (k:Int) sd sd (by exact j) (by exact E.2.2.1) sd) (bg [2]) U) ?_
 refine dS (BI U (ze ⟨I,I⟩))<|gf 1 U<|cR<|RK Y<|aj fun _ H=>WS fun _ Z=>aY 1 U<|rS (BI U (yQ I I))<|rP 1 [] mn ?_
 refine RK Z<|bq U (aS fun h=>?_) (aR fun h=>?_)
 ·refine WK H<|ai<|gJ 4 [] (mc 0 U mn) U<|rS (BI U (wv I I I))<|rP 1 [] mn ?_
  refine df (xs:=[.tmp 52]) (cs:=[(vI (p.gL+((p.jM*(ji d.ag p.cp (k:Int)))/1000)))]) U cL g0 U U U U (by simp [Value.cells]) U U fun A6=>?_
  refine dF (es2:=(List.map iC (dB d p (k+1)))) (m':=(dB d p (k+1)).length) 9 U U U mA U U sm (aK (es:=List.map iC [(p.gL+((p.jM*(ji d.ag p.cp (k:Int)))/1000))]) 0 U U (by simp [ba]) U) (gW _) (by simp only [fJ]; omega) (by simp only [maxLen,fJ]; omega) (by rw [lH,List.map_append]; exact congrArg (fun z=>List.map iC (dB d p k)++List.map iC [z]) (by unfold eX; omega)) sm U fun n q=>?_
  try dsimp only
  refine aY 1 U<|aB<|aF<|KK G<|ai<|rP 2 [] mn ?_
  refine aB ?_
  have f:(vI (((k+1):Nat):Int))=(vI ((k:Int)+1)):=by exact cI I
  refine aU (F ⟨((k+1),n,q),(by first|omega|(simp only []; omega))⟩ _ _ _ U os (bL 11<|aN U f<|cE.nil _) (aL [1,2,3,4,5,6,7,8,9]))
 refine ai<|aY 3 U<|RK H<|ai<|gJ 4 [] (mc 0 U mn) U<|rS (BI U (wv I I I))<|rP 1 [] mn ?_
 refine df (xs:=[.tmp 52]) (cs:=[(vI (p.gL+(((p.jM*(ji d.ag p.cp (k:Int)))+1000)/1000)))]) U cL g0 U U U U (by simp [Value.cells]) U U fun A5=>?_
 refine dF (es2:=(List.map iC (dB d p (k+1)))) (m':=(dB d p (k+1)).length) 9 U U U mA U U sm (aK (es:=List.map iC [(p.gL+(((p.jM*(ji d.ag p.cp (k:Int)))+1000)/1000))]) 0 U U (by simp [ba]) U) (gW _) (by simp only [fJ]; omega) (by simp only [maxLen,fJ]; omega) (by rw [lH,List.map_append]; exact congrArg (fun z=>List.map iC (dB d p k)++List.map iC [z]) (by unfold eX; omega)) sm U fun m o=>?_
 try dsimp only
 refine aY 1 U<|aB<|aF<|KK G<|ai<|rP 2 [] mn ?_
 refine aB ?_
 have e:(vI (((k+1):Nat):Int))=(vI ((k:Int)+1)):=by exact cI I
 refine aU (F ⟨((k+1),m,o),(by first|omega|(simp only []; omega))⟩ _ _ _ U os (bL 11<|aN U e<|cE.nil _) (aL [1,2,3,4,5,6,7,8,9]))
end
section
open Go.RowKit
theorem q4 (d:ak) (kA:OA) (kC:Nat) (pA:OA) (pC:Nat) (nA:OA) (nC:Nat) (tA:OA) (tN tC gw:Nat) (l:List Int) (lA:OA) (lC:Nat) (hn:d.ae.length≤8) (hl: ∀ x∈l,0≤x∧x<(d.ae.length:Int)) (hlen:l.length≤1000000):
 dx Tryz.prog 38 [(vP gw),(vS lA l.length lC)] [(rd kA d.ag.length 9 (d.ag.map aa.cells)),(rd pA d.ae.length 7 (d.ae.map aV.cells)),(rd nA d.aq.length 3 (d.aq.map bc.cells)),(cv gw 76 (cd.cells (cd.mk (aZ.mk (ar.mk (bB.mk kA d.ag.length kC)) (bB.mk pA d.ae.length pC) (bB.mk nA d.aq.length nC) d.a2 d.a4) (bB.mk tA tN tC)))),(rd lA l.length 1 (l.map iC))] (vI (de d.ae.length l:Int)):=by
 have S:=iA hn
 refine bD kr Tryz.func38 U U fun V Q hQ hN=>?_
 try dsimp only
 refine WS fun _ H=>aY 1 U<|RK H<|WS fun _ AB=>aY 1 U<|rS (SX (cV U U) U U)<|gJ 4 [] (mr 3 U mn) U<|rS (BI U (og (i:=d.ae.length) I I))<|aY 2 U<|RK AB<|aj fun _ J=>WS fun _ K=>rP 3 [] mn ?_
 refine RK K<|ax ?_
 have A:(0≤l.length):=by exact Nat.zero_le _
 have N:(vI (de d.ae.length (l.take 0):Int))=(vI (((2^d.ae.length:Nat):Int)-1)):=by exact cI (by show _=((2^d.ae.length:Nat):Int)-1; unfold de; simp only [List.take_zero,List.foldl_nil]; omega)
 refine bu (ι:={z:Nat // (z≤l.length)}) [16,17] [0,1,2,4] U U (fun z=>[(5,(vI (de d.ae.length (l.take z.1):Int))),(18,(vI (z.1:Int)))]) (fun z=>[]) (fun _=>rfl) (fun _=>rfl) (fun z=>l.length-z.1) ⟨0,A⟩ (aN U N<|a3 U) (aL [0,1,2,4]) ?_
 clear A
 rintro ⟨i,O⟩ J6 G
 try dsimp only
 refine WS fun _ L=>rP 1 [] mn ?_
 refine RK L<|aj fun _ M=>bq U (aS fun R=>?_) (aR fun R=>?_)
 ·refine bj<|ab<|ab<|ay<|KK J<|WS fun _ D=>rP 2 [] mn ?_
  refine RK D<|an<|Q1 hQ U U U ?_
  rw [List.take_of_length_le I]
 refine WK M<|aj fun _ B=>ax<|WS fun _ C=>?_
 obtain ⟨x,hx⟩:=bk l i I
 have P:=bG iC hx
 refine rS (IA i U (aO 3 U) cL dc I I)<|rS (g5 i 0 (vI x) U cA (aO 3 U) P U dc U)<|rP 1 [] mn ?_
 refine RK C<|ai ?_
 have AA:=hl x (aI hx)
 have T:=hE (l:=l.take i) hn
 refine aY 2 U<|rS (BI U (og (i:=(x).toNat) I I))<|rS (BI U (o8 (s:=(de d.ae.length (l.take i))) (i:=((x).toNat)) I U I I))<|aY 1 U<|aB<|aF<|KK B<|ai<|rP 2 [] mn ?_
 refine aB ?_
 have E:(vI ((de d.ae.length (l.take (i+1)):Nat):Int))=(vI ((hZ (de d.ae.length (l.take i)) ((x).toNat):Nat):Int)):=by rw [uo hx]
 have F:(vI (((i+1):Nat):Int))=(vI ((i:Int)+1)):=by exact cI I
 refine aU (G ⟨(i+1),(by first|omega|(simp only []; omega))⟩ _ _ _ U os (cE.cons U<|cE.cons U<|aN U E<|aN U F<|cE.nil _) (aL [0,1,2,3]))
theorem mG (d:ak) (kA:OA) (kC:Nat) (pA:OA) (pC:Nat) (nA:OA) (nC:Nat) (l:List Int) (lA:OA) (lC:Nat) (hin:cK d) (hll:l.length≤1000000):
 jK Tryz.prog 33 [(vA (aZ.cells (aZ.mk (ar.mk (bB.mk kA d.ag.length kC)) (bB.mk pA d.ae.length pC) (bB.mk nA d.aq.length nC) d.a2 d.a4))),(vS lA l.length lC)] [(rd kA d.ag.length 9 (d.ag.map aa.cells)),(rd pA d.ae.length 7 (d.ae.map aV.cells)),(rd nA d.aq.length 3 (d.aq.map bc.cells)),(rd lA l.length 1 (l.map iC))] (fun (x:Bool×Int×Nat×(OA)×Nat×(List RA))=>bif x.1 then (vT [(Value.pointer (some ⟨x.2.2.1,0,none⟩)),(vI (de d.ae.length l:Int)),(vI 0)]) else (vT [(Value.pointer none),(vI 0),(vI x.2.1)])) (fun (x:Bool×Int×Nat×(OA)×Nat×(List RA))=>(x.1=true→(bM d l=0∧x.2.2.2.2.2.length=d.ae.length))∧(x.1=false→(x.2.1=bM d l∧ ¬ bM d l=0))) (fun (x:Bool×Int×Nat×(OA)×Nat×(List RA))=>bif x.1 then [(cv x.2.2.1 76 (cd.cells (cd.mk (aZ.mk (ar.mk (bB.mk kA d.ag.length kC)) (bB.mk pA d.ae.length pC) (bB.mk nA d.aq.length nC) d.a2 d.a4) (bB.mk x.2.2.2.1 ((bh d).length) x.2.2.2.2.1)))),(own x.2.2.2.1 x.2.2.2.2.1 43 1 (List.zipWith jD (bh d) x.2.2.2.2.2)),(eg (ga mJ (bh d) x.2.2.2.2.2))] else []):=by
 have w:=hin.kS
 have p:=hin.side
 have Aw:=hin.ku
 have AD:=hin.j7
 have AC:=hin.nk
 have Al:=hin.pk
 refine dh kr Tryz.func33 U U fun w0 Q hQ hN=>?_
 try dsimp only
 refine WS fun _ m=>fN U fun b2=>aY 3 U<|RK m<|WS fun _ AA=>rP 1 [] (mc 0 U mn) ?_
 refine cX (j4 d kA kC pA pC nA nC hin) (qZ 1 2 3 U U U U U U) U fun y4 c=>?_
 obtain ⟨e,y,E,f,g,h⟩:=y4
 cases e
 ·obtain ⟨a,he⟩:=c.2 rfl
  try dsimp only at a he
  subst a
  try dsimp only [cond_true,cond_false,List.cons_append,List.nil_append]
  refine aY 5 U<|RK AA<|aj fun _ v=>WS fun _ G=>rP 2 [] mn ?_
  refine RK G<|bq U (aW fun C=>?_) (aX fun C=>?_)
  ·exact absurd C he
  refine WS fun _ H=>rP 4 [] mn ?_
  refine RK H<|an ?_
  refine LX hQ (false,(br d),0,none,0,[]) [] [] mn U (by first|rfl|(show List.all _ _=true; simp only [cond_true,ig,List.all_nil,kB,Bool.and_true]; rfl)) U U ?_
  refine ⟨AN,fun _=>?_⟩; first|exact Bb (l6 (l:=l) he) he|exact Ba (l7 (l:=l) he (fun q=>by have u:=q i x hx; unfold gP at u; omega))
 obtain ⟨he,s⟩:=c.1 rfl
 try dsimp only [cond_true,cond_false,List.cons_append,List.nil_append]
 refine aY 5 U<|RK AA<|aj fun _ AB=>WS fun _ J=>aY 1 U<|rS (SX (ck (r:= .bool false) U U U eW) U U)<|RK J<|bp U<|WK AB<|WS fun _ K=>aY 1 U<|RK K<|aj fun _ L=>WS fun _ M=>rP 3 [] mn ?_
 refine RK M<|ax ?_
 have B:(0≤l.length)∧(iI d.ae.length l 0):=by exact ⟨Nat.zero_le _,qq⟩
 have X:(vI (iN l 0))=(vI (-1)):=by rw [mK]
 refine bu (ι:={z:Nat // (z≤l.length)∧(iI d.ae.length l z)}) [1,2,7,20,21] [0,1,2,3,4,5,6,7] U U (fun z=>[(9,(vI (iN l z.1))),(22,(vI (z.1:Int)))]) (fun z=>[]) (fun _=>rfl) (fun _=>rfl) (fun z=>l.length-z.1) ⟨0,B⟩ (aN U X<|a3 U) (aL [0,1,2,3,4,5,6,7]) ?_
 clear B
 rintro ⟨i,⟨D,A⟩⟩ J21 F
 try dsimp only
 refine WS fun _ N=>rP 1 [] mn ?_
 refine RK N<|aj fun _ O=>bq U (aS fun k=>?_) (aR fun k=>?_)
 ·refine bj<|ab<|ab<|ay<|KK L<|WS fun _ W=>?_
  obtain ⟨A1,o⟩:=cP he
  have A0:=o.len
  have n:=js (np A I)
  refine aY 3 U<|rS (CL (q4 d kA kC pA pC nA nC f ((bh d).length) g E l lA lC I (by exact n) I) (bg [4,5,6,0,7]) U)<|rP 3 [] mn ?_
  refine RK W<|an ?_
  refine LX hQ (true,0,E,f,g,h) [0,1,2] [] mn U (by first|rfl|(show List.all _ _=true; simp only [cond_true,ig,List.all_nil,kB,Bool.and_true]; rfl)) U U ?_
  exact ⟨fun _=>⟨kR he (np A I),s⟩,Bd⟩
 refine WK O<|aj fun _ P=>ax<|WS fun _ R=>?_
 obtain ⟨x,hx⟩:=bk l i I
 have t:=bG iC hx
 refine rS (IA i U (aO 7 U) cL dc I I)<|rS (g5 i 0 (vI x) U cA (aO 7 U) t U dc U)<|rP 1 [] mn ?_
 refine RK R<|aj fun _ S=>WS fun _ T=>?_
 have AY:=vu D A
 refine rP 7 [] (mc 3 U mn) ?_
 refine df (xs:=[.tmp 32]) (cs:=[(vI x)]) U cL g0 U U U U (by simp [Value.cells]) U U fun j=>?_
 refine rS (CL (dx.eq (ey ((iN l i)+1) ((d.ae.length:Int)-1) ([x]) (some ⟨j,0,none⟩) 1 sd) cz) (av (aK 0 U U (by simp [ba]) U)<|aw) U) ?_
 refine rP 1 [] mn ?_
 refine RK T<|cG U (aX fun b=>?_) (aW fun b=>?_)
 ·refine WS fun _ V=>rP 3 [] mn ?_
  refine RK V<|an ?_
  refine LX hQ (false,2,0,none,0,[]) [] [] mn U (by first|rfl|(show List.all _ _=true; simp only [cond_true,ig,List.all_nil,kB,Bool.and_true]; rfl)) U U ?_
  refine ⟨AN,fun _=>?_⟩; first|exact Bb (l6 (l:=l) he) he|exact Ba (l7 (l:=l) he (fun q=>by have u:=q i x hx; unfold gP at u; omega))
 refine WK S<|ai<|aY 2 U<|aB<|aF<|KK P<|ai<|rP 2 [] mn ?_
 refine aB ?_
 have Y:(vI (iN l (i+1)))=(vI x):=by rw [qu hx]
 have Z:(vI (((i+1):Nat):Int))=(vI ((i:Int)+1)):=by exact cI I
 refine aU (F ⟨(i+1),⟨I,qp A hx (by unfold gP; omega)⟩⟩ _ _ _ U os (bL 5<|aN U Y<|aN U Z<|cE.nil _) (aL [1,2,3,4,5,6,7,8]))
end
section
open Go.RowKit
def zM {σ:Type} (w0:World) (P:Program) (l:Nat) (step:σ→List Value→σ→Prop) (J:σ→ah→Prop) (Z:ah→Prop):Prop:=
 ∀ k x k' A w,step k x k'→J k A→w0.heap.size≤w.heap.size→A.holds w→YieldAt (Fw none) 0 P l x.toArray w fun e w'=>
  (e= .returned (.bool true)∧ ∃ B,J k' B∧Mv A B w w')∨(e= .returned (.bool false)∧ ∃ B,Z B∧Mv A B w w')
def tc {σ:Type} (J:σ→ah→Prop) (Z:ah→Prop) (fin:σ→Prop) (A0:ah) (w0:World) (e:Ending) (w':World):Prop:=
 ∃ v,e= .returned v∧((∃ s B,fin s∧J s B∧Mv A0 B w0 w')∨ ∃ B,Z B∧Mv A0 B w0 w')
structure xQ {σ:Type} (P:Program) (f:FuncId) (fi ca:List Value) (Cp:List ah) (s0:σ) (step:σ→List Value→σ→Prop) (fin:σ→Prop):Prop where
 go:jA P f=true
 run: ∀ (l:Nat) (J:σ→ah→Prop) (Z:ah→Prop) (A0:ah) (w:World),zM w P l step J Z→J s0 A0→A0.holds w→(∀ A∈Cp,A.holds w)→(∀ A∈Cp,rO A0 A.ro)→
  Calls P f (fi++Value.func (.yield l) #[] #[]::ca).toArray w (tc J Z fin A0 w)
theorem Ap {σ:Type} {J:σ→ah→Prop} {Z:ah→Prop} {n:σ} {fin:σ→Prop} {A0 B:ah} {w0 w:World} {C:List ah} {v:Value} (i:Nat) (hC:C[i]? =some B) (hfin:fin n) (hJ:J n B) (hF:Fo A0 w0 B) (hs:St ⟨A0.wf,fun _=>True⟩ w0 C w):tc J Z fin A0 w0 (.returned v) w:=
 ⟨v,rfl,.inl ⟨n,B,hfin,hJ,hs.holds B (aI hC),hs.keeps,fun b hb=>(hs.own B (aI hC) b hb).symm,hF⟩⟩
theorem tF {σ:Type} {J:σ→ah→Prop} {Z:ah→Prop} {fin:σ→Prop} {A0 B:ah} {w0 w:World} {C:List ah} {v:Value} (i:Nat) (hC:C[i]? =some B) (hJ:Z B) (hF:Fo A0 w0 B) (hs:St ⟨A0.wf,fun _=>True⟩ w0 C w):tc J Z fin A0 w0 (.returned v) w:=
 ⟨v,rfl,.inr ⟨B,hJ,hs.holds B (aI hC),hs.keeps,fun b hb=>(hs.own B (aI hC) b hb).symm,hF⟩⟩
theorem v9 {σ:Type} {P:Program} {f:FuncId} {fn:Func} {c:Code} {fi ca:List Value} {Cp:List ah} {s0:σ} {step:σ→List Value→σ→Prop} {fin:σ→Prop} (hgo:jA P f=true) (hf:P.funcs[f]? =some fn) (hb:fn.body=some c) (hn:Nat.ble (fi.length+ca.length+1) fn.ntmps=true)
 (h: ∀ (l:Nat) (J:σ→ah→Prop) (Z:ah→Prop) (A0:ah) (w0:World) (Q:bK),zM w0 P l step J Z→J s0 A0→Fo A0 w0 A0→
  (∀ D L C,LJ ⟨P,none,fn.ntmps,⟨A0.wf,fun _=>True⟩,w0⟩ fn (tc J Z fin A0 w0) D L C→KJ ⟨P,none,fn.ntmps,⟨A0.wf,fun _=>True⟩,w0⟩ (Q .ret) D L C)→
  (∀ D L C,LJ ⟨P,none,fn.ntmps,⟨A0.wf,fun _=>True⟩,w0⟩ fn (tc J Z fin A0 w0) D L C→KJ ⟨P,none,fn.ntmps,⟨A0.wf,fun _=>True⟩,w0⟩ (Q .normal) D L C)→
  WJ ⟨P,none,fn.ntmps,⟨A0.wf,fun _=>True⟩,w0⟩ c Q [] (wP (fi++Value.func (.yield l) #[] #[]::ca)) (A0::Cp.map ah.ro)):xQ P f fi ca Cp s0 step fin:=by
 refine ⟨hgo,fun l J Z A0 w hY hJ hA F E=>?_⟩
 refine qC hf hb (by simpa [Nat.add_assoc] using hn) (h l J Z A0 w · hY hJ (fun b hb=> .inl hb)) ?_
 have G:=kE F
 refine ⟨bW.refl _ _,fun A hA'=>?_,List.Pairwise.cons (fun B hB=>?_) G.sep,fun A hA' b hb=>?_,fun _ _ _ _=> .inr trivial⟩
 ·rcases bE.1 hA' with rfl|hA'
  ·exact hA
  ·exact G.holds A hA'
 ·obtain ⟨B',hB',rfl⟩:=bP.1 hB
  exact E B' hB'
 ·rcases bE.1 hA' with rfl|hA'
  ·exact .inr hb
  ·obtain ⟨B',hB',rfl⟩:=bP.1 hA'
   exact hb.elim
section
variable {E:c_} {ops:Array Oper} {Q:bK} {rest:List Oper} {D:List Deferred} {L:List (Nat×Value)} {C:List ah}
variable {d:Nat} {ty:TypeId} {ps:String} {af:Array Edge} {g:Option (Nat×Bool)}
/-- a call of yield -/
theorem mw {σ:Type} {fop:Operand} {xs:Array Operand} {ts:Array TypeId} {l:Nat} {k k':σ} {vs:List Value} {step:σ→List Value→σ→Prop} {J:σ→ah→Prop} {Z:ah→Prop} {A0 A:ah} {w1:World} (i:Nat) (hw1:w1.heap.size≤E.w0.heap.size) (hY:zM w1 E.P l step J Z) (hJ:J k A) (hF:Fo A0 w1 A) (hg:e6 ops L g=true) (hf:ev L fop=some (.func (.yield l) #[] #[]))
 (hx:evs L xs.toList=some vs) (hk:step k vs k') (hC:C[i]? =some A) (hd:Nat.blt d E.n=true)
 (k1: ∀ B,J k' B→Fo A0 w1 B→RJ E ops Q rest D ((d,.bool true)::L) (C.set i B))
 (k2: ∀ B,Z B→Fo A0 w1 B→RJ E ops Q rest D ((d,.bool false)::L) (C.set i B)):
 RJ E ops Q (⟨some d,.call {callee:= .value fop,args:=xs,argTypes:=ts},ty,ps,af,g⟩::rest) D L C:=by
 intro a w F hs
 have hd':d<E.n:=by rw [← Nat.blt_eq]; exact hd
 unfold kK
 rw [if_pos (cx F hg)]
 have K:xs.map a.eval=vs.toArray:=by
  have:=F.evs hx
  apply Array.ext'
  simp [this]
 obtain ⟨fn,tmps,assign,body,hy,hr⟩:=hY k vs k' A w hk hJ (Nat.le_trans hw1 hs.keeps.size) (hs.holds A (aI hC))
 have H:(execOp a.eval ⟨some d,.call {callee:= .value fop,args:=xs,argTypes:=ts},ty,ps,af,g⟩).run E.P w= .ok (.round l fn tmps assign body) w:=by
  simp [execOp,resolve,F.ev hf,Deferred.ofValue,invoke,K,hy]
 refine ⟨fun _ _=>trivial,?_⟩
 rw [Oper.semAt_eq _ _ _ sm,H]
 refine ⟨fun h=>by simp at h,?_⟩
 have G: ∀ (B:ah) (w':World),Mv A B w w'→Fo A0 w1 B:=fun B w' m b hb=>by
  rcases m.cH b hb with AA|AA
  ·exact hF b AA
  ·exact .inr (Nat.le_trans hw1 (Nat.le_trans hs.keeps.size AA))
 have hr':RoundIn (Fw E.r) 0 E.P l fn tmps assign body w _:=hr
 refine hr'.mono fun e w' he=>?_
 rcases he with ⟨rfl,B,hB,m⟩|⟨rfl,B,hB,m⟩
 ·exact k1 B hB (G B w' m) _ _ (F.put hd' _) (hs.mv i hC m)
 ·exact k2 B hB (G B w' m) _ _ (F.put hd' _) (hs.mv i hC m)
end
theorem tG {σ:Type} {E:c_} {Q:bK} {D:dH} {L L0:bT} {C F:List ah} {g:Operand} {ps:Array Tmp} {assign body:Code} {f:FuncId} {fi ca:List Value} {Cp:List ah} {s0:σ} {step:σ→List Value→σ→Prop} {fin_:σ→Prop} {ι κ:Type}
 (inv:σ→ι→Prop) (Ci:σ→ι→List ah) (invx:Code→κ→Prop) (Cx:Code→κ→List ah) (isJ isF:List Nat) (y0:ι)
 (hr:E.r=none) (hg:ev L g=some (.func (.func f) fi.toArray ca.toArray)) (hs:xQ E.P f fi ca Cp s0 step fin_)
 (hnd:decide (isJ++isF).Nodup=true) (hJ:ki C isJ=Ci s0 y0) (hF:ki C isF=F) (h0:inv s0 y0) (hCp: ∀ A∈Cp,∃ B∈F,x8 B A)
 (hps: ∀ k x k',step k x k'→x.length=ps.size) (hpn:ps.toList.all (fun t=>Nat.blt t E.n)=true) (hL:cE L L0)
 (round: ∀ (k:σ) (x:List Value) (k':σ) (y:ι) (l:Nat) (ra rb:Loop) (S:BS) (w0:World) (K:Act→World→Prop) (Qr:bK),E.w0.heap.size≤w0.heap.size→step k x k'→inv k y→
  (∀ L' C',WJ ⟨E.P,some l,E.n,S,w0⟩ body Qr [] L' (fD l (.loop rb)::C')→KJ ⟨E.P,some l,E.n,S,w0⟩ K [] L' (fD l (.loop ra)::C'))→
  (∀ y' L' C',inv k' y'→(∀ w,St S w0 C' w→St S w0 (fD l (.loop rb)::Ci k' y') w)→KJ ⟨E.P,some l,E.n,S,w0⟩ (Qr .normal) [] L' C')→
  (∀ id z L' C',invx (.exit id) z→(∀ w,St S w0 C' w→St S w0 (fD l (.loop rb)::Cx (.exit id) z) w)→KJ ⟨E.P,some l,E.n,S,w0⟩ (Qr (.exit id)) [] L' C')→
  (∀ z L' C',invx .ret z→(∀ w,St S w0 C' w→St S w0 (fD l (.loop rb)::Cx .ret z) w)→KJ ⟨E.P,some l,E.n,S,w0⟩ (Qr .ret) [] L' C')→
  WJ ⟨E.P,some l,E.n,S,w0⟩ assign (Exit.then K (fun _ _ _=>False)) [] (oD ps.toList x L0) (fD l (.loop ra)::Ci k y))
 (fin: ∀ r s y,fin_ s→inv s y→KJ E (Q .normal) (gd r::D) L0 (fD r (.deferred (some []))::(F++Ci s y)))
 (finx: ∀ r id z,invx (.exit id) z→KJ E (Q (.exit id)) (gd r::D) L0 (fD r (.deferred (some []))::(F++Cx (.exit id) z)))
 (finr: ∀ r z,invx .ret z→KJ E (Q .ret) (gd r::D) L0 (fD r (.deferred (some []))::(F++Cx .ret z))):WJ E (.rangeFunc g ps assign body) Q D L C:=by
 intro a w hf q
 refine wpIn_rangeFunc fun fn _=>?_
 show ∃ l gd w₁ d w₁' f args w₂,(Instr.enterLoop fn a.tmps ps assign body E.r).run E.P w= .ok (l,gd) w₁∧_
 rw [hr]
 obtain ⟨rec,G⟩: ∃ rec:LoopState→Option Code→Loop,rec=fun st pe=>{state:=st,pending:=pe,fn,tmps:=a.tmps,params:=ps,assign,body,defers:=w.heap.size}:=⟨_,rfl⟩
 obtain ⟨W1,R⟩: ∃ W1,(w.alloc (.deferred (some []))).alloc (.loop (rec .ready none))=W1:=⟨_,rfl⟩
 have Aw:a.eval g= .func (.func f) fi.toArray ca.toArray:=hf.ev hg
 have p:(Instr.enterLoop fn a.tmps ps assign body none).run E.P w= .ok (w.heap.size+1,[gd w.heap.size]) W1:=by
  rw [← R,G]; exact run_enterLoop_outer _ _ _ _ _
 -- the state with the record and the block
 have u:St E.S E.w0 ((fD (w.heap.size+1) (.loop (rec .ready none))::Ci s0 y0)++(fD w.heap.size (.deferred (some []))::F)) W1:=by
  have X:St E.S E.w0 (Ci s0 y0++F) w:=St.ki (isJ++isF) hnd (by have X:=hJ; have j:=hF; unfold Go.Proofs.YtpfjokbjambohaaGreat.ki at X j ⊢; rw [List.filterMap_append,X,j]) q
  have hn:vj w W1 [fD (w.heap.size+1) (.loop (rec .ready none)),fD w.heap.size (.deferred (some []))]:=by
   refine ⟨fun A hA=>?_,fun A hA b hb=>?_,?_⟩
   ·rcases bE.1 hA with rfl|hA
    ·show W1.heap[w.heap.size+1]? =_
     rw [← R]; have:=World.alloc_heap_new (w.alloc (.deferred (some []))) (.loop (rec .ready none)); rwa [World.size_alloc] at this
    ·simp only [cu] at hA; subst hA
     show W1.heap[w.heap.size]? =_
     rw [← R]; exact (Below.heap_alloc _ _ _ sm).trans (World.alloc_heap_new w _)
   ·rcases bE.1 hA with rfl|hA
    ·have:b=w.heap.size+1:=hb
     omega
    ·simp only [cu] at hA; subst hA
     have:b=w.heap.size:=hb
     omega
   ·refine List.Pairwise.cons (fun B hB b X j=>?_) (List.pairwise_singleton _ _)
    simp only [cu] at hB; subst hB
    have V:b=w.heap.size+1:=X
    have O:b=w.heap.size:=j
    omega
  have hk:bW no w W1:=by rw [← R]; exact (bW.alloc no w _).trans (bW.alloc no _ _)
  have j:=X.grow hk hn
  refine j.perm ?_
  simp only [List.cons_append,List.nil_append]
  exact List.Perm.cons _ (List.perm_middle.symm)
 have Y:=u.se
 obtain ⟨H,A4⟩:=List.pairwise_cons.1 Y.sep
 have AY:=Y.holds _ (ew ..)
 let J:σ→ah→Prop:=fun k A=> ∃ y,inv k y∧A=eg (fD (w.heap.size+1) (.loop (rec .ready none))::Ci k y)
 let Z:ah→Prop:=fun A=> ∃ c z,(c= .ret∨ ∃ id,c= .exit id)∧invx c z∧A=eg (fD (w.heap.size+1) (.loop (rec .done (some c)))::Cx c z)
 refine ⟨w.heap.size+1,[gd w.heap.size],W1,{target:= .fn (.func f) ca.toArray,args:=fi.toArray++ #[.func (.yield (w.heap.size+1)) #[] #[]]},W1,f,
  (fi++Value.func (.yield (w.heap.size+1)) #[] #[]::ca).toArray,W1,p,?_,fun _ _=>trivial,?_,fun h=>by simp at h,?_⟩
 ·simp only [resolve,Aw]
  simp [Deferred.ofValue,Act.eval]
 ·have:fi.toArray++ #[Value.func (.yield (w.heap.size+1)) #[] #[]]++ca.toArray=(fi++Value.func (.yield (w.heap.size+1)) #[] #[]::ca).toArray:=by simp
  simp [invoke,ik hs.go]
 ·refine (iQ E.r (hs.run (w.heap.size+1) J Z _ W1 ?_ ⟨y0,h0,U⟩ AY ?_ ?_)).mono ?_
  ·-- a round
   rintro k x k' A W hx ⟨y,hy,rfl⟩ Al hA
   have hl:W.heap[w.heap.size+1]? =some (.loop (rec .ready none)):=hA.1 _ (ew ..)
   have AC:=run_yield (P:=E.P) (args:=x.toArray) hl (by rw [G]; simpa using hps k x k' hx)
   rw [G] at AC
   refine ⟨fn,_,assign,body,AC,roundIn_of_wpIn trivial ?_⟩
   let A:ah:=eg (fD (w.heap.size+1) (.loop (rec .ready none))::Ci k y)
   have A0:Fr E.n [] (oD ps.toList x L0) {tmps:=(ps.zip x.toArray).foldl (fun tmps (t,a)=>tmps.setIfInBounds t a) a.tmps,defers:=[]}:=by
    have X:=tD ps.toList x L0 a.tmps (fun t ht=>by have:=bY.1 hpn t ht; rwa [Nat.blt_eq] at this) ⟨rfl,hf.size,fun t v hv=>hf.at_ t v (hL t v hv)⟩
    rw [← Array.foldl_toList]
    simpa using X
   have o: ∀ (c:Option Code) (b:Bool),({rec .busy none with state:=if b then .ready else .done,pending:=c}:Loop)=rec (if b then .ready else .done) c:=fun c b=>by rw [G]
   have T: ∀ (c:Option Code) (N:World) (C':List ah) (S:BS),St S W (fD (w.heap.size+1) (.loop (rec .busy none))::C') N→
    ∃ M,(Instr.endRound (w.heap.size+1) c).run E.P N= .ok (.bool c.isNone) M∧St S W (fD (w.heap.size+1) (.loop (rec (if c.isNone then .ready else .done) c))::C') M:=fun c N C' S H=>by
    have AB:N.heap[w.heap.size+1]? =some (.loop (rec .busy none)):=H.holds _ (ew ..)
    refine ⟨_,run_endRound c AB,?_⟩
    have:=H.qB (b:=w.heap.size+1) (A':=fD (w.heap.size+1) (.loop (rec (if c.isNone then .ready else .done) c))) 0 rfl rfl rfl (ef _) (fun _ h=>h) (World.putObj_heap_same (cS AB))
    rw [o]
    exact this
   refine round k x k' y (w.heap.size+1) (rec .ready none) (rec .busy none) ⟨A.wf,A.cH⟩ W _ (roundPost E.P (w.heap.size+1) (fun e w'=>(e= .returned (.bool true)∧ ∃ B,J k' B∧Mv A B W w')∨(e= .returned (.bool false)∧ ∃ B,Z B∧Mv A B W w'))) (Nat.le_trans (Nat.le_trans q.keeps.size (by rw [← R]; simp; omega)) Al) hx hy ?_ ?_ ?_ ?_ _ _ A0 (St.ru hA)
   ·intro L' C' hW a1 N i H
    have AB:N.heap[w.heap.size+1]? =some (.loop (rec .ready none)):=H.holds _ (ew ..)
    refine ⟨_,run_beginRound AB (by rw [G]),hW _ _ i ?_⟩
    have:=H.qB (b:=w.heap.size+1) (A':=fD (w.heap.size+1) (.loop (rec .busy none))) 0 rfl rfl rfl (ef _) (fun _ h=>h) (World.putObj_heap_same (cS AB))
    have e:({rec .ready none with state:= .busy}:Loop)=rec .busy none:=by rw [G]
    rw [e]; exact this
   ·intro y' L' C' hy' hC' a1 N i H
    obtain ⟨M,V,O⟩:=T none N _ _ (hC' _ H)
    exact ⟨_,M,V,.inl ⟨U,_,⟨y',hy',U⟩,Mv.of O⟩⟩
   ·intro id z L' C' hz hC' a1 N i H
    obtain ⟨M,V,O⟩:=T (some (.exit id)) N _ _ (hC' _ H)
    exact ⟨_,M,V,.inr ⟨U,_,⟨_,z,.inr ⟨id,U⟩,hz,U⟩,Mv.of O⟩⟩
   ·intro z L' C' hz hC' a1 N i H
    obtain ⟨M,V,O⟩:=T (some .ret) N _ _ (hC' _ H)
    exact ⟨_,M,V,.inr ⟨U,_,⟨_,z,.inl U,hz,U⟩,Mv.of O⟩⟩
  ·intro A hA
   obtain ⟨B,hB,hc⟩:=hCp A hA
   exact hc.holds _ (Y.holds B (ek _ (ek _ hB)))
  ·intro A hA b hb hb'
   obtain ⟨B,hB,hc⟩:=hCp A hA
   exact ⟨(H B (ek _ hB) b hb (hc.cH b hb')).1,fun h=>h⟩
  ·rintro e w' ⟨v,rfl,hh⟩
   have AA:Fr E.n (gd w.heap.size::D) L0 {a with defers:=[gd w.heap.size]++a.defers}:=⟨by simp [hf.defers],hf.size,fun t v hv=>hf.at_ t v (hL t v hv)⟩
   have hleave: ∀ (st:LoopState) (c:Option Code) (C':List ah),st≠ .busy→Mv (eg (fD (w.heap.size+1) (.loop (rec .ready none))::Ci s0 y0)) (eg (fD (w.heap.size+1) (.loop (rec st c))::C')) W1 w'→
    ∃ M,(Instr.endLoop (w.heap.size+1)).run E.P w'= .ok c M∧St E.S E.w0 (fD w.heap.size (.deferred (some []))::(F++C')) M:=fun st c C' A2 m=>by
    have X:=(Y.mv 0 rfl m).l3
    have h1':St E.S E.w0 ((fD (w.heap.size+1) (.loop (rec st c))::C')++(fD w.heap.size (.deferred (some []))::F)) w':=X
    have AB:w'.heap[w.heap.size+1]? =some (.loop (rec st c)):=h1'.holds (fD (w.heap.size+1) (.loop (rec st c))) sm
    refine ⟨_,by have:=run_endLoop (P:=E.P) AB (by rw [G]; exact A2); rw [this,G],?_⟩
    have j:=h1'.qB (b:=w.heap.size+1) (A':=fD (w.heap.size+1) (.loop {rec st c with state:= .exhausted})) 0 rfl rfl rfl (ef _) (fun _ h=>h) (World.putObj_heap_same (cS AB))
    have h3:St E.S E.w0 (C'++(fD w.heap.size (.deferred (some []))::F)) _:=j.take (List.sublist_cons_self _ _)
    rw [G] at h3
    refine h3.perm ?_
    exact (List.perm_append_comm).trans sm
   rcases hh with ⟨s,B,A1,⟨y,hy,rfl⟩,m⟩|⟨B,⟨c,z,hc,hz,rfl⟩,m⟩
   ·obtain ⟨M,V,O⟩:=hleave .ready none _ sm m
    exact ⟨none,M,V,fin w.heap.size s y A1 hy _ _ AA O⟩
   ·obtain ⟨M,V,O⟩:=hleave .done (some c) _ sm m
    refine ⟨some c,M,V,?_⟩
    rcases hc with rfl|⟨id,rfl⟩
    ·exact wpIn_ret (finr w.heap.size z hz _ _ AA O)
    ·exact wpIn_exit (finx w.heap.size id z hz _ _ AA O)
end
section
open Go.RowKit
abbrev jC (r:Nat):ah:=fD r (.deferred (some []))
theorem vX {E:c_} {c:Code} {Q:bK} {D:dH} {L:bT} {C:List ah} {ι:Type} (Di:ι→dH) (Li:ι→bT) (Ci:ι→List ah) (μ:ι→Nat) (x0:ι)
 (hD:D=Di x0) (h0:cE L (Li x0)) (hC: ∀ w,St E.S E.w0 C w→St E.S E.w0 (Ci x0) w)
 (round: ∀ x (J:Act→World→Prop),(∀ y D' L' C',D'=Di y→μ y<μ x→cE L' (Li y)→(∀ w,St E.S E.w0 C' w→St E.S E.w0 (Ci y) w)→KJ E J D' L' C')→WJ E c (Exit.then J Q) (Di x) (Li x) (Ci x)):WJ E (.loop c) Q D L C:=by
 intro a w hf hs
 subst hD
 have H: ∃ x,Fr E.n (Di x) (Li x) a∧St E.S E.w0 (Ci x) w:=⟨x0,hf.sub h0,hC w hs⟩
 clear hf hs
 have key: ∀ (m:Nat) (a:Act) (w:World),(∃ x,μ x=m∧Fr E.n (Di x) (Li x) a∧St E.S E.w0 (Ci x) w)→(Code.loop c).wpIn (Fw E.r) 0 E.P Q a w:=by
  intro m a w hx
  refine wpIn_loop (fun a w=> ∃ x,Fr E.n (Di x) (Li x) a∧St E.S E.w0 (Ci x) w) (fun a w=>leastOf fun k=> ∃ x,μ x=k∧Fr E.n (Di x) (Li x) a∧St E.S E.w0 (Ci x) w) (by obtain ⟨x,_,h⟩:=hx; exact ⟨x,h⟩) ?_
  intro a w hx
  have F: ∃ k,∃ x,μ x=k∧Fr E.n (Di x) (Li x) a∧St E.S E.w0 (Ci x) w:=by obtain ⟨x,h⟩:=hx; exact ⟨_,x,rfl,h⟩
  obtain ⟨x,K,AA,M⟩:=(leastOf_spec F).1
  refine round x _ ?_ a w AA M
  intro y D' L' C' hD G A B a' w' hf' hs'
  subst hD
  refine ⟨⟨y,hf'.sub A,B _ hs'⟩,?_⟩
  rw [← K]
  exact Nat.lt_of_le_of_lt ((leastOf_spec ⟨_,y,U,hf'.sub A,B _ hs'⟩).2 _ ⟨y,U,hf'.sub A,B _ hs'⟩) G
 obtain ⟨x,h⟩:=H
 exact key _ a w ⟨x,U,h⟩
theorem St.AY {S:BS} {w0 w:World} {C X:List ah} {A:ah} (h:St S w0 (A::eg X::C) w):St S w0 (eg (A::X)::C) w:=by
 have B:St S w0 (eg X::A::C) w:=h.perm (List.Perm.swap _ _ _)
 have D:St S w0 ((A::X)++C) w:=B.l3.perm (List.perm_middle (a:=A) (l₁:=X) (l₂:=C))
 exact D.se
theorem xG {E:c_} {K:Act→World→Prop} {D:dH} {L:bT} {C C1 X:List ah} {A:ah} (i j:Nat) (hn:decide (j::i::(List.range C.length).filter fun k=>k != i&&k != j).Nodup=true) (hC:ki C (j::i::(List.range C.length).filter fun k=>k != i&&k != j)=A::eg X::C1)
 (h:KJ E K D L (eg (A::X)::C1)):KJ E K D L C:=fun a w hf hs=>h a w hf ((St.ki _ hn hC hs).AY)
theorem v7 {E:c_} {fn:Func} {R:Ending→World→Prop} {D:dH} {L:bT} {C C1:List ah} {rs:List Nat} (i:Nat) (hn:decide (i::(List.range C.length).filter fun k=>k != i).Nodup=true) (hC:ki C (i::(List.range C.length).filter fun k=>k != i)=eg (rs.map jC)::C1)
 (h:LJ E fn R D L C1):LJ E fn R (rs.map gd++D) L C:=by
 have key: ∀ rs:List Nat,LJ E fn R (rs.map gd++D) L (eg (rs.map jC)::C1):=by
  intro rs
  induction rs with
  |nil=>exact fun a w hf hs=>h a w hf (hs.take (List.sublist_cons_self _ _))
  |cons r rs ih=>
   have A:LJ E fn R (gd r::(rs.map gd++D)) L (jC r::eg (rs.map jC)::C1):=qJ 0 rfl rfl (fun a w hf hs=>ih a w hf (hs.take (List.sublist_cons_self _ _)))
   intro a w hf hs
   refine A a w hf ?_
   have B:St E.S E.w0 ((jC r::rs.map jC)++C1) w:=St.l3 (C1:=jC r::rs.map jC) hs
   have F:St E.S E.w0 (rs.map jC++(jC r::C1)) w:=B.perm (List.perm_middle (a:=jC r) (l₁:=rs.map jC) (l₂:=C1)).symm
   exact F.se.perm (List.Perm.swap _ _ _)
 exact fun a w hf hs=>key rs a w hf (St.ki _ hn hC hs)
theorem tf {E:c_} {fn:Func} {R:Ending→World→Prop} {L:bT} {C C1:List ah} {rs:List Nat} (i:Nat) (hn:decide (i::(List.range C.length).filter fun k=>k != i).Nodup=true) (hC:ki C (i::(List.range C.length).filter fun k=>k != i)=eg (rs.map jC)::C1)
 (h:LJ E fn R [] L C1):LJ E fn R (rs.map gd) L C:=by
 have:=v7 (D:=[]) i hn hC h
 rwa [List.append_nil] at this
end
section
open Go.RowKit
section
variable {K:Type} [DecidableEq K] {kV:K→Value}
variable {E:c_} {ops:Array Oper} {Q:bK} {rest:List Oper} {D:List Deferred} {L:List (Nat×Value)} {C:List ah}
variable {ty:TypeId} {ps:String} {af:Array Edge} {g:Option (Nat×Bool)}
theorem pL {t kt et:TypeId} {xm xk:Operand} {ts:Array TypeId} {b:Nat} {x:K} {m m':List (K×Value)} {C':List ah} (i:Nat) (hg:e6 ops L g=true) (hm:ev L xm=some (.map (some b))) (hk:ev L xk=some (kV x)) (hts:ts[0]? =some t)
 (ht:E.P.underlying t=some (.map kt et)) (hkt:oV E.P kt kV) (hC:C[i]? =some (lW kV b m)) (hm':dJ m x=m') (hC':C.set i (lW kV b m')=C') (k:RJ E ops Q rest D L C'):
 RJ E ops Q (⟨none,.call {callee:= .builtin .delete,args:= #[xm,xk],argTypes:=ts},ty,ps,af,g⟩::rest) D L C:=by
 subst hm' hC'
 intro a w A hs
 unfold kK
 rw [if_pos (cx A hg)]
 obtain ⟨es,c,he,hi⟩:=hs.holds _ (aI hC)
 have B:(getObj b).run E.P w= .ok (.map es c) w:=MapKept.run_getObj_map he
 rcases lh (P:=E.P) (w:=w) (x:=x) hkt hi with ⟨F,G⟩|⟨j,AA,F,G,H⟩
 ·refine eb (v:= .tuple #[]) (w':={w with heap:=w.heap.setIfInBounds b (.map es c)}) sm ?_ ?_
  ·simp [execOp,resolve,invoke,builtin,A.ev hm,A.ev hk,Builtin.delete_,hts,run_underlying ht,B,fM hkt,F,MapKept.run_setObj_map _ he]
  ·refine k _ _ ⟨A.defers,A.size,A.at_⟩ (hs.qB (b:=b) i hC U U (jn _) (fun _ h=>h) ⟨_,_,kM he,?_⟩)
   rw [qf G]; exact hi
 ·refine eb (v:= .tuple #[]) (w':={w with heap:=w.heap.setIfInBounds b (.map (es.eraseIdxIfInBounds j) c)}) sm ?_ ?_
  ·simp [execOp,resolve,invoke,builtin,A.ev hm,A.ev hk,Builtin.delete_,hts,run_underlying ht,B,fM hkt,F,MapKept.run_setObj_map _ he]
  ·exact k _ _ ⟨A.defers,A.size,A.at_⟩ (hs.qB (b:=b) i hC U U (jn _) (fun _ h=>h) ⟨_,_,kM he,hi.del G⟩)
end
end
section
open Go.RowKit
theorem vz (d:ak) (kA:OA) (kC:Nat) (pA:OA) (pC:Nat) (nA:OA) (nC:Nat) (tA:OA) (tN tC gw:Nat) (m:BM) (P:Nat→Prop) (gm:Nat) (s:aG) (g1 g2 g3:Nat) (hin:cK d) (htr:a_ d.ag=true) (hok:dQ d) (hss:bR d.ag s) (hm:eo m P):
 xQ Tryz.prog 87 [] [(vP g1),(vP g2),(vP g3)] [(rd kA d.ag.length 9 (d.ag.map aa.cells)),(rd pA d.ae.length 7 (d.ae.map aV.cells)),(rd nA d.aq.length 3 (d.aq.map bc.cells)),(cv gw 76 (cd.cells (cd.mk (aZ.mk (ar.mk (bB.mk kA d.ag.length kC)) (bB.mk pA d.ae.length pC) (bB.mk nA d.aq.length nC) d.a2 d.a4) (bB.mk tA tN tC)))),(cv g1 71 [(vP gw)]),(lW iV gm (dq vB m)),(cv g2 121 [(Value.map (some gm))]),(cv g3 30 (aG.cells s))] ([]:List Int) (fun ys x ys'=> ∃ i:Nat,i<d.ae.length∧eA d P s i∧ys=(bZ i (eA d P s))∧x=[vI (i:Int)]∧ys'=ys++[(i:Int)]) (fun ys=>ys=jl d P s):=by
 have BZ:=hin.kS
 have BY:=hin.side
 have B1:=hin.ku
 have Bz:=hin.j7
 have By:=hin.nk
 have B0:=hin.pk
 have K:=hok.dC
 refine v9 kr Tryz.func87 U U fun l J Z A0 w0 Q hY BQ BP hQ hN=>?_
 try dsimp only
 refine WS fun _ BR=>gJ 1 [] (mr 5 U mn) U<|rS (SX (cV U U) U U)<|rP 5 [] (mr 4 U mn) ?_
 refine RK BR<|ax ?_
 have V:(0≤d.ae.length)∧(J (bZ 0 (eA d P s)) A0)∧(Fo A0 w0 A0):=by exact ⟨Nat.zero_le _,BQ,BP⟩
 refine bu (ι:={z:Nat×ah // (z.1≤d.ae.length)∧(J (bZ z.1 (eA d P s)) z.2)∧(Fo A0 w0 z.2)}) [0,1,2,3,14,15] [1,2,3,4,5,6,7,8] U U (fun z=>[(16,(vI (z.1.1:Int)))]) (fun z=>[z.1.2]) (fun _=>rfl) (fun _=>rfl) (fun z=>d.ae.length-z.1.1) ⟨(0,A0),V⟩ (a3 U) (aL [1,2,3,4,5,6,7,8,0]) ?_
 clear V
 rintro ⟨⟨i,A⟩,⟨o,E,F⟩⟩ J2 L
 try dsimp only at o E F
 try dsimp only
 refine WS fun _ BT=>rP 1 [] mn ?_
 refine RK BT<|aj fun _ BU=>bq U (aS fun h5=>?_) (aR fun h5=>?_)
 ·refine bj<|ab<|ab<|ay ?_
  refine hN _ _ _ (fZ (vs:=[]) trivial fun w hs=>Ap 8 U (by show _=_; unfold jl; rw [show i=d.ae.length by omega]) E F hs)
 refine WK BU<|aj fun _ M=>ax<|WS fun _ BV=>rP 1 [] mn ?_
 obtain ⟨p,hp⟩:=bk d.ae i I
 have BX:=bG aV.cells hp
 refine rS (IA i U (aO 1 U) m1 dc I I)<|rS (mZ i 0 (aV.cells p) U cA (aO 1 U) BX U dc U U)<|AL U uc fun b8=>aY 1 U<|gH U vk U<|RK BV<|aj fun _ BW=>WS fun _ r=>gJ 2 [] (mr 7 U mn) U<|rS (SX (oP (kV:=iV) (x:=(i:Int)) (l:=m) (f:=Value.bool) (z:=false) U U U tM (g8 mY) Bi (by exact nS 6 U)) U U)<|rP 1 [] mn ?_
 refine RK r<|cG U (fun B=>?_) (fun B=>?_)
 ·rw [Bool.not_eq_true'] at B
  refine bj<|ab<|ay<|KK M<|ai<|rP 2 [] mn ?_
  refine aB ?_
  have BF:(vI (((i+1):Nat):Int))=(vI ((i:Int)+1)):=by exact cI I
  refine aU (L ⟨((i+1),A),⟨I,by rw [fP (show ¬ eA d P s i from by first|(rintro ⟨_,p2,AB,hh⟩; rw [hp] at AB; cases AB; exact C (G.2 hh))|exact (fun q=>by have h:=(fq hm).2 q.1; rw [B] at h; cases h))]; exact E,F⟩⟩ _ _ _ rfl os (bL 6<|aN rfl BF<|cE.nil _) (aL [1,2,3,4,5,6,7,8,9]))
 rw [Bool.not_eq_false'] at B
 refine WK BW<|WS fun _ X=>aY 1 U<|rS (LP (aG.cells p.cp) 0 U cA U U U)<|gJ 1 [] (mr 8 U mn) U<|rS (BI U (yl _ _ p.cp s))<|rP 1 [] mn ?_
 refine cJ (t:=29) U (aS fun H=>?_) (aR fun H=>?_)
 ·refine rP 9 [] mn ?_
  refine RK X<|aj fun _ v=>dY dw [12,13] [] [] [0,1,2,3,4,5,6,7,8,9] [] U U U U U<|eS U (zF 5 U cA U)<|eS U (SX (cV U U) U U)<|eS U (FA 0 U fY U)<|eS U (FA 0 U fY U)<|eS U (zG (ar.cells (ar.mk (bB.mk kA d.ag.length kC))) 4 U cA U U U)<|eS U (Be 8 U cA U U)<|eS U (FA 2 U fY U)<|eS U (LP (aG.cells p.cp) 0 U cA U U U) ?_
  refine eS U (CL (nR d.ag kA kC s p.cp sd sd) (bg [1]) U) ?_
  refine eS U (MV U) ?_
  have W:=(hok.post i p hp).2.2.1
  have n:=iY htr ⟨hss,W⟩
  have j:=mz (cO htr) (dy htr) hss W
  have G:=lv (d:=d) (a:=s) (b:=p.cp) I K.1
  rw [← n.2] at j G
  refine eS U (EX U)<|eS U (EX U)<|eS U (AG U)<|fx U<|bN U fun T39 A6=>AL U eH fun Bw=>aB (A6 _ _ (aL [1,2,3,4,5,6,7,8,9,10]) ?_)
  refine bN U fun T41 A7=>gH U dA U<|aB (A7 _ _ (aL [1,2,3,4,5,6,7,8,9,10]) ?_)
  refine f_ U<|KK v<|aj fun _ y=>dY dw [6,7,13,14] [] [] [0,1,2,3,4,5,6,7,8,9,10] [] U U U U U<|eS U (MV U)<|eS U (MV U)<|eS U (FA 0 U fY U)<|eS U (L1 (vI ((dK d.ag s p.cp).Lo)) 0 U cA U U)<|eS U (FA 1 U fY U)<|eS U (L1 (vI ((dK d.ag s p.cp).Hi)) 0 U cA U U)<|eS U (zF 6 U cA U)<|eS U (SX (cV U U) U U)<|eS U (FA 0 U fY U)<|eS U (FA 6 U fY U)<|eS U (zr (vI d.a4) 5 U cA U U)<|fx U<|bN U fun T43 BB=>df (xs:=[.tmp 53,.tmp 55]) (cs:=[(vI ((dK d.ag s p.cp).Lo)),(vI ((dK d.ag s p.cp).Hi))]) U cL g0 U U U U (by simp [Value.cells]) U U fun BO=>aB (BB _ _ (aL [1,2,3,4,5,6,7,8,9,10,11]) ?_)
  refine bN U fun T45 BC=>?_
  refine rS (CL (jX ([(dK d.ag s p.cp).Lo,(dK d.ag s p.cp).Hi]) (some ⟨BO,0,none⟩) 2 (by intro x hx; simp only [bE,List.not_mem_nil,or_false] at hx; omega) sm) (av (aK 0 U U (by simp [ba]) U)<|aw) U) ?_
  refine aB (BC _ _ (aL [1,2,3,4,5,6,7,8,9,10,11]) ?_)
  refine bN U fun T46 BD=>rS (BI U ny)<|aB (BD _ _ (aL [1,2,3,4,5,6,7,8,9,10,11]) ?_)
  refine bN U fun T47 BE=>rS (PK U)<|aB (BE _ _ (aL [1,2,3,4,5,6,7,8,9,10,11]) ?_)
  refine f_ U<|KK y<|bq U (aS fun C=>?_) (aR fun C=>?_)
  ·refine cf<|aF<|KK M<|ai<|rP 2 [] mn ?_
   refine aB ?_
   have BL:(vI (((i+1):Nat):Int))=(vI ((i:Int)+1)):=by exact cI I
   refine aU (L ⟨((i+1),A),⟨I,by rw [fP (show ¬ eA d P s i from by first|(rintro ⟨_,p2,AB,hh⟩; rw [hp] at AB; cases AB; exact C (G.2 hh))|exact (fun q=>by have h:=(fq hm).2 q.1; rw [B] at h; cases h))]; exact E,F⟩⟩ _ _ _ rfl os (bL 6<|aN rfl BL<|cE.nil _) (aL [3,4,5,6,7,8,9,10,11]))
  refine WS fun _ g=>rP 2 [] mn ?_
  refine mw (k:=(bZ i (eA d P s))) (k':=((bZ i (eA d P s))++[((i:Int))])) 11 (by first|exact hsz|exact Nat.le_refl _) hY E F U U U (by exact ⟨i,I,⟨(fq hm).1 B,p,hp,(by first|exact G.1 C|exact fG H D K.1)⟩,U,U,U⟩) U U (fun B49 AA R=>?_) (fun B49 AA R=>?_)
  rotate_left 1
  ·refine rP 1 [] mn ?_
   refine RK g<|aT U<|an ?_
   refine hQ _ _ _ (fZ (vs:=[]) trivial fun w hs=>tF 11 U AA R hs)
  refine aY 1 U<|RK g<|bp U<|cf<|aF<|KK M<|ai<|rP 2 [] mn ?_
  refine aB ?_
  have BK:(vI (((i+1):Nat):Int))=(vI ((i:Int)+1)):=by exact cI I
  refine aU (L ⟨((i+1),B49),⟨I,by rw [fj (show eA d P s i from ⟨(fq hm).1 B,p,hp,(by first|exact G.1 C|exact fG H D K.1)⟩)]; exact AA,R⟩⟩ _ _ _ U os (bL 6<|aN U BK<|cE.nil _) (aL [3,4,5,6,7,8,9,10,11]))
 refine rP 9 [] (mr 8 U mn) ?_
 refine RK X<|aj fun _ u=>dY dw [12,13] [] [] [0,1,2,3,4,5,6,7,8,9] [] U U U U U<|eS U (zF 5 U cA U)<|eS U (SX (cV U U) U U)<|eS U (FA 0 U fY U)<|eS U (FA 0 U fY U)<|eS U (zG (ar.cells (ar.mk (bB.mk kA d.ag.length kC))) 4 U cA U U U)<|eS U (Be 8 U cA U U)<|eS U (FA 2 U fY U)<|eS U (LP (aG.cells p.cp) 0 U cA U U U) ?_
 refine eS U (CL (nR d.ag kA kC s p.cp sd sd) (bg [1]) U) ?_
 refine eS U (MV U) ?_
 have W:=(hok.post i p hp).2.2.1
 have n:=iY htr ⟨hss,W⟩
 have j:=mz (cO htr) (dy htr) hss W
 have G:=lv (d:=d) (a:=s) (b:=p.cp) I K.1
 rw [← n.2] at j G
 refine eS U (EX U)<|eS U (EX U)<|eS U (AG U)<|fx U<|bN U fun T14 AC=>AL U eH fun Bv=>aB (AC _ _ (aL [1,2,3,4,5,6,7,8,9,10]) ?_)
 refine bN U fun T16 AD=>gH U dA U<|aB (AD _ _ (aL [1,2,3,4,5,6,7,8,9,10]) ?_)
 refine f_ U<|KK u<|aj fun _ Y=>dY dw [6,7,13,14] [] [] [0,1,2,3,4,5,6,7,8,9,10] [] U U U U U<|eS U (MV U)<|eS U (MV U)<|vb (t:=51) U (fun D=>?_) (fun D=>?_)
 ·replace D:=DT D
  refine eS U (OX U)<|eS U (OX U)<|eS U (OX U)<|eS U (OX U)<|eS U (OX U)<|eS U (OX U)<|eS U (OX U)<|eS U (OX U)<|eS U (OX U)<|fx U<|bN U fun T18 AY=>oX<|aB (AY _ _ (aL [0,1,2,3,4,5,6,7,8,9,10]) ?_)
  refine bN U fun T19 Al=>oX<|aB (Al _ _ (aL [0,1,2,3,4,5,6,7,8,9,10]) ?_)
  refine bN U fun T20 Aw=>oX<|aB (Aw _ _ (aL [0,1,2,3,4,5,6,7,8,9,10]) ?_)
  refine bN U fun T21 A1=>rS (PK U)<|aB (A1 _ _ (aL [0,1,2,3,4,5,6,7,8,9,10]) ?_)
  refine f_ U<|KK Y<|aT U<|WS fun _ c=>rP 2 [] mn ?_
  refine mw (k:=(bZ i (eA d P s))) (k':=((bZ i (eA d P s))++[((i:Int))])) 10 (by first|exact hsz|exact Nat.le_refl _) hY E F U U U (by exact ⟨i,I,⟨(fq hm).1 B,p,hp,(by first|exact G.1 C|exact fG H D K.1)⟩,U,U,U⟩) U U (fun B23 S N=>?_) (fun B23 S N=>?_)
  rotate_left 1
  ·refine rP 1 [] mn ?_
   refine RK c<|aT U<|an ?_
   refine hQ _ _ _ (fZ (vs:=[]) trivial fun w hs=>tF 10 U S N hs)
  refine aY 1 U<|RK c<|bp U<|cf<|aF<|KK M<|ai<|rP 2 [] mn ?_
  refine aB ?_
  have BG:(vI (((i+1):Nat):Int))=(vI ((i:Int)+1)):=by exact cI I
  refine aU (L ⟨((i+1),B23),⟨I,by rw [fj (show eA d P s i from ⟨(fq hm).1 B,p,hp,(by first|exact G.1 C|exact fG H D K.1)⟩)]; exact S,N⟩⟩ _ _ _ U os (bL 6<|aN U BG<|cE.nil _) (aL [2,3,4,5,6,7,8,9,10]))
 replace D:=DF D
 refine eS U (FA 0 U fY U)<|eS U (L1 (vI ((dK d.ag s p.cp).Lo)) 0 U cA U U)<|eS U (FA 1 U fY U)<|eS U (L1 (vI ((dK d.ag s p.cp).Hi)) 0 U cA U U)<|eS U (zF 6 U cA U)<|eS U (SX (cV U U) U U)<|eS U (FA 0 U fY U)<|eS U (FA 6 U fY U)<|eS U (zr (vI d.a4) 5 U cA U U)<|fx U<|bN U fun T27 A2=>df (xs:=[.tmp 53,.tmp 55]) (cs:=[(vI ((dK d.ag s p.cp).Lo)),(vI ((dK d.ag s p.cp).Hi))]) U cL g0 U U U U (by simp [Value.cells]) U U fun BN=>aB (A2 _ _ (aL [1,2,3,4,5,6,7,8,9,10,11]) ?_)
 refine bN U fun T29 A3=>?_
 refine rS (CL (jX ([(dK d.ag s p.cp).Lo,(dK d.ag s p.cp).Hi]) (some ⟨BN,0,none⟩) 2 (by intro x hx; simp only [bE,List.not_mem_nil,or_false] at hx; omega) sm) (av (aK 0 U U (by simp [ba]) U)<|aw) U) ?_
 refine aB (A3 _ _ (aL [1,2,3,4,5,6,7,8,9,10,11]) ?_)
 refine bN U fun T30 A4=>rS (BI U ny)<|aB (A4 _ _ (aL [1,2,3,4,5,6,7,8,9,10,11]) ?_)
 refine bN U fun T31 A5=>rS (PK U)<|aB (A5 _ _ (aL [1,2,3,4,5,6,7,8,9,10,11]) ?_)
 refine f_ U<|KK Y<|bq U (aS fun C=>?_) (aR fun C=>?_)
 ·refine cf<|aF<|KK M<|ai<|rP 2 [] mn ?_
  refine aB ?_
  have BJ:(vI (((i+1):Nat):Int))=(vI ((i:Int)+1)):=by exact cI I
  refine aU (L ⟨((i+1),A),⟨I,by rw [fP (show ¬ eA d P s i from by first|(rintro ⟨_,p2,AB,hh⟩; rw [hp] at AB; cases AB; exact C (G.2 hh))|exact (fun q=>by have h:=(fq hm).2 q.1; rw [B] at h; cases h))]; exact E,F⟩⟩ _ _ _ rfl os (bL 6<|aN rfl BJ<|cE.nil _) (aL [3,4,5,6,7,8,9,10,11]))
 refine WS fun _ e=>rP 2 [] mn ?_
 refine mw (k:=(bZ i (eA d P s))) (k':=((bZ i (eA d P s))++[((i:Int))])) 11 (by first|exact hsz|exact Nat.le_refl _) hY E F U U U (by exact ⟨i,I,⟨(fq hm).1 B,p,hp,(by first|exact G.1 C|exact fG H D K.1)⟩,U,U,U⟩) U U (fun B33 T O=>?_) (fun B33 T O=>?_)
 rotate_left 1
 ·refine rP 1 [] mn ?_
  refine RK e<|aT U<|an ?_
  refine hQ _ _ _ (fZ (vs:=[]) trivial fun w hs=>tF 11 U T O hs)
 refine aY 1 U<|RK e<|bp U<|cf<|aF<|KK M<|ai<|rP 2 [] mn ?_
 refine aB ?_
 have BH:(vI (((i+1):Nat):Int))=(vI ((i:Int)+1)):=by exact cI I
 refine aU (L ⟨((i+1),B33),⟨I,by rw [fj (show eA d P s i from ⟨(fq hm).1 B,p,hp,(by first|exact G.1 C|exact fG H D K.1)⟩)]; exact T,O⟩⟩ _ _ _ U os (bL 6<|aN U BH<|cE.nil _) (aL [3,4,5,6,7,8,9,10,11]))
theorem sH (gw gm:Nat) (s:aG):
 jK Tryz.prog 64 [(vP gw),(vA (aG.cells s)),(Value.map (some gm))] [] (fun (x:Nat×Nat×Nat)=>(Value.func (.func 87) [].toArray [(Value.pointer (some ⟨x.1,0,none⟩)),(Value.pointer (some ⟨x.2.1,0,none⟩)),(Value.pointer (some ⟨x.2.2,0,none⟩))].toArray)) (fun (x:Nat×Nat×Nat)=>True) (fun (x:Nat×Nat×Nat)=>[(cv x.1 71 [(vP gw)]),(cv x.2.1 121 [(Value.map (some gm))]),(cv x.2.2 30 (aG.cells s))]):=by
 refine dh kr Tryz.func64 U U fun F Q hQ hN=>?_
 try dsimp only
 refine WS fun _ A=>sU U U fun C=>fN U fun D=>sU U U fun E=>aY 1 U<|RK A<|WS fun _ B=>rS (FU U)<|rP 1 [] mn ?_
 refine RK B<|an<|LX hQ (C,E,D) [2,0,1] [] mn U U U U ?_
 trivial
end
section
open Go.RowKit
theorem n7 (x:Int):
 dx Tryz.prog 106 [(vI x)] [] (vB false):=by
 refine bD kr Tryz.func106 U U fun C Q hQ hN=>?_
 try dsimp only
 refine WS fun _ A=>aY 1 U<|RK A<|WS fun _ B=>rP 4 [] mn ?_
 refine RK B<|an<|Q1 hQ U U U ?_
 simp
theorem uY (x y:Int):
 dx Tryz.prog 101 [(vI x),(vI y)] [] (vB (decide (x<y))):=by
 refine bD kr Tryz.func101 U U fun C Q hQ hN=>?_
 try dsimp only
 refine WS fun _ A=>aY 1 U<|RK A<|WS fun _ B=>aY 1 U<|rS (CL (n7 x) (aw) U)<|rP 11 [] mn ?_
 refine RK B<|an<|Q1 hQ U U U ?_
 exact cB (dO.2 I)
theorem sb (l:List Int) (lA:OA) (lC:Nat) (hlen:l.length≤1000000):
 uT Tryz.prog 95 [(vS lA l.length lC),(vI 0),(vI (l.length:Int))] [] (own lA lC 3 1 (l.map iC)) (fun (x:(List Int))=>(vT [])) (fun (x:(List Int))=>x.Perm l∧x.Pairwise (· ≤ ·)) (fun (x:(List Int))=>(own lA lC 3 1 (x.map iC))):=by
 refine k8 kr Tryz.func95 U U fun g Q hQ hN=>?_
 try dsimp only
 refine WS fun _ X=>aY 1 U<|rS (SX (ck (r:= .int .i64 1) U U U (jJ ⟨dc,dc⟩)) U U)<|rP 1 [] mn ?_
 refine RK X<|ax ?_
 have A:(1≤1∧(1≤l.length∨1=1))∧(l.length=l.length)∧(l.Perm l)∧(xM l 1):=by exact ⟨I,rfl,List.Perm.refl _,vO⟩
 refine bu (ι:={z:Nat×(List Int) // (1≤z.1∧(z.1≤l.length∨z.1=1))∧(z.2.length=l.length)∧(z.2.Perm l)∧(xM z.2 z.1)}) [0,1,2] [] U U (fun z=>[(6,(vI (z.1.1:Int)))]) (fun z=>[(own lA lC 3 1 (z.1.2.map iC))]) (fun _=>rfl) (fun _=>rfl) (fun z=>l.length-z.1.1) ⟨(1,l),A⟩ (a3 U) (aL [0]) ?_
 clear A
 rintro ⟨⟨i,m⟩,⟨K,AB,E,F⟩⟩ J2 M
 try dsimp only at K AB E F
 try dsimp only
 refine aj fun _ Y=>WS fun _ Z=>rP 3 [] mn ?_
 refine RK Z<|bq U (aS fun e=>?_) (aR fun e=>?_)
 ·refine bj<|ab<|ab<|ay<|LM hN m 0 [] mn U U U U ?_
  exact ⟨E,vn F I⟩
 refine WK Y<|aj fun _ O=>ax<|WS fun _ b=>rP 2 [] mn ?_
 refine RK b<|ax ?_
 have A:(i≤i)∧(m.length=l.length)∧(m.Perm l)∧(w5 m i i):=by exact ⟨Nat.le_refl _,AB,E,sn F I⟩
 refine bu (ι:={z:Nat×(List Int) // (z.1≤i)∧(z.2.length=l.length)∧(z.2.Perm l)∧(w5 z.2 i z.1)}) [0,1,2,6] [] U U (fun z=>[(7,(vI (z.1.1:Int)))]) (fun z=>[(own lA lC 3 1 (z.1.2.map iC))]) (fun _=>rfl) (fun _=>rfl) (fun z=>z.1.1) ⟨(i,m),A⟩ (a3 U) (aL [0]) ?_
 clear A
 rintro ⟨⟨j,q⟩,⟨G,B,C,D⟩⟩ J8 W
 try dsimp only at G B C D
 try dsimp only
 refine aj fun _ c=>aj fun _ J=>eD dw 15 kr<|dP 4 [] mn ?_
 refine lR (t:=19) U (aS fun hj=>?_) (aR fun hj=>?_)
 ·refine gf 11 U<|cR<|RK J<|bp U<|bj<|ab<|ab<|ay<|aF<|KK O<|ai<|rP 3 [] mn ?_
  refine aB ?_
  refine aU (M ⟨((i+1),q),⟨I,B,C,by exact ux I D⟩⟩ _ _ _ U (by simp only []; omega) (a3 U) (aL [0]))
 refine dP 2 [] mn ?_
 obtain ⟨x,hx⟩:=bk q j I
 have L:=bG iC hx
 refine dS (IA j U (au (n:=l.length) 0 U sq) cL dc I I) ?_
 refine dS (g5 j 0 (vI x) U cA (au (n:=q.length) 0 U sm) L U dc U)<|dP 3 [] mn ?_
 obtain ⟨y,hy⟩:=bk q (j-1) I
 have V:=bG iC hy
 refine dS (IA (j-1) U (au (n:=l.length) 0 U sq) cL dc I I) ?_
 refine dS (g5 (j-1) 0 (vI y) U cA (au (n:=q.length) 0 U sm) V U dc U)<|dS (CL (uY x y) (aw) U)<|dP 1 [] mn ?_
 refine cR<|RK J<|bq U (aS fun H=>?_) (aR fun H=>?_)
 ·refine bj<|ab<|ab<|ay<|aF<|KK O<|ai<|rP 3 [] mn ?_
  refine aB ?_
  refine aU (M ⟨((i+1),q),⟨I,B,C,by exact tg hx hy I G H D⟩⟩ _ _ _ U (by simp only []; omega) (a3 U) (aL [0]))
 refine WK c<|aj fun _ N=>ax<|dY dw [15,16,17] [8,9,12,13,14] [] [] [0] U U U U U<|eS U (MV U)<|eS U (MV U)<|eS U (MV U)<|eS U (MV U)<|eS U (BI U (rl ⟨I,I⟩))<|eS U (MV U)<|eS U (MV U)<|eS U (BI U (rl ⟨I,I⟩)) ?_
 refine fS U (IA (j-1) U (au (n:=l.length) 0 U sq) cL dc I I) ?_
 refine fS U (g5 (j-1) 0 (vI y) U cA (au (n:=q.length) 0 U sm) V U dc U)<|eS U (MV U)<|eS U (MV U) ?_
 refine fS U (IA j U (au (n:=l.length) 0 U sq) cL dc I I) ?_
 refine fS U (g5 j 0 (vI x) U cA (au (n:=q.length) 0 U sm) L U dc U) ?_
 refine fS U (IA j U (au (n:=l.length) 0 U sq) cL dc I I) ?_
 refine fx U<|bN U fun T12 P=>cw (k:=j) (o:=0) (vs:=[(vI y)]) (es':=(List.map iC (q.set j y))) (C':=[(own lA lC 3 1 (List.map iC (q.set j y)))]) 0 U U U qk U U U U L U dc (by exact (List.map_set (f:=iC) (l:=q) (i:=j) (a:=y)).symm) U<|aB (P _ _ (aL []) ?_)
 refine bN U fun T13 R=>?_
 obtain ⟨d,AA⟩:=bk (q.set j y) (j-1) os
 have hx15m:(List.map iC (q.set j y))[(j-1)]? =some (iC d):=by rw [eP,AA]; rfl
 refine rS (IA (j-1) U (au (n:=l.length) 0 U sq) cL dc I I) ?_
 refine aB (R _ _ (aL []) ?_)
 refine bN U fun T16 S=>cw (k:=(j-1)) (o:=0) (vs:=[(vI x)]) (es':=(List.map iC ((q.set j y).set (j-1) x))) (C':=[(own lA lC 3 1 (List.map iC ((q.set j y).set (j-1) x)))]) 0 U U U qk U U U U hx15m U dc (by exact (List.map_set (f:=iC) (l:=(q.set j y)) (i:=(j-1)) (a:=x)).symm) U<|aB (S _ _ (aL []) ?_)
 refine f_ U<|aF<|KK N<|ai<|rP 3 [] mn ?_
 refine aB ?_
 have T:(vI (((j-1):Nat):Int))=(vI ((j:Int)-1)):=by exact cI I
 refine aU (W ⟨((j-1),((q.set j y).set (j-1) x)),⟨I,by simp; exact B,(sS hx hy).trans C,ug hx hy I G H D⟩⟩ _ _ _ U (by simp only []; omega) (bL 4<|aN U T<|cE.nil _) (aL [0]))
theorem vU (x:Int) (hx:0≤x∧x≤100):
 jK Tryz.prog 105 [(Value.int .u64 x)] [] (fun (x:Int)=>(vI x)) (fun (x:Int)=>True) (fun (x:Int)=>[]):=by
 refine dh kr Tryz.func105 U U fun N Q hQ hN=>?_
 try dsimp only
 refine WS fun _ D=>aY 1 U<|RK D<|aj fun _ E=>WS fun _ F=>rP 1 [] mn ?_
 refine rS (BI U qM)<|RK F<|cG U (aR fun L=>?_) (aS fun L=>?_)
 ·exfalso; omega
 refine WK E<|aj fun _ G=>WS fun _ H=>rP 1 [] mn ?_
 refine rS (BI U qM)<|RK H<|cG U (aR fun M=>?_) (aS fun M=>?_)
 ·exfalso; omega
 refine WK G<|aj fun _ AA=>WS fun _ J=>rP 1 [] mn ?_
 refine rS (BI U qM)<|RK J<|cG U (aR fun C=>?_) (aS fun C=>?_)
 ·exfalso; omega
 refine WK AA<|WS fun _ B=>aY 2 U<|rS (SX (eJ (m:=x) U U zh sK (pf (by first|assumption|omega))) U U)<|x7 (k:=(x).toNat) U U U Bj I (Nat.lt_of_lt_of_le (m:=200) I (of_decide_eq_true kr)) U fun A K=>rS (SX (eJ (m:=A) U U sK mY (dr (by first|assumption|omega))) U U)<|rP 2 [] mn ?_
 refine RK B<|an<|LX hQ (0+A) [] [] mn U U U U ?_
 trivial
theorem xY (x:Int) (hx:0≤x∧x≤100):
 jK Tryz.prog 89 [(Value.int .u64 x)] [] (fun (x:Int)=>(vI x)) (fun (x:Int)=>True) (fun (x:Int)=>[]):=by
 refine dh kr Tryz.func89 U U fun F Q hQ hN=>?_
 try dsimp only
 refine WS fun _ A=>aY 1 U<|RK A<|aj fun _ B=>bp U<|WK B<|WS fun _ C=>rP 1 [] mn ?_
 refine cX (vU x hx) (aw) U fun E D=>?_
 try dsimp only
 refine rP 1 [] mn ?_
 refine RK C<|an<|LX hQ E [] [] mn U U U U ?_
 trivial
theorem zk (l:List Int) (lA:OA) (lC:Nat) (u:Int) (hlen:l.length≤12):
 uT Tryz.prog 88 [(vS lA l.length lC),(vI 0),(vI (l.length:Int)),(vI u)] [] (own lA lC 3 1 (l.map iC)) (fun (x:(List Int))=>(vT [])) (fun (x:(List Int))=>x.Perm l∧x.Pairwise (· ≤ ·)) (fun (x:(List Int))=>(own lA lC 3 1 (x.map iC))):=by
 refine k8 kr Tryz.func88 U U fun K Q hQ hN=>?_
 try dsimp only
 refine WS fun _ A=>aY 1 U<|RK A<|WS fun _ B=>aY 1 U<|RK B<|ax<|mR 1<|ib fun R3 AA=>ax<|WS fun _ C=>aY 4 U<|RK C<|aj fun _ H=>WS fun _ D=>rP 2 [] mn ?_
 refine RK D<|bq U (aS fun G=>?_) (aR fun G=>?_)
 ·exfalso; omega
 refine WS fun _ E=>rP 3 [] mn ?_
 refine ia 0 U U U U (sb l lA lC I) U jS U (fun J F=>?_)
 try dsimp only
 refine RK E<|an<|LM hQ J 0 [] mn U U U U ?_
 assumption
theorem xO (l:List Int) (lA:OA) (lC:Nat) (hlen:l.length≤12):
 uT Tryz.prog 65 [(vS lA l.length lC)] [] (own lA lC 3 1 (l.map iC)) (fun (x:(List Int))=>(vT [])) (fun (x:(List Int))=>x.Perm l∧x.Pairwise (· ≤ ·)) (fun (x:(List Int))=>(own lA lC 3 1 (x.map iC))):=by
 refine k8 kr Tryz.func65 U U fun F Q hQ hN=>?_
 try dsimp only
 refine WS fun _ A=>aY 3 U<|RK A<|ai<|rP 3 [] mn ?_
 refine rS (SX (eJ (m:=(l.length:Int)) U U mY yW (nZ (by first|assumption|omega))) U U)<|cX (xY (l.length:Int) I) (aw) U fun E B=>?_
 try dsimp only
 refine ia 0 U U U U (zk l lA lC E hlen) U jS U (fun D C=>?_)
 try dsimp only
 refine aB<|LM hN D 0 [] mn U U U U ?_
 assumption
end
section
open Go.RowKit
theorem k9 (d:ak) (kA:OA) (kC:Nat) (pA:OA) (pC:Nat) (nA:OA) (nC:Nat) (tA:OA) (tN tC:Nat) (gw s:Nat) (hin:cK d) (htr:a_ d.ag=true) (hok:dQ d) (hsb:s<256):
 jK Tryz.prog 35 [(vP gw),(vI (s:Int))] [(rd kA d.ag.length 9 (d.ag.map aa.cells)),(rd pA d.ae.length 7 (d.ae.map aV.cells)),(rd nA d.aq.length 3 (d.aq.map bc.cells)),(cv gw 76 (cd.cells (cd.mk (aZ.mk (ar.mk (bB.mk kA d.ag.length kC)) (bB.mk pA d.ae.length pC) (bB.mk nA d.aq.length nC) d.a2 d.a4) (bB.mk tA tN tC))))] (fun (x:(OA)×Nat)=>(vS x.1 ((dI d (bH s)).length) x.2)) (fun (x:(OA)×Nat)=>True) (fun (x:(OA)×Nat)=>[(own x.1 x.2 3 1 ((dI d (bH s)).map iC))]):=by
 have CC:=hin.kS
 have B4:=hin.side
 have CS:=hin.ku
 have CP:=hin.j7
 have CO:=hin.nk
 have CR:=hin.pk
 have CN:=hok.len
 refine dh kr Tryz.func35 U U fun w0 Q hQ hN=>?_
 try dsimp only
 refine WS fun _ Bs=>rP 1 [] mn ?_
 refine RK Bs<|WS fun _ Bu=>o5 (kV:=iV) U U fun M=>?_
 try dsimp only
 refine aY 1 U<|RK Bu<|aj fun _ Bv=>WS fun _ Bw=>aY 1 U<|rS (SX (cV U U) U U)<|rP 5 [] (mr 4 U mn) ?_
 refine RK Bw<|ax ?_
 have C:(0≤d.ae.length)∧(eo ([]:BM) (fun k=>bH s k∧k<0)):=by exact ⟨Nat.zero_le _,j9 vx fun k=>⟨False.elim,fun q=>absurd q.2 (Nat.not_lt_zero _)⟩⟩
 refine bu (ι:={z:Nat×BM // (z.1≤d.ae.length)∧(eo z.2 (fun k=>bH s k∧k<z.1))}) [0,1,5,18,19] [1,2,3,4] U U (fun z=>[(20,(vI (z.1.1:Int)))]) (fun z=>[(lW iV M (dq vB z.1.2))]) (fun _=>rfl) (fun _=>rfl) (fun z=>d.ae.length-z.1.1) ⟨(0,([]:BM)),C⟩ (a3 U) (aL [1,2,3,4,0]) ?_
 clear C
 rintro ⟨⟨i,m⟩,⟨b,D⟩⟩ J6 t
 try dsimp only at b D
 try dsimp only
 refine WS fun _ Bx=>rP 1 [] mn ?_
 refine RK Bx<|aj fun _ By=>cG U (aR fun h9=>?_) (aS fun h9=>?_)
 ·refine WK By<|aj fun _ R=>ax<|WS fun _ u=>aY 2 U<|RK u<|WS fun _ v=>aY 2 U<|rS (BI U (pP (i:=i) I I))<|rS (BI U (qh (m:=(s/2^i)) I (Nat.lt_of_le_of_lt (Nat.div_le_self _ _) I)))<|rP 1 [] mn ?_
  refine RK v<|bq U (aS fun J=>?_) (aR fun J=>?_)
  ·refine cf<|aF<|KK R<|ai<|rP 2 [] mn ?_
   refine aB ?_
   have BJ:(vI (((i+1):Nat):Int))=(vI ((i:Int)+1)):=by exact cI I
   refine aU (t ⟨((i+1),m),⟨I,by first|exact oZ D (gk.1 J)|exact rn D (fun q=>J (gk.2 q))⟩⟩ _ _ _ U os (bL 5<|aN U BJ<|cE.nil _) (aL [0,1,2,3,4]))
  refine ai<|aY 2 U<|nh (kV:=iV) (x:=(i:Int)) (C':=[_,_,_,_,(lW iV M (dq vB (fu m (i:Int) true)))]) 4 U U U U tM (g8 mY) U (mQ _ _ _ _).symm U<|aB<|aF<|KK R<|ai<|rP 2 [] mn ?_
  refine aB ?_
  have BH:(vI (((i+1):Nat):Int))=(vI ((i:Int)+1)):=by exact cI I
  refine aU (t ⟨((i+1),(fu m (i:Int) true)),⟨I,by first|exact oZ D (gk.1 J)|exact rn D (fun q=>J (gk.2 q))⟩⟩ _ _ _ U os (bL 5<|aN U BH<|cE.nil _) (aL [0,1,2,3,4]))
 refine bj<|ab<|ab<|ay<|KK Bv<|WS fun _ AC=>aY 1 U<|RK AC<|aj fun _ AD=>WS fun _ AY=>aY 1 U<|rS (SX (cV U U) U U)<|aY 2 U<|rS (zG (aG.cells d.a2) 3 U cA U U U)<|df (xs:=[.tmp 35]) (cs:=(aG.cells d.a2)) U mT t_ U U U U (by simp [Value.cells,aG.aP]) U U fun Y=>rP 1 [] mn ?_
 refine RK AY<|ax ?_
 refine rR (es:=(List.map aG.cells [d.a2])) (C':=[(own (some ⟨Y,0,none⟩) 1 30 3 (List.map aG.cells [d.a2])),_,_,_,_,_]) 0 U (lY aG.aP _) U (by show 1≤maxLen; decide) U ?_
 refine yS (C':=[(oq (some ⟨Y,0,none⟩) 1 30 3 (List.map aG.cells [d.a2])),_,_,_,_,_]) 0 U yK U<|ep 3 1<|sV ?_
 have C:(eo m (fun k=>bH s k∧k<i))∧(lj d (bH s) (fun k=>bH s k∧k<i) ([d.a2]) ([]:List Int))∧(m.length+([d.a2]).length≤100):=by exact ⟨D,p_ fun k=>⟨fun q=>⟨q.1,I⟩,fun q=>⟨q.1,I⟩⟩,by have:=vL D (n:=d.ae.length) (fun k q=>by omega); simp; omega⟩
 refine vX (ι:={z:BM×(Nat→Prop)×(List Int)×(OA)×Nat×(List aG)×(OA)×Nat×(List Nat) // (eo z.1 z.2.1)∧(lj d (bH s) z.2.1 z.2.2.2.2.2.1 z.2.2.1)∧(z.1.length+z.2.2.2.2.2.1.length≤100)}) (fun z=>z.1.2.2.2.2.2.2.2.2.map gd) (fun z=>[(0,(vP gw)),(1,(vI (s:Int))),(5,(Value.map (some M))),(7,(vS z.1.2.2.2.1 z.1.2.2.1.length z.1.2.2.2.2.1)),(8,(vS z.1.2.2.2.2.2.2.1 z.1.2.2.2.2.2.1.length z.1.2.2.2.2.2.2.2.1))]) (fun z=>[(eg (z.1.2.2.2.2.2.2.2.2.map jC)),(own z.1.2.2.2.1 z.1.2.2.2.2.1 3 1 (z.1.2.2.1.map iC)),(oq z.1.2.2.2.2.2.2.1 z.1.2.2.2.2.2.2.2.1 30 3 (z.1.2.2.2.2.2.1.map aG.cells)),(rd kA d.ag.length 9 (d.ag.map aa.cells)).ro,(rd pA d.ae.length 7 (d.ae.map aV.cells)).ro,(rd nA d.aq.length 3 (d.aq.map bc.cells)).ro,(cv gw 76 (cd.cells (cd.mk (aZ.mk (ar.mk (bB.mk kA d.ag.length kC)) (bB.mk pA d.ae.length pC) (bB.mk nA d.aq.length nC) d.a2 d.a4) (bB.mk tA tN tC)))).ro,(lW iV M (dq vB z.1.1))]) (fun z=>z.1.1.length+z.1.2.2.2.2.2.1.length) ⟨(m,(fun k=>bH s k∧k<i),([]:List Int),none,0,[d.a2],(some ⟨Y,0,none⟩),1,([]:List Nat)),C⟩ U (a3 U) (aL [0,1,2,3,4,5,6,7]) ?_
 clear C
 rintro ⟨⟨m,L,l,a,c,tdq,qa,qc,N⟩,⟨H,B,AB⟩⟩ J19 o
 try dsimp only at H B AB
 try dsimp only
 refine aj fun _ Al=>WS fun _ Aw=>rP 3 [] mn ?_
 refine RK Aw<|bq U (aS fun T=>?_) (aR fun T=>?_)
 ·refine bj<|ab<|ab<|ay<|KK AD<|WS fun _ BF=>rP 1 [] mn ?_
  refine ia 1 U U U U (xO l a c (by have:=pd B; omega)) U jS U (fun srtd e=>?_)
  try dsimp only
  refine RK BF<|WS fun _ BG=>rP 1 [] mn ?_
  have BN:srtd=(dI d (bH s)):=sc (by rw [show tdq=[] from e8 I] at B; exact B) e.1 e.2
  rw [BN]
  refine rP 1 [] mn ?_
  refine RK BG<|an<|hQ _ _ _ (tf 0 U U<|fZ (vs:=[(vS a l.length c)]) ⟨U,trivial⟩ fun w hs=>yp (a,c) [0] ?_ ?_ U U U hs)
  ·(rw [show (dI d (bH s)).length=l.length from by rw [← BN]; exact e.1.length_eq]; rfl)
  ·trivial
 refine WK Al<|aj fun _ A0=>ax<|aj fun _ A1=>?_
 obtain ⟨E,rest,rfl⟩: ∃ E rest,tdq=E::rest:=by cases tdq with |nil=>(simp at T)|cons x y=>exact ⟨x,y,rfl⟩
 have B5:=uf hok B (ew ..)
 refine ai<|AL U yf fun f=>RK A1<|aj fun _ A2=>WS fun _ A3=>rP 2 [] mn ?_
 have hs0m:((E::rest).map aG.cells)[0]? =some (aG.cells E):=rfl
 refine rS (IA 0 U (po (n:=(E::rest).length) 3 U sm) mT dc U I)<|rS (mZ 0 0 (aG.cells E) U cA (po (n:=(E::rest).length) 3 U sm) hs0m U dc U U)<|rP 1 [] mn ?_
 refine cX (sH gw M E) (aw) U fun CA CD=>?_
 obtain ⟨AA,V,W⟩:=CA
 try dsimp only
 refine RK A3<|ax<|l2 7 U (by exact fun _ h=>h)<|l2 9 U (by exact fun _ h=>h)<|l2 11 U (by exact fun _ h=>h)<|l2 13 U (by exact fun _ h=>h)<|ep 3 1 ?_
 refine tG (L0:=[(0,(vP gw)),(1,(vI (s:Int))),(5,(Value.map (some M))),(7,(vS a l.length c)),(8,(vS qa ((E::rest).length) qc)),(9,(vP f))]) (F:=[(rd kA d.ag.length 9 (d.ag.map aa.cells)).ro,(rd pA d.ae.length 7 (d.ae.map aV.cells)).ro,(rd nA d.aq.length 3 (d.aq.map bc.cells)).ro,(cv gw 76 (cd.cells (cd.mk (aZ.mk (ar.mk (bB.mk kA d.ag.length kC)) (bB.mk pA d.ae.length pC) (bB.mk nA d.aq.length nC) d.a2 d.a4) (bB.mk tA tN tC)))).ro,(cv AA 71 [(vP gw)]),(lW iV M (dq vB m)),(cv V 121 [(Value.map (some M))]),(cv W 30 (aG.cells E))]) (fun k (y:(OA)×Nat)=>True) (fun k y=>[(own y.1 y.2 3 1 (k.map iC)),(cv f 43 [(vS y.1 k.length y.2)]),(eg (N.map jC)),(own a c 3 1 (l.map iC)),(oq qa qc 30 3 ((E::rest).map aG.cells)),(rd kA d.ag.length 9 (d.ag.map aa.cells)).ro,(rd pA d.ae.length 7 (d.ae.map aV.cells)).ro,(rd nA d.aq.length 3 (d.aq.map bc.cells)).ro,(cv gw 76 (cd.cells (cd.mk (aZ.mk (ar.mk (bB.mk kA d.ag.length kC)) (bB.mk pA d.ae.length pC) (bB.mk nA d.aq.length nC) d.a2 d.a4) (bB.mk tA tN tC)))).ro]) (fun _ (_:Unit)=>False) (fun _ _=>[]) [0,8,9,10,11,12,13,14,15] [4,3,2,1,5,16,6,7] (none,0) rfl rfl (vz d kA kC pA pC nA nC tA tN tC gw m L M E AA V W (by first|assumption|omega|(simp; done)) (by first|assumption|omega|(simp; done)) (by first|assumption|omega|(simp; done)) (by exact B5) (by exact H)) rfl rfl rfl (by first|trivial|simp) (by simp only [List.forall_mem_cons,List.not_mem_nil,false_imp_iff,implies_true,and_true]; exact ⟨⟨_,sm,(e_ (cD _))⟩,⟨_,sm,(e_ (cD _))⟩,⟨_,sm,(e_ (cD _))⟩,⟨_,sm,(e_ (cD _))⟩,⟨_,sm,(cD _)⟩,⟨_,sm,(cD _)⟩,⟨_,sm,(cD _)⟩,⟨_,sm,(cD _)⟩⟩) (by rintro k x k2 ⟨i,_,_,_,rfl,_⟩; rfl) rfl (a3 rfl) ?_ ?_ (fun _ _ _ h=>h.elim) (fun _ _ h=>h.elim)
 ·rintro k x k2 ⟨a1,c1⟩ l ra rb S w1 K32 Qr33 CV hx B0 A4 Z B_ CB
  obtain ⟨i,hi,CT,BP,rfl,rfl⟩:=hx
  try dsimp only
  refine ai<|rP 1 [] mn ?_
  refine aB<|aU (A4 _ _ ?_)
  refine ax<|ai<|rP 2 [] (mc 2 U mn) ?_
  refine df (xs:=[.tmp 50]) (cs:=[(vI (i:Int))]) U cL g0 U U U U (by simp [Value.cells]) U U fun CF=>?_
  refine dF (es2:=(List.map iC (k++[(i:Int)]))) (m':=(k++[(i:Int)]).length) 2 U U U mA U U sm (aK (es:=List.map iC [(i:Int)]) 0 U U (by simp [ba]) U) (gW _) (by rw [BP]; have:=dD (n:=i) (p:=eA d L E); omega) (by rw [BP]; have:=dD (n:=i) (p:=eA d L E); simp only [maxLen]; omega) sm sm U fun BQ BU=>?_
  try dsimp only
  refine Bl U Au U U<|aB<|aF ?_
  exact Z (BQ,BU) _ _ (by trivial) (aL [1,2,3,4,5,6,7,8,9,10])
 rintro B9 k ⟨a1,c1⟩ K B1
 try dsimp only
 refine aF<|KK A2<|aj fun _ A5=>WS fun _ A6=>?_
 have B2:=dD (n:=d.ae.length) (p:=eA d L E)
 rw [show bZ d.ae.length (eA d L E)=k from K.symm] at B2
 have CM:=pd B
 refine rP 3 [] (mc 10 U mn) ?_
 refine RK A6<|ax ?_
 rw [show E::rest=E::(rest++(k.take 0).map (er d)) from by simp]
 have C:(0≤k.length)∧(eo m (fun i=>L i∧(i:Int) ∉ k.take 0))∧(m.length+0=m.length):=by exact ⟨Nat.zero_le _,j9 H fun q=>by simp,rfl⟩
 have BK:(vS qa ((E::(rest++(k.take 0).map (er d))).length) qc)=(vS qa ((E::(rest++(k.take 0).map (er d))).length) qc):=by simp
 refine bu (ι:={z:Nat×BM×(OA)×Nat // (z.1≤k.length)∧(eo z.2.1 (fun i=>L i∧(i:Int) ∉ k.take z.1))∧(z.2.1.length+z.1=m.length)}) [0,1,5,7,9,53,54] [0,1,2,3,4,9,10,11,12,14,15,16,17] U U (fun z=>[(8,(vS z.1.2.2.1 ((E::(rest++(k.take z.1.1).map (er d))).length) z.1.2.2.2)),(55,(vI (z.1.1:Int)))]) (fun z=>[(lW iV M (dq vB z.1.2.1)),(oq z.1.2.2.1 z.1.2.2.2 30 3 (List.map aG.cells (E::(rest++(k.take z.1.1).map (er d)))))]) (fun _=>rfl) (fun _=>rfl) (fun z=>k.length-z.1.1) ⟨(0,m,qa,qc),C⟩ (aN U BK<|a3 U) (aL [0,1,2,3,4,9,10,11,12,14,15,16,17,6,13]) ?_
 clear C
 rintro ⟨⟨j,m2,q2,g⟩,⟨O,G,P⟩⟩ J43 r
 try dsimp only at O G P
 try dsimp only
 refine WS fun _ A7=>rP 1 [] mn ?_
 refine RK A7<|aj fun _ BB=>bq U (aS fun BZ=>?_) (aR fun BZ=>?_)
 ·refine bj<|ab<|ab<|ay<|KK A5<|ai<|rP 2 [] (mc 6 U mn) ?_
  refine dF (es2:=(List.map iC (l++k))) (m':=(l++k).length) 8 U U U mA U U sm (au (n:=k.length) 5 U sm) (gW _) I (by simp only [maxLen]; omega) sm sm U fun BT BW=>?_
  try dsimp only
  refine aY 1 U<|aB<|aF<|KK A0<|ai<|aY 1 U<|rS (Bg 1 U mT U sm)<|rP 1 [] mn ?_
  refine aB<|xG (X:=N.map jC) 7 0 U U ?_
  try dsimp only
  refine wK (A:=oq q2 g 30 3 (aG.cells E::List.map aG.cells (rest++(k.take j).map (er d)))) (C':=[_,_,_,_,_,_,_,_,_,_,_,_,_,(oq (jE q2 g 1 3) (g-1) 30 3 (List.map aG.cells (rest++(k.take j).map (er d))))]) 13 U vr U ?_
  refine aU (o ⟨(m2,(fun i=>L i∧(i:Int) ∉ k.take j),(l++k),BT,BW,(rest++(k.take j).map (er d)),(jE q2 g 1 3),(g-1),(B9::N)),⟨G,by rw [show k.take j=k from List.take_of_length_le I]; rw [show k=jl d L E from K]; exact sg B (fun q=>Iff.rfl),by have h1:=AB; simp only [List.length_cons,List.length_append,List.length_map,List.length_take] at h1 ⊢; omega⟩⟩ _ _ _ U (by simp only [List.length_cons,List.length_append,List.length_map,List.length_take]; omega) (a3 U) (aL [0,7,13,1,2,3,4,12]))
 refine WK BB<|aj fun _ BC=>ax<|WS fun _ BD=>?_
 obtain ⟨x,hx⟩:=bk k j I
 have B6:=bG iC hx
 refine rS (IA j U (au (n:=k.length) 5 U sm) cL dc I I)<|rS (g5 j 0 (vI x) U cA (au (n:=k.length) 5 U sm) B6 U dc U)<|rP 1 [] mn ?_
 refine RK BD<|WS fun _ BE=>?_
 obtain ⟨i,BO,CK,Bz,p0,CQ,CJ⟩:=eV.1 (show x∈bZ d.ae.length (eA d L E) from by have e0:k=bZ d.ae.length (eA d L E):=K; rw [← e0]; exact aI hx)
 have CU:rest.length≤100:=by have h1:=AB; simp only [List.length_cons] at h1; omega
 refine aY 2 U<|pL (kV:=iV) (x:=x) (C':=[_,_,_,_,_,_,_,_,_,_,_,_,_,(lW iV M (dq vB (dJ m2 x))),_]) 13 U U U U tM (g8 mY) U (l_ _ _ _).symm U<|RK BE<|ai<|aY 2 U<|rS (SX (cV U U) U U)<|rP 4 [] (mr 4 U mn) ?_
 obtain ⟨p,hp⟩:=bk d.ae ((x).toNat) I
 have B3:=bG aV.cells hp
 refine rS (IA ((x).toNat) U (aO 2 U) m1 dc I I)<|rS (o6 ((((x).toNat)*7)+2) U (aO 2 U) (Nat.mul_pos I dc) fY U)<|rS (mZ ((x).toNat) 2 (aG.cells p.cp) U cA (aO 2 U) B3 U dc U U)<|df (xs:=[.tmp 70]) (cs:=(aG.cells p.cp)) U mT t_ U U U U (by simp [Value.cells,aG.aP]) U U fun CG=>?_
 refine rX (es2:=(List.map aG.cells (E::(rest++(k.take (j+1)).map (er d))))) (m':=(E::(rest++(k.take (j+1)).map (er d))).length) 15 U U U zm U U sm (aK (es:=List.map aG.cells [p.cp]) 0 U U (by simp [aG.aP]) U) (lL _) dc (by simp; omega) (by simp [maxLen]; omega) (by rw [m0 hx hp]; simp) sm U fun BR BV=>?_
 try dsimp only
 refine aY 1 U<|aB<|aF<|KK BC<|ai<|rP 2 [] mn ?_
 refine aB ?_
 have BL:(vI (((j+1):Nat):Int))=(vI ((j:Int)+1)):=by exact cI I
 refine aU (r ⟨((j+1),(dJ m2 x),BR,BV),⟨I,tJ G hx BO,by have:=ov G (show k.Nodup from by have e0:k=jl d L E:=K; rw [e0]; exact pX) hx BO Bz; dsimp only; omega⟩⟩ _ _ _ U os (bL 8<|aN U BL<|cE.nil _) (aL [1,2,3,4,5,6,7,8,9,10,11,12,13,14,15]))
end
section
open Go.RowKit
theorem uz (x:Int) (d:ak) (kA:OA) (kC:Nat) (pA:OA) (pC:Nat) (nA:OA) (nC:Nat) (tz:List RA) (tA:OA) (tC gw:Nat) (n:bc) (g1 g2:Nat) (hin:cK d) (htr:a_ d.ag=true) (hok:dQ d) (htz:tz.length=d.ae.length) (hn:bw d.ag n) (hx:0≤x∧x<(d.ae.length:Int)):
 dx Tryz.prog 68 [(vI x),(vP g1),(vP g2)] [(rd kA d.ag.length 9 (d.ag.map aa.cells)),(rd pA d.ae.length 7 (d.ae.map aV.cells)),(rd nA d.aq.length 3 (d.aq.map bc.cells)),(rd tA ((bh d).length) 1 (List.zipWith jD (bh d) tz)),(nw (ga kl (bh d) tz)),(cv gw 76 (cd.cells (cd.mk (aZ.mk (ar.mk (bB.mk kA d.ag.length kC)) (bB.mk pA d.ae.length pC) (bB.mk nA d.aq.length nC) d.a2 d.a4) (bB.mk tA ((bh d).length) tC)))),(cv g1 71 [(vP gw)]),(cv g2 82 (bc.cells n))] (vB (!(decide (g7 d n x)))):=by
 have O:=hin.kS
 have M:=hin.side
 have AA:=hin.ku
 have S:=hin.j7
 have R:=hin.nk
 have T:=hin.pk
 unfold bw at hn
 have V:=dG (d:=d)
 refine bD kr Tryz.func68 U U fun W Q hQ hN=>?_
 try dsimp only
 refine WS fun _ K=>aY 1 U<|RK K<|aj fun _ H=>eD dw 29 kr<|kU 1 [] (mr 6 U mn) U<|dS (SX (cV U U) U U)<|dP 4 [] (mr 5 U mn) ?_
 obtain ⟨p,hp⟩:=bk d.ae ((x).toNat) I
 have L:=bG aV.cells hp
 refine dS (IA ((x).toNat) U (aO 1 U) m1 dc I I)<|dS (o6 ((((x).toNat)*7)+1) U (aO 1 U) (Nat.mul_pos I dc) fY U)<|dS (g5 ((x).toNat) 1 (Value.int .u8 p.Kind) U cA (aO 1 U) L U dc U)<|kU 2 [] (mr 7 U mn) U<|dS (BI U eW)<|dP 1 [] mn ?_
 refine dT (t:=17) U (aX fun A=>?_) (aW fun A=>?_)
 ·refine gf 6 U<|dP 10 [] mn ?_
  refine cR<|RK H<|an<|Q1 hQ U U U ?_
  first|(refine congrArg Value.bool ?_; rw [decide_eq_false (fun q=>by have N:=(jz hp).1 q; first|omega|exact A N.1)]; rfl)|(refine congrArg Value.bool ?_; have F:tm=eX d.ag p n.ao:=(by rw [E] at C; have G:=gn C; rw [Int.toNat_of_nonneg hn.1.1] at G; exact G); rw [show decide (g7 d n x)=decide (tm≤n.e9) from decide_eq_decide.2 (by rw [jz hp,F]; exact ⟨fun q=>q.2,fun q=>⟨I,q⟩⟩)]; rw [← decide_not]; exact decide_eq_decide.2 I)
 refine kU 1 [] (mr 6 U mn) U<|dS (SX (cV U U) U U)<|dP 3 [] (mr 5 U mn) ?_
 obtain ⟨ms,D⟩:=bk (bh d) ((x).toNat) I
 obtain ⟨msa,B⟩:=bk tz ((x).toNat) I
 have AB:(List.zipWith jD (bh d) tz)[(x).toNat]? =some (jD ms msa):=rm D B
 refine dS (IA ((x).toNat) U (aO 3 U) xC dc I I) ?_
 have E:=nH hp D
 have P:ms.length=d.ag.length:=by rw [E]; exact fJ
 refine dS (g5 ((x).toNat) 0 (vS msa.1 ms.length msa.2) U cA (aO 3 U) AB U dc U)<|dP 2 [] (mr 7 U mn) ?_
 obtain ⟨tm,C⟩:=bk ms ((n.ao).toNat) I
 have J:=bG iC C
 refine dS (IA ((n.ao).toNat) U (show j3 _ (rd msa.1 ms.length 1 (ms.map iC)).holds from (rE 4 U (hH D B (by simp [kl])))) cL dc I I)<|dS (g5 ((n.ao).toNat) 0 (vI tm) U cA (show j3 _ (rd msa.1 ms.length 1 (ms.map iC)).holds from (rE 4 U (hH D B (by simp [kl])))) J U dc U)<|dP 5 [] (mr 7 U mn) ?_
 refine cR<|RK H<|an<|Q1 hQ U U U ?_
 first|(refine congrArg Value.bool ?_; rw [decide_eq_false (fun q=>by have N:=(jz hp).1 q; first|omega|exact A N.1)]; rfl)|(refine congrArg Value.bool ?_; have F:tm=eX d.ag p n.ao:=(by rw [E] at C; have G:=gn C; rw [Int.toNat_of_nonneg hn.1.1] at G; exact G); rw [show decide (g7 d n x)=decide (tm≤n.e9) from decide_eq_decide.2 (by rw [jz hp,F]; exact ⟨fun q=>q.2,fun q=>⟨I,q⟩⟩)]; rw [← decide_not]; exact decide_eq_decide.2 I)
theorem u1 (l:List Int) (lA:OA) (lC:Nat) (hlen:l.length≤1000000):
 jK Tryz.prog 67 [(vS lA l.length lC)] [(rd lA l.length 1 (l.map iC))] (fun (x:(OA)×Nat)=>(vS x.1 l.length x.2)) (fun (x:(OA)×Nat)=>True) (fun (x:(OA)×Nat)=>[(own x.1 x.2 3 1 (l.map iC))]):=by
 refine dh kr Tryz.func67 U U fun L Q hQ hN=>?_
 try dsimp only
 refine WS fun _ D=>aY 1 U<|RK D<|aj fun _ E=>WS fun _ F=>rP 1 [] mn ?_
 refine rS (BI U (tq AR))<|RK F<|cG U (aR fun B=>?_) (aS fun B=>?_)
 ·refine WS fun _ G=>pb (aO 0 U) B dc fun C=>?_
  have A:l=[]:=by simpa using C
  refine ec 3 1 ?_
  rw [show (own none 0 3 1 ([]:List (List Value)))=own none 0 3 1 (l.map iC) from by rw [A]; rfl]
  refine rP 1 [] mn ?_
  refine RK G<|an ?_
  refine LX hQ (none,0) [0] [] mn U U U ?_ ?_
  ·first|rfl|(rw [A]; rfl)
  ·trivial
 refine WK E<|WS fun _ H=>oy U cL U fun J=>rP 1 [] mn ?_
 refine eI (es:=(List.map iC [])) (C':=[own (some ⟨J,0,none⟩) 0 3 1 (List.map iC []),_]) 0 U sm U (by simp [maxLen]) U ?_
 refine dF (es2:=(List.map iC l)) (m':=l.length) 0 U U U mA U U sm (aO 1 U) (gW _) os (by (simp only [maxLen]; omega)) sm sm U fun AA K=>?_
 try dsimp only
 refine rP 1 [] mn ?_
 refine RK H<|an ?_
 refine LX hQ (AA,K) [0] [] mn U U U ?_ ?_
 ·first|rfl|(rw [A]; rfl)
 ·trivial
theorem sa (l:List Int) (lA:OA) (lC:Nat) (f:Value) (p:Int→Bool) (X:ah) (hf: ∀ x0,x0∈l→uU Tryz.prog f [.int .i64 x0] [X] (.bool (p x0))) (hlen:l.length≤1000000):
 uT Tryz.prog 66 [(vS lA l.length lC),f] [X] (own lA lC 3 1 (l.map iC)) (fun (x:(List Int))=>(vS lA x.length lC)) (fun (x:(List Int))=>x=(l.filter fun u=> !p u)) (fun (x:(List Int))=>(own lA lC 3 1 (x.map iC))):=by
 refine k8 kr Tryz.func66 U U fun w0 Q hQ hN=>?_
 try dsimp only
 refine WS fun _ b=>aY 1 U<|RK b<|WS fun _ c=>aY 2 U<|rS (CL (rI l lA lC f p X (by exact hf) hlen) (av (au (n:=l.length) 0 U sm)<|eF 1 U U<|aw) U)<|aY 1 U<|RK c<|aj fun _ d=>WS fun _ e=>rP 2 [] mn ?_
 refine RK e<|cG U (aR fun E=>?_) (aS fun E=>?_)
 ·refine WS fun _ g=>?_
  have AB:=tS E
  refine rP 2 [] mn ?_
  refine RK g<|an ?_
  refine LM hQ l 0 [] mn U U U ?_ ?_
  ·first|rfl|(rw [C.2]<;>rfl)
  ·first|rfl|exact AB
 refine WK d<|aj fun _ h=>WS fun _ m=>?_
 obtain ⟨AC,t⟩:=rU (p:=p) (l:=l) E
 refine rP 3 [] mn ?_
 refine RK m<|ax ?_
 have F:(((dz p l).toNat)≤((dz p l).toNat+1)∧((dz p l).toNat+1)≤l.length)∧(kT p l l ((dz p l).toNat) ((dz p l).toNat+1)):=by exact ⟨I,t⟩
 have r:(vI ((((dz p l).toNat):Nat):Int))=(vI (dz p l)):=by exact cI I
 have s:(vI ((((dz p l).toNat+1):Nat):Int))=(vI ((dz p l)+1)):=by exact cI I
 refine bu (ι:={z:Nat×Nat×(List Int) // (z.1≤z.2.1∧z.2.1≤l.length)∧(kT p l z.2.2 z.1 z.2.1)}) [0,1] [1] U U (fun z=>[(5,(vI (z.1.1:Int))),(6,(vI (z.1.2.1:Int)))]) (fun z=>[(own lA lC 3 1 (z.1.2.2.map iC))]) (fun _=>rfl) (fun _=>rfl) (fun z=>l.length-z.1.2.1) ⟨((dz p l).toNat,((dz p l).toNat+1),l),F⟩ (aN U r<|aN U s<|cE.nil _) (aL [1,0]) ?_
 clear F
 rintro ⟨⟨i,j,q⟩,⟨K,A⟩⟩ J10 G
 try dsimp only at K A
 try dsimp only
 have D:=A.len
 refine aj fun _ M=>WS fun _ N=>rP 4 [] mn ?_
 refine RK N<|bq U (aS fun Z=>?_) (aR fun Z=>?_)
 ·refine bj<|ab<|ab<|ay<|KK h<|WS fun _ S=>?_
  have D:=A.len
  have C:=A.done I
  refine rP 2 [] mn ?_
  refine rS (Bg i U cL I os) ?_
  refine u0 (k:=i) 1 rfl rfl mA (by intro v hv; simp [Value.cells] at hv; subst hv; rfl) rfl (by simp [D]) I ?_
  try dsimp only
  rw [show (own lA lC 3 1 ((q.map iC).take i))=(own lA lC 3 1 ((l.filter fun u=> !p u).map iC)) from by rw [← C.1,List.map_take]]
  refine RK S<|WS fun _ T=>rP 2 [] mn ?_
  refine xe 1 U fun J=>?_
  have AD:i≤lC:=by rw [List.length_map,C.2] at J; exact J
  refine rS (Bh i U cL I (by first|omega|exact Nat.zero_le _|(simp; omega))) ?_
  refine rP 1 [] mn ?_
  refine RK T<|an ?_
  refine LM hQ (l.filter fun u=> !p u) 1 [] mn U U U ?_ ?_
  ·first|rfl|(rw [C.2]<;>rfl)
  ·first|rfl|exact AB
 refine WK M<|aj fun _ H=>ax<|WS fun _ O=>rP 2 [] mn ?_
 obtain ⟨y,hy⟩:=bk q j I
 have L:=bG iC hy
 refine rS (IA j U (au (n:=l.length) 1 U sq) cL dc I I) ?_
 refine rS (g5 j 0 (vI y) U cA (au (n:=q.length) 1 U sm) L U dc U)<|aY 1 U<|RK O<|WS fun _ P=>rP 2 [] mn ?_
 have L:y∈l:=A.mem hy
 refine rS (SX (jf U U U (hf y L) (bg [0])) U U)<|rP 1 [] mn ?_
 refine RK P<|bq U (fun B=>?_) (fun B=>?_)
 ·rw [Bool.not_eq_false'] at B
  refine cf<|aF<|KK H<|ai<|rP 3 [] mn ?_
  refine aB ?_
  have W:(vI (i:Int))=(vI (i:Int)):=by exact cI I
  have Y:(vI (((j+1):Nat):Int))=(vI ((j:Int)+1)):=by exact cI I
  refine aU (G ⟨(i,(j+1),q),⟨dso,by first|exact A.im D I hy B|exact A.skip D hy B⟩⟩ _ _ _ U os (cE.cons U<|cE.cons U<|aN U W<|aN U Y<|cE.nil _) (aL [0,1]))
 rw [Bool.not_eq_true'] at B
 refine WS fun _ R=>rP 3 [] mn ?_
 obtain ⟨z,hz⟩:=bk q i I
 have w:=bG iC hz
 refine rS (IA i U (au (n:=l.length) 1 U sq) cL dc I I) ?_
 refine cw (k:=i) (o:=0) (vs:=[(vI y)]) (es':=(List.map iC (q.set i y))) (C':=[_,(own lA lC 3 1 (List.map iC (q.set i y)))]) 1 U U U qk U U U U w U dc (by exact (List.map_set (f:=iC) (l:=q) (i:=i) (a:=y)).symm) U<|RK R<|ai<|aY 3 U<|aB<|aF<|KK H<|ai<|rP 3 [] mn ?_
 refine aB ?_
 have AA:(vI (((i+1):Nat):Int))=(vI ((i:Int)+1)):=by exact cI I
 have V:(vI (((j+1):Nat):Int))=(vI ((j:Int)+1)):=by exact cI I
 refine aU (G ⟨((i+1),(j+1),(q.set i y)),⟨dso,by first|exact A.im D I hy B|exact A.skip D hy B⟩⟩ _ _ _ U os (cE.cons U<|cE.cons U<|aN U AA<|aN U V<|cE.nil _) (aL [0,1]))
end
section
open Go.RowKit
theorem pg (d:ak) (kA:OA) (kC:Nat) (pA:OA) (pC:Nat) (nA:OA) (nC:Nat) (tz:List RA) (tA:OA) (tC gw:Nat) (n:bc) (cl:List Int) (clA:OA) (clC:Nat) (hin:cK d) (htr:a_ d.ag=true) (hok:dQ d) (htz:tz.length=d.ae.length) (hn:bw d.ag n) (hc: ∀ x∈cl,0≤x∧x<(d.ae.length:Int)) (hcl:cl.length≤1000000):
 jK Tryz.prog 36 [(vP gw),(vA (bc.cells n)),(vS clA cl.length clC)] [(rd kA d.ag.length 9 (d.ag.map aa.cells)),(rd pA d.ae.length 7 (d.ae.map aV.cells)),(rd nA d.aq.length 3 (d.aq.map bc.cells)),(rd tA ((bh d).length) 1 (List.zipWith jD (bh d) tz)),(nw (ga kl (bh d) tz)),(cv gw 76 (cd.cells (cd.mk (aZ.mk (ar.mk (bB.mk kA d.ag.length kC)) (bB.mk pA d.ae.length pC) (bB.mk nA d.aq.length nC) d.a2 d.a4) (bB.mk tA ((bh d).length) tC)))),(rd clA cl.length 1 (cl.map iC))] (fun (x:(OA)×Nat)=>(vS x.1 ((cl.filter fun x=>decide (g7 d n x)).length) x.2)) (fun (x:(OA)×Nat)=>True) (fun (x:(OA)×Nat)=>[(own x.1 x.2 3 1 ((cl.filter fun x=>decide (g7 d n x)).map iC))]):=by
 have L:=hin.kS
 have H:=hin.side
 have P:=hin.ku
 have N:=hin.j7
 have M:=hin.nk
 have O:=hin.pk
 refine dh kr Tryz.func36 U U fun T Q hQ hN=>?_
 try dsimp only
 refine WS fun _ D=>sU U U fun B=>fN U fun C=>aY 1 U<|RK D<|WS fun _ E=>rP 1 [] mn ?_
 refine cX (u1 cl clA clC (by exact hcl)) (bg [8]) U fun S R=>?_
 obtain ⟨J,K⟩:=S
 try dsimp only
 refine rS (FU U) ?_
 refine ia 0 U U U U (rY (sa cl J K (Value.func (.func 68) [].toArray [(vP B),(vP C)].toArray) (fun AA=>(!(decide (g7 d n AA)))) (nw [(rd kA d.ag.length 9 (d.ag.map aa.cells)),(rd pA d.ae.length 7 (d.ae.map aV.cells)),(rd nA d.aq.length 3 (d.aq.map bc.cells)),(rd tA ((bh d).length) 1 (List.zipWith jD (bh d) tz)),(nw (ga kl (bh d) tz)),(cv gw 76 (cd.cells (cd.mk (aZ.mk (ar.mk (bB.mk kA d.ag.length kC)) (bB.mk pA d.ae.length pC) (bB.mk nA d.aq.length nC) d.a2 d.a4) (bB.mk tA ((bh d).length) tC)))),(cv B 71 [(vP gw)]),(cv C 82 (bc.cells n))]) (by intro AA A; exact jW (fi:=[]) (ca:=[(vP B),(vP C)]) (ir (uz AA d kA kC pA pC nA nC tz tA tC gw n B C (by first|assumption|exact hc _ A|omega) (by first|assumption|exact hc _ A|omega) (by first|assumption|exact hc _ A|omega) (by first|assumption|exact hc _ A|omega) (by first|assumption|exact hc _ A|omega) (by first|assumption|exact hc _ A|omega)) (bg [0,1,2,3,4,5,6,7]))) I)) U (fO 3 U U (e_ (cD _)) (fO 4 U U (e_ (cD _)) (fO 5 U U (e_ (cD _)) (fO 6 U U (e_ (cD _)) (fO 7 U U (e_ (cD _)) (fO 8 U U (e_ (cD _)) (fO 2 U U (cD _) (fO 1 U U (cD _) jS)))))))) U (fun mm F=>?_)
 try dsimp only
 have G:mm=(cl.filter fun x=>decide (g7 d n x)):=by rw [F]; simp only [Bool.not_not]
 rw [G]
 refine rP 1 [] mn ?_
 refine RK E<|an<|LX hQ (J,K) [0] [] mn U U U U ?_
 trivial
end
section
open Go.RowKit
theorem j6 (d:ak) (kA:OA) (kC:Nat) (pA:OA) (pC:Nat) (nA:OA) (nC:Nat) (tz:List RA) (tA:OA) (tC gw s:Nat) (hin:cK d) (htr:a_ d.ag=true) (hok:dQ d) (htz:tz.length=d.ae.length) (hsb:s<256):
 jK Tryz.prog 34 [(vP gw),(vI (s:Int))] [(rd kA d.ag.length 9 (d.ag.map aa.cells)),(rd pA d.ae.length 7 (d.ae.map aV.cells)),(rd nA d.aq.length 3 (d.aq.map bc.cells)),(rd tA ((bh d).length) 1 (List.zipWith jD (bh d) tz)),(nw (ga kl (bh d) tz)),(cv gw 76 (cd.cells (cd.mk (aZ.mk (ar.mk (bB.mk kA d.ag.length kC)) (bB.mk pA d.ae.length pC) (bB.mk nA d.aq.length nC) d.a2 d.a4) (bB.mk tA ((bh d).length) tC))))] (fun (x:(OA)×Nat)=>(vS x.1 ((cq d (bH s)).length) x.2)) (fun (x:(OA)×Nat)=>True) (fun (x:(OA)×Nat)=>[(own x.1 x.2 3 1 ((cq d (bH s)).map iC))]):=by
 have c:=hin.kS
 have a:=hin.side
 have v:=hin.ku
 have t:=hin.j7
 have r:=hin.nk
 have u:=hin.pk
 have o:=hok.len
 refine dh kr Tryz.func34 U U fun w0 Q hQ hN=>?_
 try dsimp only
 refine WS fun _ T=>aY 1 U<|RK T<|q7 U<|WS fun _ AA=>rP 2 [] mn ?_
 refine cX (k9 d kA kC pA pC nA nC tA ((bh d).length) tC gw s hin htr hok hsb) (bg [0,1,2,5]) U fun y w=>?_
 obtain ⟨g,l⟩:=y
 try dsimp only
 refine aY 1 U<|RK AA<|WS fun _ V=>aY 1 U<|RK V<|aj fun _ W=>rk<|KK W<|aj fun _ X=>WS fun _ F=>aY 1 U<|rS (SX (cV U U) U U)<|rP 5 [] (mr 6 U mn) ?_
 refine RK F<|ax<|ep 3 1 ?_
 have B:(0≤d.aq.length):=by exact Nat.zero_le _
 refine bu (ι:={z:Nat×(OA)×Nat // (z.1≤d.aq.length)}) [0,1,5,16,17] [1,2,3,4,5,6,7] U U (fun z=>[(6,(vS z.1.2.1 ((bZ z.1.1 (gu d (bH s))).length) z.1.2.2)),(18,(vI (z.1.1:Int)))]) (fun z=>[(own z.1.2.1 z.1.2.2 3 1 ((bZ z.1.1 (gu d (bH s))).map iC))]) (fun _=>rfl) (fun _=>rfl) (fun z=>d.aq.length-z.1.1) ⟨(0,none,0),B⟩ (a3 U) (aL [1,2,3,4,5,6,7,0]) ?_
 clear B
 rintro ⟨⟨j,la,lc⟩,E⟩ J11 C
 try dsimp only at E
 try dsimp only
 refine WS fun _ G=>rP 1 [] mn ?_
 refine RK G<|aj fun _ H=>bq U (aS fun S=>?_) (aR fun S=>?_)
 ·refine bj<|ab<|ab<|ay<|KK X<|WS fun _ L=>?_
  rw [show bZ j (gu d (bH s))=cq d (bH s) from by unfold cq; rw [show j=d.aq.length by omega]]
  refine rP 2 [] mn ?_
  refine RK L<|an<|LX hQ (la,lc) [7] [] mn U U U U ?_
  trivial
 refine WK H<|aj fun _ D=>ax<|WS fun _ AB=>rP 1 [] mn ?_
 obtain ⟨n,hn⟩:=bk d.aq j I
 have Y:=bG bc.cells hn
 refine rS (IA j U (aO 3 U) sJ dc I I)<|rS (mZ j 0 (bc.cells n) U cA (aO 3 U) Y U dc U U)<|AL U xR fun h=>rP 1 [] mn ?_
 refine gH U yZ U<|RK AB<|aj fun _ J=>WS fun _ K=>?_
 have Z:=hok.eT n (aI hn)
 refine rP 3 [] (mc 0 U mn) ?_
 refine cX (pg d kA kC pA pC nA nC tz tA tC gw n (dI d (bH s)) g l hin htr hok htz (by exact Z) (by exact my) (by exact Nat.le_trans mF I)) (fH [2,3,4,5,6,7]<|av (au (n:=(dI d (bH s)).length) 1 U sm)<|aw) U fun b e=>?_
 obtain ⟨f,k⟩:=b
 try dsimp only
 rw [ke]
 refine rP 2 [] mn ?_
 refine RK K<|cG U (aR fun A=>?_) (aS fun A=>?_)
 ·refine bj<|ab<|ay<|KK D<|ai<|rP 2 [] mn ?_
  refine aB ?_
  rw [show (bZ j (gu d (bH s)))=(bZ (j+1) (gu d (bH s))) from (fP (fun q=>by obtain ⟨n2,O,m⟩:=q; rw [hn] at O; cases O; rw [m] at A; simp at A)).symm]
  have M:(vI (((j+1):Nat):Int))=(vI ((j:Int)+1)):=by exact cI I
  refine aU (C ⟨((j+1),la,lc),(by first|omega|(simp only []; omega))⟩ _ _ _ U os (bL 6<|aN U M<|cE.nil _) (aL [2,3,4,5,6,7,8,9]))
 refine WK J<|ai<|rP 2 [] mn ?_
 refine df (xs:=[.tmp 30]) (cs:=[(vI (j:Int))]) U cL g0 U U U U (by simp [Value.cells]) U U fun i=>?_
 refine dF (es2:=(List.map iC (bZ (j+1) (gu d (bH s))))) (m':=(bZ (j+1) (gu d (bH s))).length) 10 U U U mA U U sm (aK (es:=List.map iC [(j:Int)]) 0 U U (by simp [ba]) U) (gW _) (by have:=dD (n:=j) (p:=gu d (bH s)); omega) (by have:=dD (n:=j) (p:=gu d (bH s)); simp only [maxLen]; omega) (by rw [fj (p:=gu d (bH s)) ⟨n,hn,e8 I⟩]; simp) sm U fun P R=>?_
 try dsimp only
 refine aY 1 U<|aB<|aF<|KK D<|ai<|rP 2 [] mn ?_
 refine aB ?_
 have N:(vI (((j+1):Nat):Int))=(vI ((j:Int)+1)):=by exact cI I
 refine aU (C ⟨((j+1),P,R),(by first|omega|(simp only []; omega))⟩ _ _ _ U os (bL 6<|aN U N<|cE.nil _) (aL [3,4,5,6,7,8,9,10]))
theorem qX (d:ak) (kA:OA) (kC:Nat) (pA:OA) (pC:Nat) (nA:OA) (nC:Nat) (tz:List RA) (tA:OA) (tC gw s:Nat) (hin:cK d) (htr:a_ d.ag=true) (hok:dQ d) (htz:tz.length=d.ae.length) (hsb:s<256):
 jK Tryz.prog 39 [(vP gw),(vI (s:Int))] [(rd kA d.ag.length 9 (d.ag.map aa.cells)),(rd pA d.ae.length 7 (d.ae.map aV.cells)),(rd nA d.aq.length 3 (d.aq.map bc.cells)),(rd tA ((bh d).length) 1 (List.zipWith jD (bh d) tz)),(nw (ga kl (bh d) tz)),(cv gw 76 (cd.cells (cd.mk (aZ.mk (ar.mk (bB.mk kA d.ag.length kC)) (bB.mk pA d.ae.length pC) (bB.mk nA d.aq.length nC) d.a2 d.a4) (bB.mk tA ((bh d).length) tC))))] (fun (x:(OA)×Nat)=>(vS x.1 ((iK d (bH s)).length) x.2)) (fun (x:(OA)×Nat)=>True) (fun (x:(OA)×Nat)=>[(own x.1 x.2 3 1 ((iK d (bH s)).map iC))]):=by
 have Y:=hin.kS
 have W:=hin.side
 have v:=hin.ku
 have l:=hin.j7
 have h:=hin.nk
 have u:=hin.pk
 have g:=hok.len
 refine dh kr Tryz.func39 U U fun w Q hQ hN=>?_
 try dsimp only
 refine WS fun _ P=>aY 1 U<|RK P<|WS fun _ R=>aY 1 U<|RK R<|aj fun _ S=>WS fun _ T=>aY 1 U<|rS (SX (cV U U) U U)<|rP 5 [] (mr 5 U mn) ?_
 refine RK T<|ax<|ep 3 1 ?_
 have C:(0≤d.ae.length):=by exact Nat.zero_le _
 refine bu (ι:={z:Nat×(OA)×Nat // (z.1≤d.ae.length)}) [0,1,11,12] [1,2,3,4,5,6] U U (fun z=>[(5,(vS z.1.2.1 ((bZ z.1.1 (fun i=>bH s i∧cq d (cW (bH s) i)≠[])).length) z.1.2.2)),(13,(vI (z.1.1:Int)))]) (fun z=>[(own z.1.2.1 z.1.2.2 3 1 ((bZ z.1.1 (fun i=>bH s i∧cq d (cW (bH s) i)≠[])).map iC))]) (fun _=>rfl) (fun _=>rfl) (fun z=>d.ae.length-z.1.1) ⟨(0,none,0),C⟩ (a3 U) (aL [1,2,3,4,5,6,0]) ?_
 clear C
 rintro ⟨⟨j,la,lc⟩,G⟩ J5 E
 try dsimp only at G
 try dsimp only
 refine WS fun _ AA=>rP 1 [] mn ?_
 refine RK AA<|aj fun _ V=>bq U (aS fun e=>?_) (aR fun e=>?_)
 ·refine bj<|ab<|ab<|ay<|KK S<|WS fun _ J=>?_
  rw [show bZ j (fun i=>bH s i∧cq d (cW (bH s) i)≠[])=iK d (bH s) from by unfold iK; rw [show j=d.ae.length by omega]]
  refine rP 2 [] mn ?_
  refine RK J<|an<|LX hQ (la,lc) [6] [] mn U U U U ?_
  trivial
 refine WK V<|aj fun _ F=>ax<|WS fun _ AB=>aY 2 U<|RK AB<|WS fun _ D=>aY 2 U<|rS (BI U (pP (i:=j) I I))<|rS (BI U (qh (m:=(s/2^j)) I (Nat.lt_of_le_of_lt (Nat.div_le_self _ _) I)))<|rP 2 [] mn ?_
 refine cJ (t:=21) U (aS fun A=>?_) (aR fun A=>?_)
 ·refine aY 3 U<|aY 1 U<|aY 5 U<|RK D<|bp U<|cf<|aF<|KK F<|ai<|rP 2 [] mn ?_
  refine aB ?_
  rw [show (bZ j (fun i=>bH s i∧cq d (cW (bH s) i)≠[]))=(bZ (j+1) (fun i=>bH s i∧cq d (cW (bH s) i)≠[])) from (fP (show ¬ (bH s j∧cq d (cW (bH s) j)≠[]) from fun q=>by first|exact A (gk.2 q.1)|exact q.2 (by rw [← H]; exact e8 I))).symm]
  have M:(vI (((j+1):Nat):Int))=(vI ((j:Int)+1)):=by exact cI I
  refine aU (E ⟨((j+1),la,lc),(by first|omega|(simp only []; omega))⟩ _ _ _ U os (bL 5<|aN U M<|cE.nil _) (aL [0,1,2,3,4,5,6]))
 refine rP 3 [] mn ?_
 have o:=iA (n:=j) I
 refine rS (BI U (og (i:=j) I I)) ?_
 have f:hZ s j<256:=Nat.lt_of_le_of_lt qA hsb
 have H:cq d (bH (hZ s j))=cq d (cW (bH s) j):=fg fun k hk=>AT hsb I I
 have r:2^j≤256:=(iA I).2
 refine rS (BI U (o8 (s:=s) (i:=j) I U I I)) ?_
 refine cX (j6 d kA kC pA pC nA nC tz tA tC gw (hZ s j) hin htr hok htz sd) (bg [0,1,2,3,4,5]) U fun X Z=>?_
 obtain ⟨a,c⟩:=X
 try dsimp only
 refine rP 3 [] mn ?_
 refine RK D<|bq U (aS fun B=>?_) (aR fun B=>?_)
 ·refine cf<|aF<|KK F<|ai<|rP 2 [] mn ?_
  refine aB ?_
  rw [show (bZ j (fun i=>bH s i∧cq d (cW (bH s) i)≠[]))=(bZ (j+1) (fun i=>bH s i∧cq d (cW (bH s) i)≠[])) from (fP (show ¬ (bH s j∧cq d (cW (bH s) j)≠[]) from fun q=>by first|exact A (gk.2 q.1)|exact q.2 (by rw [← H]; exact e8 I))).symm]
  have L:(vI (((j+1):Nat):Int))=(vI ((j:Int)+1)):=by exact cI I
  refine aU (E ⟨((j+1),la,lc),(by first|omega|(simp only []; omega))⟩ _ _ _ U os (bL 5<|aN U L<|cE.nil _) (aL [1,2,3,4,5,6,7]))
 refine ai<|rP 2 [] mn ?_
 refine df (xs:=[.tmp 32]) (cs:=[(vI (j:Int))]) U cL g0 U U U U (by simp [Value.cells]) U U fun b=>?_
 refine dF (es2:=(List.map iC (bZ (j+1) (fun i=>bH s i∧cq d (cW (bH s) i)≠[])))) (m':=(bZ (j+1) (fun i=>bH s i∧cq d (cW (bH s) i)≠[])).length) 8 U U U mA U U sm (aK (es:=List.map iC [(j:Int)]) 0 U U (by simp [ba]) U) (gW _) (by have:=dD (n:=j) (p:=fun i=>bH s i∧cq d (cW (bH s) i)≠[]); omega) (by have:=dD (n:=j) (p:=fun i=>bH s i∧cq d (cW (bH s) i)≠[]); simp only [maxLen]; omega) (by rw [fj (p:=fun i=>bH s i∧cq d (cW (bH s) i)≠[]) (show bH s j∧cq d (cW (bH s) j)≠[] from ⟨gk.1 A,fun q=>by rw [H,q] at B; simp at B⟩)]; simp) sm U fun N O=>?_
 try dsimp only
 refine aY 1 U<|aB<|aF<|KK F<|ai<|rP 2 [] mn ?_
 refine aB ?_
 have K:(vI (((j+1):Nat):Int))=(vI ((j:Int)+1)):=by exact cI I
 refine aU (E ⟨((j+1),N,O),(by first|omega|(simp only []; omega))⟩ _ _ _ U os (bL 5<|aN U K<|cE.nil _) (aL [2,3,4,5,6,7,8]))
theorem nx (d:ak) (kA:OA) (kC:Nat) (pA:OA) (pC:Nat) (nA:OA) (nC:Nat) (tz:List RA) (tA:OA) (tC gw s:Nat) (hin:cK d) (htr:a_ d.ag=true) (hok:dQ d) (htz:tz.length=d.ae.length) (hsb:s<256):
 dx Tryz.prog 42 [(vP gw),(vI (s:Int))] [(rd kA d.ag.length 9 (d.ag.map aa.cells)),(rd pA d.ae.length 7 (d.ae.map aV.cells)),(rd nA d.aq.length 3 (d.aq.map bc.cells)),(rd tA ((bh d).length) 1 (List.zipWith jD (bh d) tz)),(nw (ga kl (bh d) tz)),(cv gw 76 (cd.cells (cd.mk (aZ.mk (ar.mk (bB.mk kA d.ag.length kC)) (bB.mk pA d.ae.length pC) (bB.mk nA d.aq.length nC) d.a2 d.a4) (bB.mk tA ((bh d).length) tC))))] (vB (decide (cy d (bH s)))):=by
 have E:=hin.kS
 have D:=hin.side
 have J:=hin.ku
 have H:=hin.j7
 have G:=hin.nk
 have AA:=hin.pk
 refine bD kr Tryz.func42 U U fun S Q hQ hN=>?_
 try dsimp only
 refine WS fun _ C=>aY 1 U<|RK C<|WS fun _ B=>rP 2 [] mn ?_
 refine cX (j6 d kA kC pA pC nA nC tz tA tC gw s hin htr hok htz hsb) (bg [0,1,2,3,4,5]) U fun M K=>?_
 obtain ⟨O,R⟩:=M
 try dsimp only
 refine rP 3 [] mn ?_
 refine cJ (t:=10) U (aS fun A=>?_) (aR fun A=>?_)
 ·refine rP 7 [] mn ?_
  refine RK B<|an<|Q1 hQ U U U ?_
  first|exact cB (l8 A)|exact cB (mo A)
 refine rP 2 [] mn ?_
 refine cX (qX d kA kC pA pC nA nC tz tA tC gw s hin htr hok htz hsb) (bg [1,2,3,4,5,6]) U fun N L=>?_
 obtain ⟨P,F⟩:=N
 try dsimp only
 refine rP 4 [] mn ?_
 refine RK B<|an<|Q1 hQ U U U ?_
 first|exact cB (l8 A)|exact cB (mo A)
end
section
open Go.RowKit
theorem mh (d:ak) (kA:OA) (kC:Nat) (pA:OA) (pC:Nat) (nA:OA) (nC:Nat) (l:List Int) (lA:OA) (lC:Nat) (hin:cK d) (hll:l.length≤1000000):
 jK Tryz.prog 12 [(vA (aZ.cells (aZ.mk (ar.mk (bB.mk kA d.ag.length kC)) (bB.mk pA d.ae.length pC) (bB.mk nA d.aq.length nC) d.a2 d.a4))),(vS lA l.length lC)] [(rd kA d.ag.length 9 (d.ag.map aa.cells)),(rd pA d.ae.length 7 (d.ae.map aV.cells)),(rd nA d.aq.length 3 (d.aq.map bc.cells)),(rd lA l.length 1 (l.map iC))] (fun (x:(OA)×Nat)=>(vT [(vS x.1 ((cC d l).length) x.2),(vI (bM d l))])) (fun (x:(OA)×Nat)=>True) (fun (x:(OA)×Nat)=>[(own x.1 x.2 3 1 ((cC d l).map iC))]):=by
 have Z:=hin.kS
 have AA:=hin.side
 have h:=hin.ku
 have f:=hin.j7
 have e:=hin.nk
 have g:=hin.pk
 refine dh kr Tryz.func12 U U fun p Q hQ hN=>?_
 try dsimp only
 refine WS fun _ P=>fN U fun o=>aY 2 U<|RK P<|WS fun _ G=>rP 2 [] (mc 0 U mn) ?_
 refine cX (mG d kA kC pA pC nA nC l lA lC hin hll) (bg [1,2,3,4]) U fun n K=>?_
 obtain ⟨L,c,O,V,W,b⟩:=n
 cases L
 ·obtain ⟨AB,he⟩:=K.2 rfl
  try dsimp only at AB he
  subst AB
  try dsimp only [cond_true,cond_false,List.cons_append,List.nil_append]
  refine aY 7 U<|RK G<|aj fun _ Y=>WS fun _ B=>rP 2 [] mn ?_
  refine RK B<|bq U (aW fun A=>?_) (aX fun A=>?_)
  ·exact absurd A he
  refine WS fun _ C=>ec 3 1 ?_
  rw [show (own none 0 3 1 ([]:List (List Value)))=own none 0 3 1 ((cC d l).map iC) from by rw [jV he]; rfl]
  refine aY 1 U<|rP 2 [] mn ?_
  refine RK C<|an ?_
  refine LX hQ (none,0) [0] [] mn U U U ?_ ?_
  ·first|rfl|(rw [jV he]; rfl)|(rw [he]; rfl)
  ·trivial
 obtain ⟨he,m⟩:=K.1 rfl
 try dsimp only [cond_true,cond_false,List.cons_append,List.nil_append]
 obtain ⟨S,R⟩:=je he
 obtain ⟨j,T⟩:=cP S
 have J:=T.len
 have i:=hE (l:=l) J.1
 have H:=fun k (hk:k<d.ae.length)=>gD J.1 (l:=l) (fun x hx=>by have:=js R x hx; omega) hk
 refine aY 7 U<|RK G<|aj fun _ D=>WS fun _ E=>aY 1 U<|rS (SX (ck (r:= .bool false) U U U eW) U U)<|RK E<|bp U<|WK D<|WS fun _ F=>rP 2 [] mn ?_
 refine cX (k9 d kA kC pA pC nA nC V ((bh d).length) W O (de d.ae.length l) hin sd sd sd) (bg [4,5,6,0]) U fun X a=>?_
 obtain ⟨M,N⟩:=X
 try dsimp only
 rw [show dI d (bH (de d.ae.length l))=cC d l from by rw [j2 he]; exact n9 H]
 refine rP 2 [] mn ?_
 refine RK F<|an ?_
 refine LX hQ (M,N) [0] [] mn U U U ?_ ?_
 ·first|rfl|(rw [jV he]; rfl)|(rw [he]; rfl)
 ·trivial
theorem q9 (d:ak) (kA:OA) (kC:Nat) (pA:OA) (pC:Nat) (nA:OA) (nC:Nat) (l:List Int) (lA:OA) (lC:Nat) (hin:cK d) (hll:l.length≤1000000):
 jK Tryz.prog 11 [(vA (aZ.cells (aZ.mk (ar.mk (bB.mk kA d.ag.length kC)) (bB.mk pA d.ae.length pC) (bB.mk nA d.aq.length nC) d.a2 d.a4))),(vS lA l.length lC)] [(rd kA d.ag.length 9 (d.ag.map aa.cells)),(rd pA d.ae.length 7 (d.ae.map aV.cells)),(rd nA d.aq.length 3 (d.aq.map bc.cells)),(rd lA l.length 1 (l.map iC))] (fun (x:(OA)×Nat)=>(vT [(vS x.1 ((dL d l).length) x.2),(vI (bM d l))])) (fun (x:(OA)×Nat)=>True) (fun (x:(OA)×Nat)=>[(own x.1 x.2 3 1 ((dL d l).map iC))]):=by
 have b:=hin.kS
 have V:=hin.side
 have i:=hin.ku
 have g:=hin.j7
 have f:=hin.nk
 have h:=hin.pk
 refine dh kr Tryz.func11 U U fun q Q hQ hN=>?_
 try dsimp only
 refine WS fun _ R=>fN U fun p=>aY 2 U<|RK R<|WS fun _ G=>rP 2 [] (mc 0 U mn) ?_
 refine cX (mG d kA kC pA pC nA nC l lA lC hin hll) (bg [1,2,3,4]) U fun o K=>?_
 obtain ⟨L,e,P,X,Y,M⟩:=o
 cases L
 ·obtain ⟨AB,he⟩:=K.2 rfl
  try dsimp only at AB he
  subst AB
  try dsimp only [cond_true,cond_false,List.cons_append,List.nil_append]
  refine aY 7 U<|RK G<|aj fun _ a=>WS fun _ B=>rP 2 [] mn ?_
  refine RK B<|bq U (aW fun A=>?_) (aX fun A=>?_)
  ·exact absurd A he
  refine WS fun _ C=>ec 3 1 ?_
  rw [show (own none 0 3 1 ([]:List (List Value)))=own none 0 3 1 ((dL d l).map iC) from by rw [ld he]; rfl]
  refine aY 1 U<|rP 2 [] mn ?_
  refine RK C<|an ?_
  refine LX hQ (none,0) [0] [] mn U U U ?_ ?_
  ·first|rfl|(rw [ld he]; rfl)|(rw [he]; rfl)
  ·trivial
 obtain ⟨he,W⟩:=K.1 rfl
 try dsimp only [cond_true,cond_false,List.cons_append,List.nil_append]
 obtain ⟨T,S⟩:=je he
 obtain ⟨m,AA⟩:=cP T
 have J:=AA.len
 have j:=hE (l:=l) J.1
 have H:=fun k (hk:k<d.ae.length)=>gD J.1 (l:=l) (fun x hx=>by have:=js S x hx; omega) hk
 refine aY 7 U<|RK G<|aj fun _ D=>WS fun _ E=>aY 1 U<|rS (SX (ck (r:= .bool false) U U U eW) U U)<|RK E<|bp U<|WK D<|WS fun _ F=>rP 2 [] mn ?_
 refine cX (j6 d kA kC pA pC nA nC M X Y P (de d.ae.length l) hin sd sd sd sd) (fH [4,5,6]<|av (au (n:=(bh d).length) 1 U (fV (by rw [dG]; exact W)))<|av (fT 2 U jc)<|eF 0 U U<|aw) U fun Z c=>?_
 obtain ⟨N,O⟩:=Z
 try dsimp only
 rw [show cq d (bH (de d.ae.length l))=dL d l from by rw [lg he]; exact fg H]
 refine rP 2 [] mn ?_
 refine RK F<|an ?_
 refine LX hQ (N,O) [0] [] mn U U U ?_ ?_
 ·first|rfl|(rw [ld he]; rfl)|(rw [he]; rfl)
 ·trivial
theorem vD (d:ak) (kA:OA) (kC:Nat) (pA:OA) (pC:Nat) (nA:OA) (nC:Nat) (nd:Int) (l:List Int) (lA:OA) (lC:Nat) (hin:cK d) (hll:l.length≤1000000):
 jK Tryz.prog 14 [(vA (aZ.cells (aZ.mk (ar.mk (bB.mk kA d.ag.length kC)) (bB.mk pA d.ae.length pC) (bB.mk nA d.aq.length nC) d.a2 d.a4))),(vI nd),(vS lA l.length lC)] [(rd kA d.ag.length 9 (d.ag.map aa.cells)),(rd pA d.ae.length 7 (d.ae.map aV.cells)),(rd nA d.aq.length 3 (d.aq.map bc.cells)),(rd lA l.length 1 (l.map iC))] (fun (x:(OA)×Nat)=>(vT [(vS x.1 ((gF d nd l).length) x.2),(vI (fB d nd l))])) (fun (x:(OA)×Nat)=>True) (fun (x:(OA)×Nat)=>[(own x.1 x.2 3 1 ((gF d nd l).map iC))]):=by
 have w:=hin.kS
 have q:=hin.side
 have Aw:=hin.ku
 have AY:=hin.j7
 have AD:=hin.nk
 have Al:=hin.pk
 refine dh kr Tryz.func14 U U fun w0 Q hQ hN=>?_
 try dsimp only
 refine WS fun _ i=>fN U fun b2=>aY 2 U<|RK i<|WS fun _ N=>rP 2 [] (mc 0 U mn) ?_
 refine cX (mG d kA kC pA pC nA nC l lA lC hin hll) (bg [1,2,3,4]) U fun y4 X=>?_
 obtain ⟨Y,AC,E,Z,a,b⟩:=y4
 cases Y
 ·obtain ⟨T,he⟩:=X.2 rfl
  try dsimp only at T he
  subst T
  try dsimp only [cond_true,cond_false,List.cons_append,List.nil_append]
  refine aY 7 U<|RK N<|aj fun _ v=>WS fun _ F=>rP 2 [] mn ?_
  refine RK F<|bq U (aW fun D=>?_) (aX fun D=>?_)
  ·exact absurd D he
  refine WS fun _ G=>rP 1 [] mn ?_
  obtain ⟨B,A⟩:=pV (nd:=nd) he
  refine ec 3 1 ?_
  rw [show (own none 0 3 1 ([]:List (List Value)))=own none 0 3 1 ((gF d nd l).map iC) from by rw [hU B]; rfl]
  refine rP 2 [] mn ?_
  refine RK G<|an ?_
  refine LX hQ (none,0) [0] [] mn U U U ?_ ?_
  ·first|(rw [C.1]<;>rfl)|(rw [hU B,A]<;>rfl)
  ·trivial
 obtain ⟨he,s⟩:=X.1 rfl
 try dsimp only [cond_true,cond_false,List.cons_append,List.nil_append]
 obtain ⟨m,j⟩:=je he
 obtain ⟨A1,W⟩:=cP m
 have V:=W.len
 have A0:=hE (l:=l) V.1
 have S:=fun k (hk:k<d.ae.length)=>gD V.1 (l:=l) (fun x hx=>by have:=js j x hx; omega) hk
 refine aY 7 U<|RK N<|aj fun _ H=>WS fun _ AB=>aY 1 U<|rS (SX (ck (r:= .bool false) U U U eW) U U)<|RK AB<|bp U<|WK H<|aj fun _ J=>WS fun _ K=>rP 5 [] (mc 3 U mn) ?_
 refine df (xs:=[.tmp 25]) (cs:=[(vI nd)]) U cL g0 U U U U (by simp [Value.cells]) U U fun f=>?_
 refine rS (CL (dx.eq (ey 0 ((d.aq.length:Int)-1) ([nd]) (some ⟨f,0,none⟩) 1 sd) cz) (av (aK 0 U U (by simp [ba]) U)<|aw) U) ?_
 refine rP 1 [] mn ?_
 refine RK K<|cG U (aX fun AA=>?_) (aW fun AA=>?_)
 ·refine WS fun _ L=>?_
  obtain ⟨B,A⟩:=qn (nd:=nd) he I
  refine ec 3 1 ?_
  rw [show (own none 0 3 1 ([]:List (List Value)))=own none 0 3 1 ((gF d nd l).map iC) from by rw [hU B]; rfl]
  refine rP 2 [] mn ?_
  refine RK L<|an ?_
  refine LX hQ (none,0) [0] [] mn U U U ?_ ?_
  ·first|(rw [C.1]<;>rfl)|(rw [hU B,A]<;>rfl)
  ·trivial
 refine WK J<|aj fun _ M=>dY dw [8,9,10] [] [] [0,1,2,3,4,5,6,7,8] [] U U U U U<|eS U (MV U)<|eS U (FA 2 U fY U)<|eS U (L1 (vS nA d.aq.length nC) 4 U cA U U)<|eS U (MV U) ?_
 obtain ⟨n,hn⟩:=bk d.aq ((nd).toNat) I
 have o:=bG bc.cells hn
 refine eS U (IA ((nd).toNat) U (aO 7 U) sJ dc I I)<|eS U (mZ ((nd).toNat) 0 (bc.cells n) U cA (aO 7 U) o U dc U U) ?_
 have p:=W.eT n (aI hn)
 have C:=nz he I hn
 refine eS U (MV U)<|eS U (MV U)<|eS U (AG U)<|fx U<|bN U fun T22 O=>?_
 refine cX (k9 d kA kC pA pC nA nC Z ((bh d).length) a E (de d.ae.length l) hin sd sd sd) (bg [5,6,7,1]) U fun t y=>?_
 obtain ⟨c,g⟩:=t
 try dsimp only
 refine aB (O _ _ (aL [1,2,3,4,5,6,7,8,9]) ?_)
 refine bN U fun T27 P=>?_
 refine cX (pg d kA kC pA pC nA nC b Z a E n (dI d (bH (de d.ae.length l))) c g hin sd sd sd (by exact p) (by exact my) (by exact Nat.le_trans mF I)) (fH [6,7,8]<|av (au (n:=(bh d).length) 3 U (fV (by rw [dG]; exact s)))<|av (fT 4 U jc)<|eF 2 U U<|av (au (n:=(dI d (bH (de d.ae.length l))).length) 0 U sm)<|aw) U fun u z=>?_
 obtain ⟨e,h⟩:=u
 try dsimp only
 refine aB (P _ _ (aL [2,3,4,5,6,7,8,9,10]) ?_)
 refine bN U fun T32 R=>?_
 rw [ke,show gX d n (bH (de d.ae.length l))=gF d nd l from by rw [C.2]; exact lB S]
 refine rS (AG U)<|aB (R _ _ (aL [2,3,4,5,6,7,8,9,10]) ?_)
 refine f_ U<|KK M<|an ?_
 refine LX hQ (e,h) [0] [] mn U U U ?_ ?_
 ·first|(rw [C.1]<;>rfl)|(rw [hU B,A]<;>rfl)
 ·trivial
theorem wY (d:ak) (kA:OA) (kC:Nat) (pA:OA) (pC:Nat) (nA:OA) (nC:Nat) (hin:cK d):
 jK Tryz.prog 16 [(vA (aZ.cells (aZ.mk (ar.mk (bB.mk kA d.ag.length kC)) (bB.mk pA d.ae.length pC) (bB.mk nA d.aq.length nC) d.a2 d.a4)))] [(rd kA d.ag.length 9 (d.ag.map aa.cells)),(rd pA d.ae.length 7 (d.ae.map aV.cells)),(rd nA d.aq.length 3 (d.aq.map bc.cells))] (fun (x:(OA)×Nat)=>(vT [(vS x.1 ((iW d).length) x.2),(vI (iZ d))])) (fun (x:(OA)×Nat)=>True) (fun (x:(OA)×Nat)=>[(own x.1 x.2 3 1 ((iW d).map iC))]):=by
 have i:=hin.kS
 have e:=hin.side
 have w:=hin.ku
 have u:=hin.j7
 have t:=hin.nk
 have v:=hin.pk
 refine dh kr Tryz.func16 U U fun w0 Q hQ hN=>?_
 try dsimp only
 refine WS fun _ b=>fN U fun b2=>aY 1 U<|aY 1 U<|RK b<|WS fun _ T=>rP 1 [] (mc 0 U mn) ?_
 refine cX (j4 d kA kC pA pC nA nC hin) (qZ 1 2 3 U U U U U U) U fun y4 X=>?_
 obtain ⟨Y,s,D,F,G,J⟩:=y4
 cases Y
 ·obtain ⟨AA,he⟩:=X.2 rfl
  try dsimp only at AA he
  subst AA
  try dsimp only [cond_true,cond_false,List.cons_append,List.nil_append]
  refine aY 5 U<|RK T<|aj fun _ h=>WS fun _ K=>rP 2 [] mn ?_
  refine RK K<|bq U (aW fun AB=>?_) (aX fun AB=>?_)
  ·exact absurd AB he
  refine WS fun _ L=>rP 1 [] mn ?_
  obtain ⟨E,A⟩:=uI he
  refine ec 3 1 ?_
  rw [show (own none 0 3 1 ([]:List (List Value)))=own none 0 3 1 ((iW d).map iC) from by rw [A]; rfl]
  refine aY 1 U<|rP 1 [] mn ?_
  refine RK L<|an ?_
  refine LX hQ (none,0) [0] [] mn U U U ?_ ?_
  ·first|(rw [A,E]<;>rfl)|(rw [(kI he (by rw [← C]; exact e8 I)).1]<;>rfl)
  ·trivial
 obtain ⟨he,W⟩:=X.1 rfl
 try dsimp only [cond_true,cond_false,List.cons_append,List.nil_append]
 obtain ⟨z,c⟩:=cP he
 have V:=c.len
 have y:=hE (l:=[]) V.1
 have H: ∀ k,k<d.ae.length→((bH (de d.ae.length [])) k↔fh k):=fun k hk=>by rw [gD V.1 (l:=[]) sm hk]; simp [fh]
 have C:cq d (bH (de d.ae.length []))=cq d fh:=fg H
 refine aY 5 U<|RK T<|aj fun _ M=>WS fun _ N=>aY 1 U<|rS (SX (ck (r:= .bool false) U U U eW) U U)<|RK N<|bp U<|WK M<|aj fun _ O=>WS fun _ P=>rP 2 [] mn ?_
 refine rS (CL (q4 d kA kC pA pC nA nC F ((bh d).length) G D ([]) none 0 sd sd sd) (fH [4,5,6,0]<|av (iu _ _)<|aw) U) ?_
 refine cX (j6 d kA kC pA pC nA nC J F G D (de d.ae.length ([])) hin sd sd sd sd) (fH [4,5,6]<|av (au (n:=(bh d).length) 1 U (fV (by rw [dG]; exact W)))<|av (fT 2 U jc)<|eF 0 U U<|aw) U fun f j=>?_
 obtain ⟨o,p⟩:=f
 try dsimp only
 refine rP 2 [] mn ?_
 refine RK P<|cG U (aR fun B=>?_) (aS fun B=>?_)
 ·refine WS fun _ R=>?_
  obtain ⟨E,A⟩:=sB he (fun q=>by rw [C,q] at B; simp at B)
  refine ec 3 1 ?_
  rw [show (own none 0 3 1 ([]:List (List Value)))=own none 0 3 1 ((iW d).map iC) from by rw [A]; rfl]
  refine aY 1 U<|rP 1 [] mn ?_
  refine RK R<|an ?_
  refine LX hQ (none,0) [0] [] mn U U U ?_ ?_
  ·first|(rw [A,E]<;>rfl)|(rw [(kI he (by rw [← C]; exact e8 I)).1]<;>rfl)
  ·trivial
 refine WK O<|WS fun _ S=>rP 2 [] mn ?_
 refine rS (CL (q4 d kA kC pA pC nA nC F ((bh d).length) G D ([]) none 0 sd sd sd) (fH [5,6,7,1]<|av (iu _ _)<|aw) U) ?_
 refine cX (qX d kA kC pA pC nA nC J F G D (de d.ae.length ([])) hin sd sd sd sd) (fH [5,6,7]<|av (au (n:=(bh d).length) 2 U (fV (by rw [dG]; exact W)))<|av (fT 3 U jc)<|eF 1 U U<|aw) U fun g m=>?_
 obtain ⟨Z,a⟩:=g
 try dsimp only
 refine rP 1 [] mn ?_
 rw [show iK d (bH (de d.ae.length []))=iW d from by rw [(kI he (by rw [← C]; exact e8 I)).2]; exact ma H]
 refine rP 1 [] mn ?_
 refine RK S<|an ?_
 refine LX hQ (Z,a) [0] [] mn U U U ?_ ?_
 ·first|(rw [A,E]<;>rfl)|(rw [(kI he (by rw [← C]; exact e8 I)).1]<;>rfl)
 ·trivial
theorem vw (d:ak) (kA:OA) (kC:Nat) (pA:OA) (pC:Nat) (nA:OA) (nC:Nat) (hin:cK d):
 jK Tryz.prog 18 [(vA (aZ.cells (aZ.mk (ar.mk (bB.mk kA d.ag.length kC)) (bB.mk pA d.ae.length pC) (bB.mk nA d.aq.length nC) d.a2 d.a4)))] [(rd kA d.ag.length 9 (d.ag.map aa.cells)),(rd pA d.ae.length 7 (d.ae.map aV.cells)),(rd nA d.aq.length 3 (d.aq.map bc.cells))] (fun (x:(OA)×Nat)=>(vT [(vS x.1 ((iH d).length) x.2),(vI (br d))])) (fun (x:(OA)×Nat)=>True) (fun (x:(OA)×Nat)=>[(own x.1 x.2 3 1 ((iH d).map iC))]):=by
 have u:=hin.kS
 have o:=hin.side
 have AY:=hin.ku
 have AC:=hin.j7
 have y:=hin.nk
 have AD:=hin.pk
 refine dh kr Tryz.func18 U U fun w0 Q hQ hN=>?_
 try dsimp only
 refine WS fun _ l=>fN U fun b2=>aY 2 U<|RK l<|WS fun _ AA=>rP 1 [] (mc 0 U mn) ?_
 refine cX (j4 d kA kC pA pC nA nC hin) (qZ 1 2 3 U U U U U U) U fun y4 Z=>?_
 obtain ⟨a,w,H,b,c,e⟩:=y4
 cases a
 ·obtain ⟨Y,he⟩:=Z.2 rfl
  try dsimp only at Y he
  subst Y
  try dsimp only [cond_true,cond_false,List.cons_append,List.nil_append]
  refine aY 5 U<|RK AA<|aj fun _ t=>WS fun _ AB=>rP 2 [] mn ?_
  refine RK AB<|bq U (aW fun E=>?_) (aX fun E=>?_)
  ·exact absurd E he
  refine WS fun _ J=>rP 1 [] mn ?_
  refine ec 3 1 ?_
  rw [show (own none 0 3 1 ([]:List (List Value)))=own none 0 3 1 ((iH d).map iC) from by rw [k7 he]; rfl]
  refine rP 2 [] mn ?_
  refine RK J<|an ?_
  refine LX hQ (none,0) [0] [] mn U U U ?_ ?_
  ·first|(rw [k7 he]<;>rfl)|(rw [he]<;>rfl)
  ·trivial
 obtain ⟨he,s⟩:=Z.1 rfl
 try dsimp only [cond_true,cond_false,List.cons_append,List.nil_append]
 obtain ⟨Al,m⟩:=cP he
 have G:=m.len
 refine aY 5 U<|RK AA<|aj fun _ K=>WS fun _ L=>aY 1 U<|rS (SX (ck (r:= .bool false) U U U eW) U U)<|RK L<|bp U<|WK K<|WS fun _ M=>aY 1 U<|RK M<|aj fun _ N=>WS fun _ O=>rP 4 [] (mc 3 U mn) ?_
 refine RK O<|ax<|ep 3 1 ?_
 have B:(0≤d.ae.length):=by exact Nat.zero_le _
 refine bu (ι:={z:Nat×(OA)×Nat // (z.1≤d.ae.length)}) [1,2,3,4,17,18] [1,2,3,4,5,6,7] U U (fun z=>[(6,(vS z.1.2.1 ((bZ z.1.1 (fun i=>cy d (cW fh i))).length) z.1.2.2)),(19,(vI (z.1.1:Int)))]) (fun z=>[(own z.1.2.1 z.1.2.2 3 1 ((bZ z.1.1 (fun i=>cy d (cW fh i))).map iC))]) (fun _=>rfl) (fun _=>rfl) (fun z=>d.ae.length-z.1.1) ⟨(0,none,0),B⟩ (a3 U) (aL [1,2,3,4,5,6,7,0]) ?_
 clear B
 rintro ⟨⟨j,la,lc⟩,F⟩ J20 C
 try dsimp only at F
 try dsimp only
 refine WS fun _ P=>rP 1 [] mn ?_
 refine RK P<|aj fun _ R=>bq U (aS fun k=>?_) (aR fun k=>?_)
 ·refine bj<|ab<|ab<|ay<|KK N<|WS fun _ V=>?_
  rw [show bZ j (fun i=>cy d (cW fh i))=iH d from by rw [nf he,show j=d.ae.length by omega]]
  refine aY 1 U<|rP 2 [] mn ?_
  refine RK V<|an ?_
  refine LX hQ (la,lc) [7] [] mn U U U ?_ ?_
  ·first|(rw [k7 he]<;>rfl)|(rw [he]<;>rfl)
  ·trivial
 refine WK R<|aj fun _ D=>ax<|WS fun _ S=>aY 2 U<|RK S<|WS fun _ T=>rP 3 [] mn ?_
 refine df (xs:=[.tmp 24]) (cs:=[(vI (j:Int))]) U cL g0 U U U U (by simp [Value.cells]) U U fun g=>?_
 refine rS (CL (q4 d kA kC pA pC nA nC b ((bh d).length) c H ([(j:Int)]) (some ⟨g,0,none⟩) 1 I (by intro x hx; simp only [cu] at hx; omega) sm) (fH [5,6,7,1]<|av (aK 0 U U (by simp [ba]) U)<|aw) U) ?_
 refine rS (CL (nx d kA kC pA pC nA nC e b c H (de d.ae.length ([(j:Int)])) hin sd sd sd (by exact hE G.1)) (fH [5,6,7]<|av (au (n:=(bh d).length) 2 U (fV (by rw [dG]; exact s)))<|av (fT 3 U jc)<|eF 1 U U<|aw) U) ?_
 refine RK T<|bq U (aS fun A=>?_) (aR fun A=>?_)
 ·refine cf<|aF<|KK D<|ai<|rP 2 [] mn ?_
  refine aB ?_
  rw [show (bZ j (fun i=>cy d (cW fh i)))=(bZ (j+1) (fun i=>cy d (cW fh i))) from (fP (show ¬ cy d (cW fh j) from fun q=>A ((nG G.1 I).2 q))).symm]
  have X:(vI (((j+1):Nat):Int))=(vI ((j:Int)+1)):=by exact cI I
  refine aU (C ⟨((j+1),la,lc),(by first|omega|(simp only []; omega))⟩ _ _ _ U os (bL 7<|aN U X<|cE.nil _) (aL [1,2,3,4,5,6,7,8]))
 refine ai<|rP 2 [] mn ?_
 refine df (xs:=[.tmp 29]) (cs:=[(vI (j:Int))]) U cL g0 U U U U (by simp [Value.cells]) U U fun v=>?_
 refine dF (es2:=(List.map iC (bZ (j+1) (fun i=>cy d (cW fh i))))) (m':=(bZ (j+1) (fun i=>cy d (cW fh i))).length) 9 U U U mA U U sm (aK (es:=List.map iC [(j:Int)]) 0 U U (by simp [ba]) U) (gW _) (by have:=dD (n:=j) (p:=fun i=>cy d (cW fh i)); omega) (by have:=dD (n:=j) (p:=fun i=>cy d (cW fh i)); simp only [maxLen]; omega) (by rw [fj (p:=fun i=>cy d (cW fh i)) (show cy d (cW fh j) from (nG G.1 I).1 A)]; simp) sm U fun f h=>?_
 try dsimp only
 refine aY 1 U<|aB<|aF<|KK D<|ai<|rP 2 [] mn ?_
 refine aB ?_
 have W:(vI (((j+1):Nat):Int))=(vI ((j:Int)+1)):=by exact cI I
 refine aU (C ⟨((j+1),f,h),(by first|omega|(simp only []; omega))⟩ _ _ _ U os (bL 7<|aN U W<|cE.nil _) (aL [2,3,4,5,6,7,8,9]))
end
section
open Go.RowKit
theorem qy (d:ak) (kA:OA) (kC:Nat) (pA:OA) (pC:Nat) (nA:OA) (nC:Nat) (a k:Int) (hin:cK d):
 dx Tryz.prog 10 [(vA (aZ.cells (aZ.mk (ar.mk (bB.mk kA d.ag.length kC)) (bB.mk pA d.ae.length pC) (bB.mk nA d.aq.length nC) d.a2 d.a4))),(vI a),(vI k)] [(rd kA d.ag.length 9 (d.ag.map aa.cells)),(rd pA d.ae.length 7 (d.ae.map aV.cells)),(rd nA d.aq.length 3 (d.aq.map bc.cells))] (vT [(vI (g_ d a k)),(vI (iD d a k))]):=by
 have j:=hin.kS
 have h:=hin.side
 have v:=hin.ku
 have q:=hin.j7
 have p:=hin.nk
 have u:=hin.pk
 refine bD kr Tryz.func10 U U fun w0 Q hQ hN=>?_
 try dsimp only
 refine WS fun _ g=>fN U fun b2=>aY 2 U<|RK g<|WS fun _ T=>rP 1 [] (mc 0 U mn) ?_
 refine cX (j4 d kA kC pA pC nA nC hin) (qZ 1 2 3 U U U U U U) U fun y4 Z=>?_
 obtain ⟨b,l,m,z,AC,AB⟩:=y4
 cases b
 ·obtain ⟨AA,he⟩:=Z.2 rfl
  try dsimp only at AA he
  subst AA
  try dsimp only [cond_true,cond_false,List.cons_append,List.nil_append]
  refine aY 5 U<|RK T<|aj fun _ i=>WS fun _ K=>rP 2 [] mn ?_
  refine RK K<|bq U (aW fun H=>?_) (aX fun H=>?_)
  ·exact absurd H he
  refine WS fun _ L=>rP 3 [] mn ?_
  refine RK L<|an<|Q2 hQ U U U U ?_
  first|(have e:=gN (a:=a) (k:=k) he; rw [e.1,e.2.2]<;>rfl)|(have e:=gM (a:=a) (k:=k) he I; rw [e.1,e.2.2]<;>rfl)|(have e:=gC (k:=k) he I hp; rw [e.1,e.2.2]; have B:tm=eX d.ag _ k:=(by rw [E] at A; have C:=gn A; rw [Int.toNat_of_nonneg I] at C; exact C); rw [B]<;>rfl)
 obtain ⟨he,J⟩:=Z.1 rfl
 try dsimp only [cond_true,cond_false,List.cons_append,List.nil_append]
 obtain ⟨y,s⟩:=cP he
 have x:=dG (d:=d)
 try dsimp only at J
 refine aY 5 U<|RK T<|aj fun _ M=>WS fun _ N=>aY 1 U<|rS (SX (ck (r:= .bool false) U U U eW) U U)<|RK N<|bp U<|WK M<|aj fun _ O=>WS fun _ G=>rP 5 [] (mc 3 U mn) ?_
 refine df (xs:=[.tmp 22]) (cs:=[(vI a)]) U cL g0 U U U U (by simp [Value.cells]) U U fun c=>?_
 refine rS (CL (dx.eq (ey 0 ((d.ae.length:Int)-1) ([a]) (some ⟨c,0,none⟩) 1 sd) cz) (av (aK 0 U U (by simp [ba]) U)<|aw) U) ?_
 refine rP 2 [] mn ?_
 refine ct (t:=26) U (aX fun V=>?_) (aW fun V=>?_)
 ·refine aY 10 U<|RK G<|aT U<|WS fun _ P=>rP 2 [] mn ?_
  refine RK P<|an<|Q2 hQ U U U U ?_
  first|(have e:=gN (a:=a) (k:=k) he; rw [e.1,e.2.2]<;>rfl)|(have e:=gM (a:=a) (k:=k) he I; rw [e.1,e.2.2]<;>rfl)|(have e:=gC (k:=k) he I hp; rw [e.1,e.2.2]; have B:tm=eX d.ag _ k:=(by rw [E] at A; have C:=gn A; rw [Int.toNat_of_nonneg I] at C; exact C); rw [B]<;>rfl)
 refine rP 6 [] (mc 4 U mn) ?_
 refine df (xs:=[.tmp 32]) (cs:=[(vI k)]) U cL g0 U U U U (by simp [Value.cells]) U U fun f=>?_
 refine rS (CL (dx.eq (ey 0 ((d.ag.length:Int)-1) ([k]) (some ⟨f,0,none⟩) 1 sd) cz) (av (aK 0 U U (by simp [ba]) U)<|aw) U) ?_
 refine rP 2 [] mn ?_
 refine RK G<|cG U (aX fun W=>?_) (aW fun W=>?_)
 ·refine WS fun _ R=>rP 2 [] mn ?_
  refine RK R<|an<|Q2 hQ U U U U ?_
  first|(have e:=gN (a:=a) (k:=k) he; rw [e.1,e.2.2]<;>rfl)|(have e:=gM (a:=a) (k:=k) he I; rw [e.1,e.2.2]<;>rfl)|(have e:=gC (k:=k) he I hp; rw [e.1,e.2.2]; have B:tm=eX d.ag _ k:=(by rw [E] at A; have C:=gn A; rw [Int.toNat_of_nonneg I] at C; exact C); rw [B]<;>rfl)
 refine WK O<|WS fun _ S=>aY 1 U<|rS (SX (cV U U) U U)<|rP 3 [] (mc 2 U mn) ?_
 obtain ⟨ms,F⟩:=bk (bh d) ((a).toNat) I
 obtain ⟨msa,D⟩:=bk AB ((a).toNat) I
 have X:(List.zipWith jD (bh d) AB)[(a).toNat]? =some (jD ms msa):=rm F D
 refine rS (IA ((a).toNat) U (au (n:=(bh d).length) 3 U (fV (by rw [dG]; exact J))) xC dc I I) ?_
 refine rS (g5 ((a).toNat) 0 (vS msa.1 ms.length msa.2) U cA (au (n:=(bh d).length) 3 U (fV (by rw [dG]; exact J))) X U dc U) ?_
 have hp:d.ae[a.toNat]? =some (d.ae[a.toNat]'I):=du _
 have E:=nH hp F
 have o:ms.length=d.ag.length:=by rw [E]; exact fJ
 refine rP 1 [] mn ?_
 obtain ⟨tm,A⟩:=bk ms ((k).toNat) I
 have Y:=bG iC A
 refine rS (IA ((k).toNat) U (show j3 _ (rd msa.1 ms.length 1 (ms.map iC)).holds from (fun w hw=>(fT 4 U jc) w hw _ (hH F D (by simp [kl])))) cL dc I I)<|rS (g5 ((k).toNat) 0 (vI tm) U cA (show j3 _ (rd msa.1 ms.length 1 (ms.map iC)).holds from (fun w hw=>(fT 4 U jc) w hw _ (hH F D (by simp [kl])))) Y U dc U)<|rP 2 [] mn ?_
 refine RK S<|an<|Q2 hQ U U U U ?_
 first|(have e:=gN (a:=a) (k:=k) he; rw [e.1,e.2.2]<;>rfl)|(have e:=gM (a:=a) (k:=k) he I; rw [e.1,e.2.2]<;>rfl)|(have e:=gC (k:=k) he I hp; rw [e.1,e.2.2]; have B:tm=eX d.ag _ k:=(by rw [E] at A; have C:=gn A; rw [Int.toNat_of_nonneg I] at C; exact C); rw [B]<;>rfl)
end
section
open Go.RowKit
theorem eC (n lo hi:Int):
 dx Tryz.prog 71 [(vI n),(vI lo),(vI hi)] [] (vB (decide (lo≤n∧n≤hi))):=by
 refine bD kr Tryz.func71 U U fun D Q hQ hN=>?_
 try dsimp only
 refine WS fun _ B=>aY 1 U<|RK B<|WS fun _ A=>rP 4 [] mn ?_
 refine ct (t:=10) U (aR fun C=>?_) (aS fun C=>?_)
 ·refine rP 5 [] mn ?_
  refine RK A<|an<|Q1 hQ U U U ?_
  exact cB (dO.2 I)
 refine rP 5 [] mn ?_
 refine RK A<|an<|Q1 hQ U U U ?_
 exact cB (aQ I).symm
theorem ta (d:ak) (kA:OA) (kC:Nat) (pA:OA) (pC:Nat) (nA:OA) (nC:Nat) (hraw:fQ d):
 dx Tryz.prog 22 [(vA (aZ.cells (aZ.mk (ar.mk (bB.mk kA d.ag.length kC)) (bB.mk pA d.ae.length pC) (bB.mk nA d.aq.length nC) d.a2 d.a4)))] [(rd kA d.ag.length 9 (d.ag.map aa.cells)),(rd pA d.ae.length 7 (d.ae.map aV.cells)),(rd nA d.aq.length 3 (d.aq.map bc.cells))] (vB (decide (fI d))):=by
 have G:=hraw.kS
 have F:=hraw.ku
 have E:=hraw.j7
 refine bD kr Tryz.func22 U U fun AA Q hQ hN=>?_
 try dsimp only
 refine WS fun _ B=>fN U fun H=>aY 1 U<|RK B<|WS fun _ A=>aY 1 U<|rS (LP (ar.cells (ar.mk (bB.mk kA d.ag.length kC))) 0 U cA U U U)<|rS (CL (ve d.ag kA kC) (bg [1]) U)<|rP 1 [] mn ?_
 refine ct (t:=6) U (aR fun C=>?_) (aS fun C=>?_)
 ·refine rP 12 [] mn ?_
  refine RK A<|an<|Q1 hQ U U U ?_
  first|exact cB (dm (by unfold fI; omega)).symm|exact cB (dO.2 (by unfold fI; omega))
 refine rP 6 [] (mc 0 U mn) ?_
 refine ct (t:=12) U (aR fun D=>?_) (aS fun D=>?_)
 ·refine rP 6 [] mn ?_
  refine RK A<|an<|Q1 hQ U U U ?_
  first|exact cB (dm (by unfold fI; omega)).symm|exact cB (dO.2 (by unfold fI; omega))
 refine rP 6 [] (mc 0 U mn) ?_
 refine RK A<|an<|Q1 hQ U U U ?_
 first|exact cB (dm (by unfold fI; omega)).symm|exact cB (dO.2 (by unfold fI; omega))
theorem uE (d:ak) (kA:OA) (kC:Nat) (pA:OA) (pC:Nat) (nA:OA) (nC:Nat) (hin:cK d) (htr:a_ d.ag=true):
 dx Tryz.prog 45 [(vA (aZ.cells (aZ.mk (ar.mk (bB.mk kA d.ag.length kC)) (bB.mk pA d.ae.length pC) (bB.mk nA d.aq.length nC) d.a2 d.a4)))] [(rd kA d.ag.length 9 (d.ag.map aa.cells)),(rd pA d.ae.length 7 (d.ae.map aV.cells)),(rd nA d.aq.length 3 (d.aq.map bc.cells))] (vB (decide (dQ d))):=by
 have BU:=hin.kS
 have BQ:=hin.side
 have Bs:=hin.ku
 have BZ:=hin.j7
 have BL:=hin.nk
 have BO:=hin.pk
 have Bu:=cO htr
 have BT:=dy htr
 refine bD kr Tryz.func45 U U fun w0 Q hQ hN=>?_
 try dsimp only
 refine WS fun _ BC=>fN U fun b2=>aY 1 U<|RK BC<|aj fun _ BD=>WS fun _ L=>rP 5 [] (mc 0 U mn) ?_
 refine ct (t:=11) U (aR fun A0=>?_) (aS fun A0=>?_)
 ·refine aY 19 U<|RK L<|aT U<|WS fun _ BE=>rP 1 [] mn ?_
  refine RK BE<|an<|Q1 hQ U U U ?_
  first|exact cB (aQ fun q=>by have A:=q.len; omega).symm|exact cB (aQ fun q=>by exact absurd q.b1 (by simpa using B)).symm|exact cB (aQ fun q=>by have A:=q.dC; omega).symm|exact cB (aQ fun q=>by have A:=q.post i p hp; unfold cg at A; first|omega|exact absurd A.2.2.1 (by simpa using E)|(rw [cb I hy] at A; omega)).symm|exact cB (aQ fun q=>by have A:=q.eT n (aI hn); unfold bw at A; omega).symm|exact cB (dm (bI I (by simpa using B) I D I (ea (P:=bw d.ag) I C))).symm
 refine rP 6 [] (mc 0 U mn) ?_
 refine ct (t:=17) U (aR fun A1=>?_) (aS fun A1=>?_)
 ·refine aY 13 U<|RK L<|aT U<|WS fun _ BF=>rP 1 [] mn ?_
  refine RK BF<|an<|Q1 hQ U U U ?_
  first|exact cB (aQ fun q=>by have A:=q.len; omega).symm|exact cB (aQ fun q=>by exact absurd q.b1 (by simpa using B)).symm|exact cB (aQ fun q=>by have A:=q.dC; omega).symm|exact cB (aQ fun q=>by have A:=q.post i p hp; unfold cg at A; first|omega|exact absurd A.2.2.1 (by simpa using E)|(rw [cb I hy] at A; omega)).symm|exact cB (aQ fun q=>by have A:=q.eT n (aI hn); unfold bw at A; omega).symm|exact cB (dm (bI I (by simpa using B) I D I (ea (P:=bw d.ag) I C))).symm
 refine aY 1 U<|rS (LP (ar.cells (ar.mk (bB.mk kA d.ag.length kC))) 0 U cA U U U)<|rP 1 [] mn ?_
 refine rS (LP (aG.cells d.a2) 0 U cA U U U) ?_
 refine rS (CL (oh d.ag kA kC d.a2 sd sd) (bg [1]) U) ?_
 refine rP 3 [] mn ?_
 refine ct (t:=25) U (aX fun B=>?_) (aW fun B=>?_)
 ·refine aY 5 U<|RK L<|aT U<|WS fun _ BG=>rP 1 [] mn ?_
  refine RK BG<|an<|Q1 hQ U U U ?_
  first|exact cB (aQ fun q=>by have A:=q.len; omega).symm|exact cB (aQ fun q=>by exact absurd q.b1 (by simpa using B)).symm|exact cB (aQ fun q=>by have A:=q.dC; omega).symm|exact cB (aQ fun q=>by have A:=q.post i p hp; unfold cg at A; first|omega|exact absurd A.2.2.1 (by simpa using E)|(rw [cb I hy] at A; omega)).symm|exact cB (aQ fun q=>by have A:=q.eT n (aI hn); unfold bw at A; omega).symm|exact cB (dm (bI I (by simpa using B) I D I (ea (P:=bw d.ag) I C))).symm
 refine gJ 2 [] (mc 0 U mn) U<|rS (CL (eC d.a4 0 400000) (aw) U)<|rP 2 [] mn ?_
 refine RK L<|cG U (aX fun A2=>?_) (aW fun A2=>?_)
 ·refine WS fun _ BH=>rP 1 [] mn ?_
  refine RK BH<|an<|Q1 hQ U U U ?_
  first|exact cB (aQ fun q=>by have A:=q.len; omega).symm|exact cB (aQ fun q=>by exact absurd q.b1 (by simpa using B)).symm|exact cB (aQ fun q=>by have A:=q.dC; omega).symm|exact cB (aQ fun q=>by have A:=q.post i p hp; unfold cg at A; first|omega|exact absurd A.2.2.1 (by simpa using E)|(rw [cb I hy] at A; omega)).symm|exact cB (aQ fun q=>by have A:=q.eT n (aI hn); unfold bw at A; omega).symm|exact cB (dm (bI I (by simpa using B) I D I (ea (P:=bw d.ag) I C))).symm
 refine WK BD<|aj fun _ BJ=>WS fun _ AA=>rP 1 [] mn ?_
 refine RK AA<|ax ?_
 have G:(0≤d.ae.length)∧(gh d 0):=by exact ⟨Nat.zero_le _,mH⟩
 refine bu (ι:={z:Nat // (z≤d.ae.length)∧(gh d z)}) [1] [0,1,2,3] U U (fun z=>[(3,(vI (z.1:Int)))]) (fun z=>[]) (fun _=>rfl) (fun _=>rfl) (fun z=>d.ae.length-z.1) ⟨0,G⟩ (a3 U) (aL [0,1,2,3]) ?_
 clear G
 rintro ⟨i,⟨BK,D⟩⟩ J11 M
 try dsimp only
 refine aj fun _ V=>WS fun _ W=>rP 5 [] (mc 0 U mn) ?_
 refine RK W<|bq U (aS fun A7=>?_) (aR fun A7=>?_)
 ·refine bj<|ab<|ab<|ay<|KK BJ<|aj fun _ l=>WS fun _ o=>rP 1 [] mn ?_
  refine RK o<|ax ?_
  have G:(0≤d.aq.length)∧(∀ (j:Nat) y,j<0→d.aq[j]? =some y→bw d.ag y):=by exact ⟨Nat.zero_le _,fun j y hj=>absurd hj (Nat.not_lt_zero _)⟩
  refine bu (ι:={z:Nat // (z≤d.aq.length)∧(∀ (j:Nat) y,j<z→d.aq[j]? =some y→bw d.ag y)}) [1] [0,1,2,3] U U (fun z=>[(5,(vI (z.1:Int)))]) (fun z=>[]) (fun _=>rfl) (fun _=>rfl) (fun z=>d.aq.length-z.1) ⟨0,G⟩ (a3 U) (aL [0,1,2,3]) ?_
  clear G
  rintro ⟨m,⟨A6,C⟩⟩ J33 T
  try dsimp only
  refine aj fun _ r=>WS fun _ s=>rP 5 [] (mc 0 U mn) ?_
  refine RK s<|bq U (aS fun BB=>?_) (aR fun BB=>?_)
  ·refine bj<|ab<|ab<|ay<|KK l<|WS fun _ AD=>rP 1 [] mn ?_
   refine RK AD<|an<|Q1 hQ U U U ?_
   first|exact cB (aQ fun q=>by have A:=q.len; omega).symm|exact cB (aQ fun q=>by exact absurd q.b1 (by simpa using B)).symm|exact cB (aQ fun q=>by have A:=q.dC; omega).symm|exact cB (aQ fun q=>by have A:=q.post i p hp; unfold cg at A; first|omega|exact absurd A.2.2.1 (by simpa using E)|(rw [cb I hy] at A; omega)).symm|exact cB (aQ fun q=>by have A:=q.eT n (aI hn); unfold bw at A; omega).symm|exact cB (dm (bI I (by simpa using B) I D I (ea (P:=bw d.ag) I C))).symm
  refine WK r<|aj fun _ u=>ax<|WS fun _ v=>rP 3 [] (mc 0 U mn) ?_
  obtain ⟨n,hn⟩:=bk d.aq m I
  have BN:=bG bc.cells hn
  refine rS (IA m U (aO 3 U) sJ dc I I)<|rS (mZ m 0 (bc.cells n) U cA (aO 3 U) BN U dc U U)<|AL U xR fun BY=>gH U yZ U<|RK v<|WS fun _ H=>?_
  have BV:=BL n (aI hn)
  refine gJ 7 [0,1] (mc 0 U (mc 1 U mn)) U<|rS (CL (eC n.ao 0 ((d.ag.length:Int)-1)) (aw) U)<|rP 2 [] mn ?_
  refine ct (t:=111) U (aX fun O=>?_) (aW fun O=>?_)
  ·refine aY 12 U<|RK H<|aT U<|WS fun _ w=>rP 1 [] mn ?_
   refine RK w<|an<|Q1 hQ U U U ?_
   first|exact cB (aQ fun q=>by have A:=q.len; omega).symm|exact cB (aQ fun q=>by exact absurd q.b1 (by simpa using B)).symm|exact cB (aQ fun q=>by have A:=q.dC; omega).symm|exact cB (aQ fun q=>by have A:=q.post i p hp; unfold cg at A; first|omega|exact absurd A.2.2.1 (by simpa using E)|(rw [cb I hy] at A; omega)).symm|exact cB (aQ fun q=>by have A:=q.eT n (aI hn); unfold bw at A; omega).symm|exact cB (dm (bI I (by simpa using B) I D I (ea (P:=bw d.ag) I C))).symm
  refine gJ 2 [] (mc 0 U mn) U<|rS (SX (eJ (m:=n.Kind) U U sK mY (dr (by first|assumption|omega))) U U)<|rS (CL (eC n.Kind 1 3) (aw) U)<|rP 3 [] mn ?_
  refine ct (t:=118) U (aX fun R=>?_) (aW fun R=>?_)
  ·refine aY 5 U<|RK H<|aT U<|WS fun _ x=>rP 1 [] mn ?_
   refine RK x<|an<|Q1 hQ U U U ?_
   first|exact cB (aQ fun q=>by have A:=q.len; omega).symm|exact cB (aQ fun q=>by exact absurd q.b1 (by simpa using B)).symm|exact cB (aQ fun q=>by have A:=q.dC; omega).symm|exact cB (aQ fun q=>by have A:=q.post i p hp; unfold cg at A; first|omega|exact absurd A.2.2.1 (by simpa using E)|(rw [cb I hy] at A; omega)).symm|exact cB (aQ fun q=>by have A:=q.eT n (aI hn); unfold bw at A; omega).symm|exact cB (dm (bI I (by simpa using B) I D I (ea (P:=bw d.ag) I C))).symm
  refine gJ 2 [] (mc 0 U mn) U<|rS (CL (eC n.e9 0 36000) (aw) U)<|rP 2 [] mn ?_
  refine RK H<|bq U (aW fun S=>?_) (aX fun S=>?_)
  ·refine cf<|aF<|KK u<|ai<|rP 3 [] mn ?_
   refine aB ?_
   have Aw:(vI (((m+1):Nat):Int))=(vI ((m:Int)+1)):=by exact cI I
   refine aU (T ⟨(m+1),⟨I,qT (P:=fun _ y=>bw d.ag y) C hn (by unfold bw; omega)⟩⟩ _ _ _ U os (cE.cons U<|aN U Aw<|cE.nil _) (aL [1,2,3,4]))
  refine WS fun _ AC=>rP 1 [] mn ?_
  refine RK AC<|an<|Q1 hQ U U U ?_
  first|exact cB (aQ fun q=>by have A:=q.len; omega).symm|exact cB (aQ fun q=>by exact absurd q.b1 (by simpa using B)).symm|exact cB (aQ fun q=>by have A:=q.dC; omega).symm|exact cB (aQ fun q=>by have A:=q.post i p hp; unfold cg at A; first|omega|exact absurd A.2.2.1 (by simpa using E)|(rw [cb I hy] at A; omega)).symm|exact cB (aQ fun q=>by have A:=q.eT n (aI hn); unfold bw at A; omega).symm|exact cB (dm (bI I (by simpa using B) I D I (ea (P:=bw d.ag) I C))).symm
 refine WK V<|aj fun _ N=>ax<|WS fun _ X=>rP 3 [] (mc 0 U mn) ?_
 obtain ⟨p,hp⟩:=bk d.ae i I
 have BP:=bG aV.cells hp
 refine rS (IA i U (aO 2 U) m1 dc I I)<|rS (mZ i 0 (aV.cells p) U cA (aO 2 U) BP U dc U U)<|AL U uc fun BX=>gH U vk U<|RK X<|aj fun _ F=>eD dw 47 kr ?_
 have BW:=BO p (aI hp)
 refine kU 2 [] (mc 0 U mn) U<|dS (CL (eC p.Id 0 9999) (aw) U)<|dP 2 [] mn ?_
 refine dT (t:=47) U (aX fun A3=>?_) (aW fun A3=>?_)
 ·refine gf 42 U<|cR<|RK F<|aT U<|WS fun _ Y=>rP 1 [] mn ?_
  refine RK Y<|an<|Q1 hQ U U U ?_
  first|exact cB (aQ fun q=>by have A:=q.len; omega).symm|exact cB (aQ fun q=>by exact absurd q.b1 (by simpa using B)).symm|exact cB (aQ fun q=>by have A:=q.dC; omega).symm|exact cB (aQ fun q=>by have A:=q.post i p hp; unfold cg at A; first|omega|exact absurd A.2.2.1 (by simpa using E)|(rw [cb I hy] at A; omega)).symm|exact cB (aQ fun q=>by have A:=q.eT n (aI hn); unfold bw at A; omega).symm|exact cB (dm (bI I (by simpa using B) I D I (ea (P:=bw d.ag) I C))).symm
 refine dP 3 [] mn ?_
 refine lR (t:=50) U (aS fun A4=>?_) (aR fun A4=>?_)
 ·refine kU 15 [] (mc 0 U mn) U<|dS (SX (eJ (m:=p.Kind) U U sK mY (dr (by first|assumption|omega))) U U)<|dS (CL (eC p.Kind 1 3) (aw) U)<|dP 3 [] mn ?_
  refine dT (t:=70) U (aX fun AB=>?_) (aW fun AB=>?_)
  ·refine gf 19 U<|cR<|RK F<|aT U<|WS fun _ f=>rP 1 [] mn ?_
   refine RK f<|an<|Q1 hQ U U U ?_
   first|exact cB (aQ fun q=>by have A:=q.len; omega).symm|exact cB (aQ fun q=>by exact absurd q.b1 (by simpa using B)).symm|exact cB (aQ fun q=>by have A:=q.dC; omega).symm|exact cB (aQ fun q=>by have A:=q.post i p hp; unfold cg at A; first|omega|exact absurd A.2.2.1 (by simpa using E)|(rw [cb I hy] at A; omega)).symm|exact cB (aQ fun q=>by have A:=q.eT n (aI hn); unfold bw at A; omega).symm|exact cB (dm (bI I (by simpa using B) I D I (ea (P:=bw d.ag) I C))).symm
  refine gf 1 U<|dS (LP (ar.cells (ar.mk (bB.mk kA d.ag.length kC))) 1 U cA U U U)<|dP 1 [] mn ?_
  refine dS (LP (aG.cells p.cp) 0 U cA U U U) ?_
  refine dS (CL (oh d.ag kA kC p.cp sd sd) (bg [2]) U) ?_
  refine dP 3 [] mn ?_
  refine dT (t:=78) U (aX fun E=>?_) (aW fun E=>?_)
  ·refine gf 11 U<|cR<|RK F<|aT U<|WS fun _ g=>rP 1 [] mn ?_
   refine RK g<|an<|Q1 hQ U U U ?_
   first|exact cB (aQ fun q=>by have A:=q.len; omega).symm|exact cB (aQ fun q=>by exact absurd q.b1 (by simpa using B)).symm|exact cB (aQ fun q=>by have A:=q.dC; omega).symm|exact cB (aQ fun q=>by have A:=q.post i p hp; unfold cg at A; first|omega|exact absurd A.2.2.1 (by simpa using E)|(rw [cb I hy] at A; omega)).symm|exact cB (aQ fun q=>by have A:=q.eT n (aI hn); unfold bw at A; omega).symm|exact cB (dm (bI I (by simpa using B) I D I (ea (P:=bw d.ag) I C))).symm
  refine kU 2 [] (mc 0 U mn) U<|dS (CL (eC p.gL 0 36000) (aw) U)<|dP 3 [] mn ?_
  refine dT (t:=84) U (aX fun J=>?_) (aW fun J=>?_)
  ·refine gf 5 U<|cR<|RK F<|aT U<|WS fun _ h=>rP 1 [] mn ?_
   refine RK h<|an<|Q1 hQ U U U ?_
   first|exact cB (aQ fun q=>by have A:=q.len; omega).symm|exact cB (aQ fun q=>by exact absurd q.b1 (by simpa using B)).symm|exact cB (aQ fun q=>by have A:=q.dC; omega).symm|exact cB (aQ fun q=>by have A:=q.post i p hp; unfold cg at A; first|omega|exact absurd A.2.2.1 (by simpa using E)|(rw [cb I hy] at A; omega)).symm|exact cB (aQ fun q=>by have A:=q.eT n (aI hn); unfold bw at A; omega).symm|exact cB (dm (bI I (by simpa using B) I D I (ea (P:=bw d.ag) I C))).symm
  refine kU 2 [] (mc 0 U mn) U<|dS (CL (eC p.jM 1 1000) (aw) U)<|dP 2 [] mn ?_
  refine cR<|RK F<|bq U (aW fun K=>?_) (aX fun K=>?_)
  ·refine cf<|aF<|KK N<|ai<|rP 3 [] mn ?_
   refine aB ?_
   have Al:(vI (((i+1):Nat):Int))=(vI ((i:Int)+1)):=by exact cI I
   refine aU (M ⟨(i+1),⟨I,jR D hp (by unfold cg; exact ⟨(by first|(rw [gU I]; omega)|(rw [cb I hy]; omega)),I,by simpa using E,I,I⟩)⟩⟩ _ _ _ U os (cE.cons U<|aN U Al<|cE.nil _) (aL [1,2,3,4]))
  refine WS fun _ k=>rP 1 [] mn ?_
  refine RK k<|an<|Q1 hQ U U U ?_
  first|exact cB (aQ fun q=>by have A:=q.len; omega).symm|exact cB (aQ fun q=>by exact absurd q.b1 (by simpa using B)).symm|exact cB (aQ fun q=>by have A:=q.dC; omega).symm|exact cB (aQ fun q=>by have A:=q.post i p hp; unfold cg at A; first|omega|exact absurd A.2.2.1 (by simpa using E)|(rw [cb I hy] at A; omega)).symm|exact cB (aQ fun q=>by have A:=q.eT n (aI hn); unfold bw at A; omega).symm|exact cB (dm (bI I (by simpa using B) I D I (ea (P:=bw d.ag) I C))).symm
 refine dP 6 [0,1] (mc 0 U (mc 1 U mn)) ?_
 obtain ⟨y,hy⟩:=bk d.ae (i-1) I
 have BR:=bG aV.cells hy
 refine dS (IA (i-1) U (aO 3 U) m1 dc I I)<|dS (o6 ((i-1)*7) U (aO 3 U) (Nat.mul_pos I dc) fY U)<|dS (g5 (i-1) 0 (vI y.Id) U cA (aO 3 U) BR U dc U)<|dP 4 [] mn ?_
 refine dT (t:=63) U (aR fun A5=>?_) (aS fun A5=>?_)
 ·refine gf 26 U<|cR<|RK F<|aT U<|WS fun _ Z=>rP 1 [] mn ?_
  refine RK Z<|an<|Q1 hQ U U U ?_
  first|exact cB (aQ fun q=>by have A:=q.len; omega).symm|exact cB (aQ fun q=>by exact absurd q.b1 (by simpa using B)).symm|exact cB (aQ fun q=>by have A:=q.dC; omega).symm|exact cB (aQ fun q=>by have A:=q.post i p hp; unfold cg at A; first|omega|exact absurd A.2.2.1 (by simpa using E)|(rw [cb I hy] at A; omega)).symm|exact cB (aQ fun q=>by have A:=q.eT n (aI hn); unfold bw at A; omega).symm|exact cB (dm (bI I (by simpa using B) I D I (ea (P:=bw d.ag) I C))).symm
 refine kU 2 [] (mc 0 U mn) U<|dS (SX (eJ (m:=p.Kind) U U sK mY (dr (by first|assumption|omega))) U U)<|dS (CL (eC p.Kind 1 3) (aw) U)<|dP 3 [] mn ?_
 refine dT (t:=70) U (aX fun AB=>?_) (aW fun AB=>?_)
 ·refine gf 19 U<|cR<|RK F<|aT U<|WS fun _ a=>rP 1 [] mn ?_
  refine RK a<|an<|Q1 hQ U U U ?_
  first|exact cB (aQ fun q=>by have A:=q.len; omega).symm|exact cB (aQ fun q=>by exact absurd q.b1 (by simpa using B)).symm|exact cB (aQ fun q=>by have A:=q.dC; omega).symm|exact cB (aQ fun q=>by have A:=q.post i p hp; unfold cg at A; first|omega|exact absurd A.2.2.1 (by simpa using E)|(rw [cb I hy] at A; omega)).symm|exact cB (aQ fun q=>by have A:=q.eT n (aI hn); unfold bw at A; omega).symm|exact cB (dm (bI I (by simpa using B) I D I (ea (P:=bw d.ag) I C))).symm
 refine gf 1 U<|dS (LP (ar.cells (ar.mk (bB.mk kA d.ag.length kC))) 1 U cA U U U)<|dP 1 [] mn ?_
 refine dS (LP (aG.cells p.cp) 0 U cA U U U) ?_
 refine dS (CL (oh d.ag kA kC p.cp sd sd) (bg [2]) U) ?_
 refine dP 3 [] mn ?_
 refine dT (t:=78) U (aX fun E=>?_) (aW fun E=>?_)
 ·refine gf 11 U<|cR<|RK F<|aT U<|WS fun _ b=>rP 1 [] mn ?_
  refine RK b<|an<|Q1 hQ U U U ?_
  first|exact cB (aQ fun q=>by have A:=q.len; omega).symm|exact cB (aQ fun q=>by exact absurd q.b1 (by simpa using B)).symm|exact cB (aQ fun q=>by have A:=q.dC; omega).symm|exact cB (aQ fun q=>by have A:=q.post i p hp; unfold cg at A; first|omega|exact absurd A.2.2.1 (by simpa using E)|(rw [cb I hy] at A; omega)).symm|exact cB (aQ fun q=>by have A:=q.eT n (aI hn); unfold bw at A; omega).symm|exact cB (dm (bI I (by simpa using B) I D I (ea (P:=bw d.ag) I C))).symm
 refine kU 2 [] (mc 0 U mn) U<|dS (CL (eC p.gL 0 36000) (aw) U)<|dP 3 [] mn ?_
 refine dT (t:=84) U (aX fun J=>?_) (aW fun J=>?_)
 ·refine gf 5 U<|cR<|RK F<|aT U<|WS fun _ c=>rP 1 [] mn ?_
  refine RK c<|an<|Q1 hQ U U U ?_
  first|exact cB (aQ fun q=>by have A:=q.len; omega).symm|exact cB (aQ fun q=>by exact absurd q.b1 (by simpa using B)).symm|exact cB (aQ fun q=>by have A:=q.dC; omega).symm|exact cB (aQ fun q=>by have A:=q.post i p hp; unfold cg at A; first|omega|exact absurd A.2.2.1 (by simpa using E)|(rw [cb I hy] at A; omega)).symm|exact cB (aQ fun q=>by have A:=q.eT n (aI hn); unfold bw at A; omega).symm|exact cB (dm (bI I (by simpa using B) I D I (ea (P:=bw d.ag) I C))).symm
 refine kU 2 [] (mc 0 U mn) U<|dS (CL (eC p.jM 1 1000) (aw) U)<|dP 2 [] mn ?_
 refine cR<|RK F<|bq U (aW fun K=>?_) (aX fun K=>?_)
 ·refine cf<|aF<|KK N<|ai<|rP 3 [] mn ?_
  refine aB ?_
  have AY:(vI (((i+1):Nat):Int))=(vI ((i:Int)+1)):=by exact cI I
  refine aU (M ⟨(i+1),⟨I,jR D hp (by unfold cg; exact ⟨(by first|(rw [gU I]; omega)|(rw [cb I hy]; omega)),I,by simpa using E,I,I⟩)⟩⟩ _ _ _ U os (cE.cons U<|aN U AY<|cE.nil _) (aL [1,2,3,4]))
 refine WS fun _ e=>rP 1 [] mn ?_
 refine RK e<|an<|Q1 hQ U U U ?_
 first|exact cB (aQ fun q=>by have A:=q.len; omega).symm|exact cB (aQ fun q=>by exact absurd q.b1 (by simpa using B)).symm|exact cB (aQ fun q=>by have A:=q.dC; omega).symm|exact cB (aQ fun q=>by have A:=q.post i p hp; unfold cg at A; first|omega|exact absurd A.2.2.1 (by simpa using E)|(rw [cb I hy] at A; omega)).symm|exact cB (aQ fun q=>by have A:=q.eT n (aI hn); unfold bw at A; omega).symm|exact cB (dm (bI I (by simpa using B) I D I (ea (P:=bw d.ag) I C))).symm
theorem sk (d:ak) (kA:OA) (kC:Nat) (pA:OA) (pC:Nat) (nA:OA) (nC:Nat) (hin:cK d):
 dx Tryz.prog 23 [(vA (aZ.cells (aZ.mk (ar.mk (bB.mk kA d.ag.length kC)) (bB.mk pA d.ae.length pC) (bB.mk nA d.aq.length nC) d.a2 d.a4)))] [(rd kA d.ag.length 9 (d.ag.map aa.cells)),(rd pA d.ae.length 7 (d.ae.map aV.cells)),(rd nA d.aq.length 3 (d.aq.map bc.cells))] (vI (br d)):=by
 have L:=hin.kS
 have K:=hin.side
 have P:=hin.ku
 have N:=hin.j7
 have M:=hin.nk
 have O:=hin.pk
 refine bD kr Tryz.func23 U U fun S Q hQ hN=>?_
 try dsimp only
 refine WS fun _ C=>fN U fun R=>aY 1 U<|RK C<|aj fun _ D=>WS fun _ E=>rP 1 [] mn ?_
 refine rS (LP (ar.cells (ar.mk (bB.mk kA d.ag.length kC))) 0 U cA U U U) ?_
 refine rS (CL (vG d.ag kA kC sd) (bg [1]) U) ?_
 refine rP 1 [] mn ?_
 refine RK E<|cG U (fun A=>?_) (fun A=>?_)
 ·rw [Bool.not_eq_true'] at A
  refine WS fun _ F=>rP 1 [] mn ?_
  refine RK F<|an<|Q1 hQ U U U ?_
  first|exact cI (cU (by simpa using A)).symm|exact cI (aD A B).symm|exact cI (cZ A B).symm
 rw [Bool.not_eq_false'] at A
 refine WK D<|aj fun _ G=>WS fun _ H=>rP 1 [] (mc 0 U mn) ?_
 refine rS (CL (uE d kA kC pA pC nA nC hin sd) (qZ 1 2 3 U U U U U U) U) ?_
 refine rP 1 [] mn ?_
 refine RK H<|cG U (aX fun B=>?_) (aW fun B=>?_)
 ·refine WS fun _ AA=>rP 1 [] mn ?_
  refine RK AA<|an<|Q1 hQ U U U ?_
  first|exact cI (cU (by simpa using A)).symm|exact cI (aD A B).symm|exact cI (cZ A B).symm
 refine WK G<|WS fun _ J=>rP 1 [] mn ?_
 refine RK J<|an<|Q1 hQ U U U ?_
 first|exact cI (cU (by simpa using A)).symm|exact cI (aD A B).symm|exact cI (cZ A B).symm
end
section
open Go.RowKit
theorem rC (d:ak) (kA:OA) (kC:Nat) (pA:OA) (pC:Nat) (nA:OA) (nC:Nat) (hraw:fQ d):
 dx Tryz.prog 5 [(vA (aZ.cells (aZ.mk (ar.mk (bB.mk kA d.ag.length kC)) (bB.mk pA d.ae.length pC) (bB.mk nA d.aq.length nC) d.a2 d.a4)))] [(rd kA d.ag.length 9 (d.ag.map aa.cells)),(rd pA d.ae.length 7 (d.ae.map aV.cells)),(rd nA d.aq.length 3 (d.aq.map bc.cells))] (vB (decide (k4 d))):=by
 refine bD kr Tryz.func5 U U fun F Q hQ hN=>?_
 try dsimp only
 refine WS fun _ C=>fN U fun E=>aY 1 U<|RK C<|WS fun _ B=>gJ 1 [] (mc 0 U mn) U<|rS (CL (ta d kA kC pA pC nA nC hraw) (qZ 1 2 3 U U U U U U) U)<|rP 2 [] mn ?_
 refine cJ (t:=6) U (aW fun A=>?_) (aX fun A=>?_)
 ·refine aY 1 U<|rP 4 [] mn ?_
  refine RK B<|an<|Q1 hQ U U U ?_
  first|exact cB (aQ fun q=>q.1 A).symm|exact cB (dO.2 ⟨fun q=>⟨A,q⟩,fun q=>q.2⟩)
 refine rP 1 [] (mc 0 U mn) ?_
 have D:=hraw.small A
 refine rS (CL (sk d kA kC pA pC nA nC sd) (qZ 1 2 3 U U U U U U) U) ?_
 refine rP 3 [] mn ?_
 refine RK B<|an<|Q1 hQ U U U ?_
 first|exact cB (aQ fun q=>q.1 A).symm|exact cB (dO.2 ⟨fun q=>⟨A,q⟩,fun q=>q.2⟩)
theorem wi (la:List Int) (laA:OA) (laC:Nat) (n:Int) (hlen:la.length≤1000000):
 dx Tryz.prog 13 [(vS laA la.length laC),(vI n)] [(rd laA la.length 1 (la.map iC))] (vB (decide (n∈la))):=by
 refine bD kr Tryz.func13 U U fun AA Q hQ hN=>?_
 try dsimp only
 refine WS fun _ AB=>aY 1 U<|RK AB<|aj fun _ J=>WS fun _ K=>rP 3 [] mn ?_
 refine RK K<|ax ?_
 have C:(0≤la.length)∧(∀ (j:Nat) y,j<0→la[j]? =some y→y≠n):=by exact ⟨Nat.zero_le _,fun j y hj=>absurd hj (Nat.not_lt_zero _)⟩
 refine bu (ι:={z:Nat // (z≤la.length)∧(∀ (j:Nat) y,j<z→la[j]? =some y→y≠n)}) [1,7,8] [0] U U (fun z=>[(9,(vI (z.1:Int)))]) (fun z=>[]) (fun _=>rfl) (fun _=>rfl) (fun z=>la.length-z.1) ⟨0,C⟩ (a3 U) (aL [0]) ?_
 clear C
 rintro ⟨i,⟨R,A⟩⟩ J4 H
 try dsimp only
 refine WS fun _ L=>rP 1 [] mn ?_
 refine RK L<|aj fun _ M=>bq U (aS fun T=>?_) (aR fun T=>?_)
 ·refine bj<|ab<|ab<|ay<|KK J<|WS fun _ F=>rP 1 [] mn ?_
  refine RK F<|an<|Q1 hQ U U U ?_
  first|exact cB (dm (by rw [← B]; exact aI hx)).symm|exact cB (aQ fun q=>ea (P:=fun y=>y≠n) I A n q rfl).symm
 refine WK M<|aj fun _ N=>ax<|WS fun _ O=>?_
 obtain ⟨x,hx⟩:=bk la i I
 have S:=bG iC hx
 refine rS (IA i U (aO 0 U) cL dc I I)<|rS (g5 i 0 (vI x) U cA (aO 0 U) S U dc U)<|aY 1 U<|RK O<|WS fun _ D=>rP 3 [] mn ?_
 refine RK D<|cG U (aR fun B=>?_) (aS fun B=>?_)
 ·refine WS fun _ E=>rP 1 [] mn ?_
  refine RK E<|an<|Q1 hQ U U U ?_
  first|exact cB (dm (by rw [← B]; exact aI hx)).symm|exact cB (aQ fun q=>ea (P:=fun y=>y≠n) I A n q rfl).symm
 refine cf<|aF<|KK N<|ai<|rP 2 [] mn ?_
 refine aB ?_
 have G:(vI (((i+1):Nat):Int))=(vI ((i:Int)+1)):=by exact cI I
 refine aU (H ⟨(i+1),⟨I,qT (P:=fun _ y=>y≠n) A hx B⟩⟩ _ _ _ U os (bL 3<|aN U G<|cE.nil _) (aL [0]))
end
section
open Go.RowKit
theorem xL (x y:Int):
 dx Tryz.prog 90 [(vI x),(vI y)] [] (vI (mf x y)):=by
 refine bD A8 Tryz.func90 U U fun R Q hQ hN=>?_
 try dsimp only
 refine WS fun _ H=>aY 1 U<|RK H<|WS fun _ AA=>aY 1 U<|rS (CL (n7 x) (aw) U)<|aY 1 U<|RK AA<|WS fun _ J=>aY 1 U<|rS (CL (n7 y) (aw) U)<|aY 1 U<|RK J<|aj fun _ K=>WS fun _ L=>aY 1 U<|RK L<|bp U<|WK K<|aj fun _ M=>WS fun _ N=>aY 1 U<|RK N<|bp U<|WK M<|aj fun _ O=>WS fun _ P=>rP 3 [] mn ?_
 refine RK P<|cG U (aR fun A=>?_) (aS fun A=>?_)
 ·refine WS fun _ C=>rP 1 [] mn ?_
  refine RK C<|an<|Q1 hQ U U U ?_
  first|exact cI (ql A).symm|exact cI (p8 B).symm|exact cI (pZ A B).symm
 refine WK O<|aj fun _ D=>WS fun _ E=>rP 3 [] mn ?_
 refine RK E<|cG U (aR fun B=>?_) (aS fun B=>?_)
 ·refine WS fun _ F=>rP 1 [] mn ?_
  refine RK F<|an<|Q1 hQ U U U ?_
  first|exact cI (ql A).symm|exact cI (p8 B).symm|exact cI (pZ A B).symm
 refine WK D<|WS fun _ G=>rP 1 [] mn ?_
 refine RK G<|an<|Q1 hQ U U U ?_
 first|exact cI (ql A).symm|exact cI (p8 B).symm|exact cI (pZ A B).symm
theorem qt (a:List Int) (aA:OA) (aC:Nat) (b:List Int) (bA:OA) (bC:Nat) (ha:a.length≤1000000) (hb:b.length≤1000000):
 dx Tryz.prog 69 [(vS aA a.length aC),(vS bA b.length bC)] [(rd aA a.length 1 (a.map iC)),(rd bA b.length 1 (b.map iC))] (vI (iO a b)):=by
 refine bD z4 Tryz.func69 U U fun h Q hQ hN=>?_
 try dsimp only
 refine WS fun _ T=>aY 1 U<|RK T<|aj fun _ AA=>WS fun _ V=>rP 3 [] mn ?_
 refine RK V<|ax ?_
 have B:(0≤a.length)∧(0≤b.length)∧(iO a b=iO (a.drop 0) (b.drop 0)):=by exact ⟨Nat.zero_le _,Nat.zero_le _,rfl⟩
 refine bu (ι:={z:Nat // (z≤a.length)∧(z≤b.length)∧(iO a b=iO (a.drop z) (b.drop z))}) [0,1,9,10] [0,1] U U (fun z=>[(11,(vI (z.1:Int)))]) (fun z=>[]) (fun _=>rfl) (fun _=>rfl) (fun z=>a.length-z.1) ⟨0,B⟩ (a3 U) (aL [0,1]) ?_
 clear B
 rintro ⟨i,⟨c,d,A⟩⟩ J4 S
 try dsimp only
 refine WS fun _ W=>rP 1 [] mn ?_
 refine RK W<|aj fun _ X=>bq U (aS fun g=>?_) (aR fun g=>?_)
 ·refine bj<|ab<|ab<|ay<|KK AA<|aj fun _ J=>WS fun _ K=>rP 5 [] mn ?_
  refine RK K<|cG U (aR fun R=>?_) (aS fun R=>?_)
  ·refine WS fun _ L=>rP 1 [] mn ?_
   refine RK L<|an<|Q1 hQ U U U ?_
   first|exact cI (by rw [A]; exact (lS I I).symm)|exact cI (by rw [A]; exact (nM hx hy I).symm)|exact cI (by rw [A]; exact (jw I I).symm)|exact cI (by rw [A]; exact (kv I I).symm)
  refine WK J<|WS fun _ M=>rP 1 [] mn ?_
  refine RK M<|an<|Q1 hQ U U U ?_
  first|exact cI (by rw [A]; exact (lS I I).symm)|exact cI (by rw [A]; exact (nM hx hy I).symm)|exact cI (by rw [A]; exact (jw I I).symm)|exact cI (by rw [A]; exact (kv I I).symm)
 refine WK X<|aj fun _ Y=>ax<|WS fun _ Z=>rP 1 [] mn ?_
 obtain ⟨x,hx⟩:=bk a i I
 have e:=bG iC hx
 refine rS (IA i U (aO 0 U) cL dc I I)<|rS (g5 i 0 (vI x) U vt (aO 0 U) e U dc U)<|aY 2 U<|RK Z<|aj fun _ C=>WS fun _ D=>rP 4 [] mn ?_
 refine RK D<|cG U (aR fun O=>?_) (aS fun O=>?_)
 ·refine WS fun _ E=>rP 1 [] mn ?_
  refine RK E<|an<|Q1 hQ U U U ?_
  first|exact cI (by rw [A]; exact (lS I I).symm)|exact cI (by rw [A]; exact (nM hx hy I).symm)|exact cI (by rw [A]; exact (jw I I).symm)|exact cI (by rw [A]; exact (kv I I).symm)
 refine WK C<|WS fun _ F=>rP 2 [] mn ?_
 obtain ⟨y,hy⟩:=bk b i I
 have f:=bG iC hy
 refine rS (IA i U (aO 1 U) cL dc I I)<|rS (g5 i 0 (vI y) U vt (aO 1 U) f U dc U)<|aY 1 U<|RK F<|WS fun _ G=>aY 2 U<|rS (CL (xL x y) (aw) U)<|aY 1 U<|RK G<|WS fun _ H=>rP 2 [] mn ?_
 refine RK H<|bq U (aW fun P=>?_) (aX fun P=>?_)
 ·refine cf<|aF<|KK Y<|ai<|rP 2 [] mn ?_
  refine aB ?_
  have N:(vI (((i+1):Nat):Int))=(vI ((i:Int)+1)):=by exact cI I
  refine aU (S ⟨(i+1),⟨I,I,A.trans (tn hx hy I)⟩⟩ _ _ _ U os (bL 4<|aN U N<|cE.nil _) (aL [0,1]))
 refine WS fun _ AB=>rP 2 [] mn ?_
 refine RK AB<|an<|Q1 hQ U U U ?_
 first|exact cI (by rw [A]; exact (lS I I).symm)|exact cI (by rw [A]; exact (nM hx hy I).symm)|exact cI (by rw [A]; exact (jw I I).symm)|exact cI (by rw [A]; exact (kv I I).symm)
theorem wX (l:List aV) (lA:OA) (lC:Nat) (f:Value) (p:Int→Bool) (X:ah) (hf: ∀ x0,(∃ z:Nat,x0=(z:Int)∧z<2^l.length)→uU Tryz.prog f [.int .i64 x0] [X] (.bool (p x0))) (hlen:l.length≤8):
 jK Tryz.prog 40 [(vS lA l.length lC),f] [(rd lA l.length 7 (l.map aV.cells)),X] (fun (x:(List Int)×(OA)×Nat×Bool)=>(vT [(vS x.2.1 x.1.length x.2.2.1),(vB x.2.2.2)])) (fun (x:(List Int)×(OA)×Nat×Bool)=>eu l.length (fun z=>p (z:Int)) (2^l.length)=cond x.2.2.2 (some x.1) none) (fun (x:(List Int)×(OA)×Nat×Bool)=>[(own x.2.1 x.2.2.1 3 1 (x.1.map iC))]):=by
 have A6:=iA hlen
 refine dh z6 Tryz.func40 U U fun w0 Q hQ hN=>?_
 try dsimp only
 refine WS fun _ AY=>aY 2 U<|RK AY<|aj fun _ Al=>WS fun _ Aw=>aY 2 U<|rS (BI U (og (i:=l.length) I I))<|rP 1 [] mn ?_
 refine RK Aw<|ax<|ep 3 1 ?_
 have D:(0≤2^l.length)∧(eu l.length (fun z=>p (z:Int)) 0=cond false (some ([]:List Int)) none)∧(([]:List Int).length≤8):=by exact ⟨Nat.zero_le _,rfl,Nat.zero_le _⟩
 refine bu (ι:={z:Nat×(List Int)×(OA)×Nat×Bool // (z.1≤2^l.length)∧(eu l.length (fun z=>p (z:Int)) z.1=cond z.2.2.2.2 (some z.2.1) none)∧(z.2.1.length≤8)}) [0,1,11] [1,2] U U (fun z=>[(4,(vS z.1.2.2.1 z.1.2.1.length z.1.2.2.2.1)),(5,(vB z.1.2.2.2.2)),(12,(vI (z.1.1:Int)))]) (fun z=>[(own z.1.2.2.1 z.1.2.2.2.1 3 1 (z.1.2.1.map iC))]) (fun _=>rfl) (fun _=>rfl) (fun z=>2^l.length-z.1.1) ⟨(0,([]:List Int),none,0,false),D⟩ (a3 U) (aL [1,2,0]) ?_
 clear D
 rintro ⟨⟨zz,fl,fa,fc,bo⟩,⟨L,A,M⟩⟩ J4 E
 try dsimp only at L A M
 try dsimp only
 refine WS fun _ A0=>rP 1 [] mn ?_
 refine RK A0<|aj fun _ A1=>bq U (aS fun h7=>?_) (aR fun h7=>?_)
 ·refine bj<|ab<|ab<|ay<|KK Al<|WS fun _ a=>aY 2 U<|rP 2 [] mn ?_
  refine RK a<|an<|LX hQ (fl,fa,fc,bo) [2] [] mn U U U U ?_
  (rw [show 2^l.length=zz by omega]; exact A)
 refine WK A1<|aj fun _ F=>ax<|WS fun _ A2=>aY 2 U<|RK A2<|WS fun _ O=>aY 1 U<|RK O<|aj fun _ P=>WS fun _ R=>rP 3 [] mn ?_
 refine RK R<|ax<|ep 3 1 ?_
 have D:(0≤l.length):=by exact Nat.zero_le _
 refine bu (ι:={z:Nat×(OA)×Nat // (z.1≤l.length)}) [0,1,4,5,6,11,12,15,16] [1,2,3] U U (fun z=>[(7,(vS z.1.2.1 ((bZ z.1.1 (bH zz)).length) z.1.2.2)),(17,(vI (z.1.1:Int)))]) (fun z=>[(own z.1.2.1 z.1.2.2 3 1 ((bZ z.1.1 (bH zz)).map iC))]) (fun _=>rfl) (fun _=>rfl) (fun z=>l.length-z.1.1) ⟨(0,none,0),D⟩ (a3 U) (aL [1,2,3,0]) ?_
 clear D
 rintro ⟨⟨j,la,lc⟩,N⟩ J13 J
 try dsimp only at N
 try dsimp only
 refine WS fun _ S=>rP 1 [] mn ?_
 refine RK S<|aj fun _ T=>cG U (aR fun AD=>?_) (aS fun AD=>?_)
 ·refine WK T<|aj fun _ K=>ax<|WS fun _ AA=>aY 2 U<|RK AA<|WS fun _ V=>aY 2 U<|rS (BI U (pP (i:=j) I I))<|rS (BI U (qh (m:=(zz/2^j)) I (Nat.lt_of_le_of_lt (Nat.div_le_self _ _) I)))<|rP 1 [] mn ?_
  refine RK V<|bq U (aS fun AB=>?_) (aR fun AB=>?_)
  ·refine cf<|aF<|KK K<|ai<|rP 2 [] mn ?_
   refine aB ?_
   rw [show (bZ j (bH zz))=(bZ (j+1) (bH zz)) from (fP (fun q=>AB (gk.2 q))).symm]
   have c:(vI (((j+1):Nat):Int))=(vI ((j:Int)+1)):=by exact cI I
   refine aU (J ⟨((j+1),la,lc),(by first|omega|(simp only []; omega))⟩ _ _ _ U os (bL 10<|aN U c<|cE.nil _) (aL [0,1,2,3]))
  refine ai<|rP 2 [] mn ?_
  refine df (xs:=[.tmp 26]) (cs:=[(vI (j:Int))]) U cL g0 U U U U (by simp [Value.cells]) U U fun A3=>?_
  refine dF (es2:=(List.map iC (bZ (j+1) (bH zz)))) (m':=(bZ (j+1) (bH zz)).length) 4 U U U mA U U sm (aK (es:=List.map iC [(j:Int)]) 0 U U (by simp [ba]) U) (gW _) (by have:=dD (n:=j) (p:=bH zz); omega) (by have:=dD (n:=j) (p:=bH zz); simp only [maxLen]; omega) (by rw [fj (p:=bH zz) (gk.1 AB)]; simp) sm U fun y AC=>?_
  try dsimp only
  refine aY 1 U<|aB<|aF<|KK K<|ai<|rP 2 [] mn ?_
  refine aB ?_
  have b:(vI (((j+1):Nat):Int))=(vI ((j:Int)+1)):=by exact cI I
  refine aU (J ⟨((j+1),y,AC),(by first|omega|(simp only []; omega))⟩ _ _ _ U os (bL 10<|aN U b<|cE.nil _) (aL [1,2,3,4]))
 refine bj<|ab<|ab<|ay<|KK P<|aj fun _ H=>WS fun _ G=>?_
 have A5:=dD (n:=l.length) (p:=bH zz)
 rw [show bZ j (bH zz)=bZ l.length (bH zz) from by rw [show j=l.length by omega]]
 refine rP 2 [] mn ?_
 refine cJ (t:=31) U (fun C=>?_) (fun C=>?_)
 ·refine aY 19 U<|RK G<|bp U<|WK H<|WS fun _ Z=>rP 2 [] mn ?_
  refine rS (SX (jf U U U (hf (zz:Int) ⟨zz,U,I⟩) (bg [1])) U U)<|RK Z<|bq U (fun B=>?_) (fun B=>?_)
  ·refine cf<|aF<|KK F<|ai<|rP 2 [] mn ?_
   refine aB ?_
   have s:(vI (((zz+1):Nat):Int))=(vI ((zz:Int)+1)):=by exact cI I
   refine aU (E ⟨((zz+1),fl,fa,fc,bo),⟨dso,by dsimp only; first|exact ei A C (by unfold eM; omega)|exact ez A B|exact fr A (fun hb=>by first|exact absurd (C.symm.trans hb) Bool.false_ne_true|(unfold eM; omega)) B,dso⟩⟩ _ _ _ U os (bL 5<|aN U s<|cE.nil _) (aL [0,1,2]))
  refine ai<|aY 1 U<|aY 2 U<|aB<|aF<|KK F<|ai<|rP 2 [] mn ?_
  refine aB ?_
  have r:(vI (((zz+1):Nat):Int))=(vI ((zz:Int)+1)):=by exact cI I
  refine aU (E ⟨((zz+1),(bZ l.length (bH zz)),la,lc,true),⟨dso,by dsimp only; first|exact ei A C (by unfold eM; omega)|exact ez A B|exact fr A (fun hb=>by first|exact absurd (C.symm.trans hb) Bool.false_ne_true|(unfold eM; omega)) B,dso⟩⟩ _ _ _ U os (bL 5<|aN U r<|cE.nil _) (aL [0,1,3]))
 refine rP 6 [] mn ?_
 refine ct (t:=37) U (aR fun u=>?_) (aS fun u=>?_)
 ·refine aY 13 U<|RK G<|aT U<|bj<|ab<|ay<|KK F<|ai<|rP 2 [] mn ?_
  refine aB ?_
  have d:(vI (((zz+1):Nat):Int))=(vI ((zz:Int)+1)):=by exact cI I
  refine aU (E ⟨((zz+1),fl,fa,fc,bo),⟨dso,by dsimp only; first|exact ei A C (by unfold eM; omega)|exact ez A B|exact fr A (fun hb=>by first|exact absurd (C.symm.trans hb) Bool.false_ne_true|(unfold eM; omega)) B,dso⟩⟩ _ _ _ U os (bL 5<|aN U d<|cE.nil _) (aL [0,1,2]))
 refine rP 6 [] mn ?_
 refine cJ (t:=43) U (aS fun v=>?_) (aR fun v=>?_)
 ·refine aY 7 U<|RK G<|bp U<|WK H<|WS fun _ Y=>rP 2 [] mn ?_
  refine rS (SX (jf U U U (hf (zz:Int) ⟨zz,U,I⟩) (bg [1])) U U)<|RK Y<|bq U (fun B=>?_) (fun B=>?_)
  ·refine cf<|aF<|KK F<|ai<|rP 2 [] mn ?_
   refine aB ?_
   have o:(vI (((zz+1):Nat):Int))=(vI ((zz:Int)+1)):=by exact cI I
   refine aU (E ⟨((zz+1),fl,fa,fc,bo),⟨dso,by dsimp only; first|exact ei A C (by unfold eM; omega)|exact ez A B|exact fr A (fun hb=>by first|exact absurd (C.symm.trans hb) Bool.false_ne_true|(unfold eM; omega)) B,dso⟩⟩ _ _ _ U os (bL 5<|aN U o<|cE.nil _) (aL [0,1,2]))
  refine ai<|aY 1 U<|aY 2 U<|aB<|aF<|KK F<|ai<|rP 2 [] mn ?_
  refine aB ?_
  have k:(vI (((zz+1):Nat):Int))=(vI ((zz:Int)+1)):=by exact cI I
  refine aU (E ⟨((zz+1),(bZ l.length (bH zz)),la,lc,true),⟨dso,by dsimp only; first|exact ei A C (by unfold eM; omega)|exact ez A B|exact fr A (fun hb=>by first|exact absurd (C.symm.trans hb) Bool.false_ne_true|(unfold eM; omega)) B,dso⟩⟩ _ _ _ U os (bL 5<|aN U k<|cE.nil _) (aL [0,1,3]))
 refine aY 2 U<|rS (CL (qt (bZ l.length (bH zz)) la lc fl fa fc I I) (av (au (n:=(bZ l.length (bH zz)).length) 3 U sm)<|av (au (n:=fl.length) 2 U sm)<|aw) U)<|rP 4 [] mn ?_
 refine RK G<|cG U (aR fun w=>?_) (aS fun w=>?_)
 ·refine bj<|ab<|ay<|KK F<|ai<|rP 2 [] mn ?_
  refine aB ?_
  have e:(vI (((zz+1):Nat):Int))=(vI ((zz:Int)+1)):=by exact cI I
  refine aU (E ⟨((zz+1),fl,fa,fc,bo),⟨dso,by dsimp only; first|exact ei A C (by unfold eM; omega)|exact ez A B|exact fr A (fun hb=>by first|exact absurd (C.symm.trans hb) Bool.false_ne_true|(unfold eM; omega)) B,dso⟩⟩ _ _ _ U os (bL 5<|aN U e<|cE.nil _) (aL [0,1,2]))
 refine WK H<|WS fun _ W=>rP 2 [] mn ?_
 refine rS (SX (jf U U U (hf (zz:Int) ⟨zz,U,I⟩) (bg [1])) U U)<|RK W<|bq U (fun B=>?_) (fun B=>?_)
 ·refine cf<|aF<|KK F<|ai<|rP 2 [] mn ?_
  refine aB ?_
  have h:(vI (((zz+1):Nat):Int))=(vI ((zz:Int)+1)):=by exact cI I
  refine aU (E ⟨((zz+1),fl,fa,fc,bo),⟨dso,by dsimp only; first|exact ei A C (by unfold eM; omega)|exact ez A B|exact fr A (fun hb=>by first|exact absurd (C.symm.trans hb) Bool.false_ne_true|(unfold eM; omega)) B,dso⟩⟩ _ _ _ U os (bL 5<|aN U h<|cE.nil _) (aL [0,1,2]))
 refine ai<|aY 1 U<|aY 2 U<|aB<|aF<|KK F<|ai<|rP 2 [] mn ?_
 refine aB ?_
 have g:(vI (((zz+1):Nat):Int))=(vI ((zz:Int)+1)):=by exact cI I
 refine aU (E ⟨((zz+1),(bZ l.length (bH zz)),la,lc,true),⟨dso,by dsimp only; first|exact ei A C (by unfold eM; omega)|exact ez A B|exact fr A (fun hb=>by first|exact absurd (C.symm.trans hb) Bool.false_ne_true|(unfold eM; omega)) B,dso⟩⟩ _ _ _ U os (bL 5<|aN U g<|cE.nil _) (aL [0,1,3]))
end
section
open Go.RowKit
theorem wW (x:Int) (d:ak) (kA:OA) (kC:Nat) (pA:OA) (pC:Nat) (nA:OA) (nC:Nat) (tz:List RA) (tA:OA) (tC gw g1:Nat) (hin:cK d) (htr:a_ d.ag=true) (hok:dQ d) (htz:tz.length=d.ae.length) (hx:0≤x∧x<256):
 dx Tryz.prog 41 [(vI x),(vP g1)] [(rd kA d.ag.length 9 (d.ag.map aa.cells)),(rd pA d.ae.length 7 (d.ae.map aV.cells)),(rd nA d.aq.length 3 (d.aq.map bc.cells)),(rd tA ((bh d).length) 1 (List.zipWith jD (bh d) tz)),(nw (ga kl (bh d) tz)),(cv gw 76 (cd.cells (cd.mk (aZ.mk (ar.mk (bB.mk kA d.ag.length kC)) (bB.mk pA d.ae.length pC) (bB.mk nA d.aq.length nC) d.a2 d.a4) (bB.mk tA ((bh d).length) tC)))),(cv g1 71 [(vP gw)])] (vB (decide (cy d (bH x.toNat)))):=by
 have D:=hin.kS
 have C:=hin.side
 have H:=hin.ku
 have F:=hin.j7
 have E:=hin.nk
 have G:=hin.pk
 obtain ⟨s,rfl⟩: ∃ s:Nat,x=(s:Int):=⟨x.toNat,I⟩
 refine bD kr Tryz.func41 U U fun AA Q hQ hN=>?_
 try dsimp only
 refine WS fun _ A=>aY 1 U<|RK A<|WS fun _ B=>rP 2 [] (mr 6 U mn) ?_
 refine rS (CL (nx d kA kC pA pC nA nC tz tA tC gw s hin htr hok htz sd) (bg [0,1,2,3,4,5]) U) ?_
 refine rP 1 [] mn ?_
 refine RK B<|an ?_
 exact Q1 hQ U U U U
theorem um (d:ak) (kA:OA) (kC:Nat) (pA:OA) (pC:Nat) (nA:OA) (nC:Nat) (hin:cK d):
 jK Tryz.prog 17 [(vA (aZ.cells (aZ.mk (ar.mk (bB.mk kA d.ag.length kC)) (bB.mk pA d.ae.length pC) (bB.mk nA d.aq.length nC) d.a2 d.a4)))] [(rd kA d.ag.length 9 (d.ag.map aa.cells)),(rd pA d.ae.length 7 (d.ae.map aV.cells)),(rd nA d.aq.length 3 (d.aq.map bc.cells))] (fun (x:(OA)×Nat)=>(vT [(vS x.1 ((lK d).length) x.2),(vI (qx d))])) (fun (x:(OA)×Nat)=>True) (fun (x:(OA)×Nat)=>[(own x.1 x.2 3 1 ((lK d).map iC))]):=by
 have s:=hin.kS
 have k:=hin.side
 have AC:=hin.ku
 have w:=hin.j7
 have v:=hin.nk
 have z:=hin.pk
 refine dh kr Tryz.func17 U U fun w0 Q hQ hN=>?_
 try dsimp only
 refine WS fun _ h=>fN U fun b2=>aY 2 U<|RK h<|WS fun _ W=>rP 1 [] (mc 0 U mn) ?_
 refine cX (j4 d kA kC pA pC nA nC hin) (qZ 1 2 3 U U U U U U) U fun y4 a=>?_
 obtain ⟨b,u,K,L,c,F⟩:=y4
 cases b
 ·obtain ⟨Y,he⟩:=a.2 rfl
  try dsimp only at Y he
  subst Y
  try dsimp only [cond_true,cond_false,List.cons_append,List.nil_append]
  refine aY 3 U<|AL U ym fun t=>Av U zl U U<|aY 1 U<|RK W<|aj fun _ q=>WS fun _ N=>rP 2 [] mn ?_
  refine RK N<|bq U (aW fun J=>?_) (aX fun J=>?_)
  ·exact absurd J he
  refine WS fun _ O=>rP 1 [] mn ?_
  obtain ⟨E,B⟩:=uW he
  refine ec 3 1 ?_
  rw [show (own none 0 3 1 ([]:List (List Value)))=own none 0 3 1 ((lK d).map iC) from by rw [B]; rfl]
  refine rP 2 [] mn ?_
  refine RK O<|an ?_
  refine LX hQ (none,0) [0] [] mn U U U ?_ ?_
  ·(rw [E]<;>first|rfl|(rw [B]; rfl))
  ·trivial
 obtain ⟨he,l⟩:=a.1 rfl
 try dsimp only [cond_true,cond_false,List.cons_append,List.nil_append]
 obtain ⟨AD,j⟩:=cP he
 have i:=j.len
 have y:=iA i.1
 refine aY 3 U<|AL U ym fun G=>Av U zl U U<|aY 1 U<|RK W<|aj fun _ P=>WS fun _ R=>aY 1 U<|rS (SX (ck (r:= .bool false) U U U eW) U U)<|RK R<|bp U<|WK P<|WS fun _ S=>rP 2 [] (mc 4 U mn) ?_
 refine rS (FU U) ?_
 refine cX (wX d.ae pA pC (Value.func (.func 41) [].toArray [(vP G)].toArray) (fun M=>(decide (cy d (bH M.toNat)))) (nw [(rd kA d.ag.length 9 (d.ag.map aa.cells)),(rd pA d.ae.length 7 (d.ae.map aV.cells)),(rd nA d.aq.length 3 (d.aq.map bc.cells)),(rd L ((bh d).length) 1 (List.zipWith jD (bh d) F)),(nw (ga kl (bh d) F)),(cv K 76 (cd.cells (cd.mk (aZ.mk (ar.mk (bB.mk kA d.ag.length kC)) (bB.mk pA d.ae.length pC) (bB.mk nA d.aq.length nC) d.a2 d.a4) (bB.mk L ((bh d).length) c)))),(cv G 71 [(vP K)])]) (by intro M D; exact jW (fi:=[]) (ca:=[(vP G)]) (ir (wW M d kA kC pA pC nA nC F L c K G (by first|assumption|(obtain ⟨e,H,AB⟩:=D; omega)|omega) (by first|assumption|(obtain ⟨e,H,AB⟩:=D; omega)|omega) (by first|assumption|(obtain ⟨e,H,AB⟩:=D; omega)|omega) (by first|assumption|(obtain ⟨e,H,AB⟩:=D; omega)|omega) (by first|assumption|(obtain ⟨e,H,AB⟩:=D; omega)|omega)) (bg [0,1,2,3,4,5,6]))) I) (eF 6 rfl rfl<|av (jr (fH [5,6,7]<|av (au (n:=(bh d).length) 2 rfl (fV (by rw [dG]; exact l)))<|av (fT 3 rfl jc)<|eF 1 rfl rfl<|eF 0 rfl rfl<|aw))<|aw) rfl fun m Z=>?_
 obtain ⟨p,f,g,o⟩:=m
 try dsimp only
 have A:=Z
 refine aY 5 U<|RK S<|aj fun _ T=>WS fun _ AA=>rP 2 [] mn ?_
 refine RK AA<|bq U (fun C=>?_) (fun C=>?_)
 ·rw [Bool.not_eq_false'] at C
  refine WK T<|WS fun _ X=>?_
  try dsimp only at A
  obtain ⟨E,B⟩:=pB he (by rw [C] at A; exact A)
  rw [← B]
  refine aY 1 U<|rP 2 [] mn ?_
  refine RK X<|an ?_
  refine LX hQ (f,g) [0] [] mn U U U ?_ ?_
  ·(rw [E]<;>first|rfl|(rw [B]; rfl))
  ·trivial
 rw [Bool.not_eq_true'] at C
 refine WS fun _ V=>?_
 try dsimp only at A
 obtain ⟨E,B⟩:=ua he (by rw [C] at A; exact A)
 refine ec 3 1 ?_
 rw [show (own none 0 3 1 ([]:List (List Value)))=own none 0 3 1 ((lK d).map iC) from by rw [B]; rfl]
 refine rP 2 [] mn ?_
 refine RK V<|an ?_
 refine LX hQ (none,0) [0] [] mn U U U ?_ ?_
 ·(rw [E]<;>first|rfl|(rw [B]; rfl))
 ·trivial
end
section
open Go.RowKit
theorem h_ (x y:Int):
 dx Tryz.prog 37 [(vI x),(vI y)] [] (vA (al.cells (al.mk x y))):=by
 refine bD kr Tryz.func37 U U fun D Q hQ hN=>?_
 try dsimp only
 refine WS fun _ A=>AL U eH fun C=>RK A<|WS fun _ B=>rP 2 [] mn ?_
 refine rS (SX (bm (xs:=[(0,.tmp 5),(1,.tmp 6)]) (cs:=(al.cells (al.mk x y))) U U (bl jF U)) U U)<|gH U dA U<|RK B<|an ?_
 exact zB hQ [0] (mc 0 U mn) U U
theorem fF (r:Int):
 jK Tryz.prog 15 [(vI r)] [] (fun (x:(OA)×Nat×(OA)×Nat×(OA)×Nat)=>(vA (aZ.cells (aZ.mk (ar.mk (bB.mk x.1 ((cm r 100).ag.length) x.2.1)) (bB.mk x.2.2.1 ((cm r 100).ae.length) x.2.2.2.1) (bB.mk x.2.2.2.2.1 ((cm r 100).aq.length) x.2.2.2.2.2) ((cm r 100).a2) ((cm r 100).a4))))) (fun (x:(OA)×Nat×(OA)×Nat×(OA)×Nat)=>True) (fun (x:(OA)×Nat×(OA)×Nat×(OA)×Nat)=>[(own x.1 x.2.1 85 9 ((cm r 100).ag.map aa.cells)),(own x.2.2.1 x.2.2.2.1 70 7 ((cm r 100).ae.map aV.cells)),(own x.2.2.2.2.1 x.2.2.2.2.2 82 3 ((cm r 100).aq.map bc.cells))]):=by
 refine dh kr Tryz.func15 U U fun G Q hQ hN=>?_
 try dsimp only
 refine WS fun _ D=>AL U xp fun F=>RK D<|WS fun _ E=>rS (CL (h_ 10000 10200) (aw) U)<|rS (SX (bm (xs:=[(0,.const (vI 1)),(1,.tmp 3)]) (cs:=(aa.cells (aa.mk 1 (al.mk 10000 10200) (al.mk 0 0) (al.mk 0 0) 0 0))) U U (bl zg U)) U U)<|rS (CL (h_ 5000 5000) (aw) U)<|rS (CL (h_ 2000 2000) (aw) U)<|rS (SX (bm (xs:=[(0,.const (vI 2)),(1,.tmp 5),(3,.tmp 6),(4,.const (Value.int .u8 1))]) (cs:=(aa.cells (aa.mk 2 (al.mk 5000 5000) (al.mk 0 0) (al.mk 2000 2000) 1 0))) U U (bl zg U)) U U)<|df (xs:=[.tmp 4,.tmp 7]) (cs:=((aa.cells (aa.mk 1 (al.mk 10000 10200) (al.mk 0 0) (al.mk 0 0) 0 0))++(aa.cells (aa.mk 2 (al.mk 5000 5000) (al.mk 0 0) (al.mk 2000 2000) 1 0)))) U kd w_ U U U U (by simp [Value.cells,aa.aP]) U U fun A=>rS (SX (bm (xs:=[(0,.tmp 8)]) (cs:=(ar.cells (ar.mk (bB.mk (some ⟨A,0,none⟩) 2 2)))) U U (bl sy U)) U U)<|rS (CL (h_ 9000 9000) (aw) U)<|rS (SX (bm (xs:=[(1,.tmp 10)]) (cs:=(aG.cells (aG.mk 0 (al.mk 9000 9000)))) U U (bl ui U)) U U)<|rS (SX (bm (xs:=[(0,.const (vI 2)),(1,.const (Value.int .u8 1)),(2,.tmp 11),(3,.const (vI 20)),(4,.const (vI 10))]) (cs:=(aV.cells (aV.mk 2 1 (aG.mk 0 (al.mk 9000 9000)) 20 10))) U U (bl wO U)) U U)<|rS (CL (h_ 1000 1000) (aw) U)<|rS (SX (bm (xs:=[(0,.const (vI 1)),(1,.tmp 13)]) (cs:=(aG.cells (aG.mk 1 (al.mk 1000 1000)))) U U (bl ui U)) U U)<|rS (SX (bm (xs:=[(0,.const (vI 5)),(1,.const (Value.int .u8 1)),(2,.tmp 14),(3,.const (vI 30)),(4,.const (vI 10))]) (cs:=(aV.cells (aV.mk 5 1 (aG.mk 1 (al.mk 1000 1000)) 30 10))) U U (bl wO U)) U U)<|rS (CL (h_ 4000 4000) (aw) U)<|rS (SX (bm (xs:=[(0,.const (vI 1)),(1,.tmp 16)]) (cs:=(aG.cells (aG.mk 1 (al.mk 4000 4000)))) U U (bl ui U)) U U)<|rS (SX (bm (xs:=[(0,.const (vI 6)),(1,.const (Value.int .u8 1)),(2,.tmp 17),(3,.const (vI 10)),(4,.const (vI 10))]) (cs:=(aV.cells (aV.mk 6 1 (aG.mk 1 (al.mk 4000 4000)) 10 10))) U U (bl wO U)) U U)<|df (xs:=[.tmp 12,.tmp 15,.tmp 18]) (cs:=((aV.cells (aV.mk 2 1 (aG.mk 0 (al.mk 9000 9000)) 20 10))++(aV.cells (aV.mk 5 1 (aG.mk 1 (al.mk 1000 1000)) 30 10))++(aV.cells (aV.mk 6 1 (aG.mk 1 (al.mk 4000 4000)) 10 10)))) U m1 uc U U U U (by simp [Value.cells,aV.aP]) U U fun B=>rS (SX (bm (xs:=[(0,.const (vI 1)),(1,.const (Value.int .u8 1)),(2,.const (vI 100))]) (cs:=(bc.cells (bc.mk 1 1 100))) U U (bl Ak U)) U U)<|df (xs:=[.tmp 20]) (cs:=(bc.cells (bc.mk 1 1 100))) U sJ xR U U U U (by simp [Value.cells,bc.aP]) U U fun C=>rS (CL (h_ 5000 5000) (aw) U)<|rS (SX (bm (xs:=[(1,.tmp 22)]) (cs:=(aG.cells (aG.mk 0 (al.mk 5000 5000)))) U U (bl ui U)) U U)<|rP 1 [] mn ?_
 refine rS (SX (bm (xs:=[(0,.tmp 9),(1,.tmp 19),(2,.tmp 21),(3,.tmp 23),(4,.tmp 24)]) (cs:=(aZ.cells (aZ.mk (ar.mk (bB.mk (some ⟨A,0,none⟩) 2 2)) (bB.mk (some ⟨B,0,none⟩) 3 3) (bB.mk (some ⟨C,0,none⟩) 1 1) (aG.mk 0 (al.mk 5000 5000)) r))) U U (bl Aa U)) U U) ?_
 refine eI (es:=((cm r 100).ag.map aa.cells)) (C':=[_,_,(own (some ⟨A,0,none⟩) 2 85 9 ((cm r 100).ag.map aa.cells)),_]) 2 U (lY aa.aP _) U (by show _≤maxLen; exact Nat.le_trans (m:=10) (by first|decide|(show (1:Nat)≤10; decide)|(show (2:Nat)≤10; decide)|(show (3:Nat)≤10; decide)) dc) U ?_
 refine eI (es:=((cm r 100).ae.map aV.cells)) (C':=[_,(own (some ⟨B,0,none⟩) 3 70 7 ((cm r 100).ae.map aV.cells)),_,_]) 1 U (lY aV.aP _) U (by show _≤maxLen; exact Nat.le_trans (m:=10) (by first|decide|(show (1:Nat)≤10; decide)|(show (2:Nat)≤10; decide)|(show (3:Nat)≤10; decide)) dc) U ?_
 refine eI (es:=((cm r 100).aq.map bc.cells)) (C':=[(own (some ⟨C,0,none⟩) 1 82 3 ((cm r 100).aq.map bc.cells)),_,_,_]) 0 U (lY bc.aP _) U (by show _≤maxLen; exact Nat.le_trans (m:=10) (by first|decide|(show (1:Nat)≤10; decide)|(show (2:Nat)≤10; decide)|(show (3:Nat)≤10; decide)) dc) U ?_
 refine tP U xu U<|RK E<|an<|LX hQ ((some ⟨A,0,none⟩),2,(some ⟨B,0,none⟩),3,(some ⟨C,0,none⟩),1) [2,1,0] [0] (mc 3 U mn) U U U U ?_
 trivial
end
section
open Go.RowKit
theorem qO (a n t:Int):
 dx Tryz.prog 19 [(vI a),(vI n),(vI t)] [] (vB (decide (rG a n t))):=by
 refine bD kr Tryz.func19 U U fun Y Q hQ hN=>?_
 try dsimp only
 refine WS fun _ S=>rP 1 [] mn ?_
 refine RK S<|WS fun _ T=>cX (fF 6000) (aw) U fun X W=>?_
 obtain ⟨M,P,N,R,O,J⟩:=X
 try dsimp only
 refine aY 1 U<|rS (CL (s8 (ak.mk ((cm 6000 100).ag) ((cm 6000 100).ae) ((cm 6000 100).aq) ((cm 6000 100).a2) ((cm 6000 100).a4)) M P N R O J a 1 (by exact jU)) (av (au (n:=((cm 6000 100).ag).length) 0 U sm)<|av (au (n:=((cm 6000 100).ae).length) 1 U sm)<|av (au (n:=((cm 6000 100).aq).length) 2 U sm)<|aw) U)<|rP 5 [] mn ?_
 refine RK T<|WS fun _ L=>cX (fF 6000) (aw) U fun AA V=>?_
 obtain ⟨E,H,F,AB,G,K⟩:=AA
 try dsimp only
 refine aY 1 U<|rS (CL (qy (ak.mk ((cm 6000 100).ag) ((cm 6000 100).ae) ((cm 6000 100).aq) ((cm 6000 100).a2) ((cm 6000 100).a4)) E H F AB G K a 1 (by exact jU)) (av (au (n:=((cm 6000 100).ag).length) 0 U sm)<|av (au (n:=((cm 6000 100).ae).length) 1 U sm)<|av (au (n:=((cm 6000 100).aq).length) 2 U sm)<|aw) U)<|aY 5 U<|RK L<|WS fun _ D=>rP 3 [] mn ?_
 refine cJ (t:=25) U (aS fun A=>?_) (aR fun A=>?_)
 ·refine rP 14 [] mn ?_
  refine RK D<|an<|Q1 hQ U U U ?_
  first|exact cB (aQ fun q=>A q.1.1).symm|exact cB (aQ fun q=>B q.1.2).symm|exact cB (aQ fun q=>C q.2.1).symm|exact cB (dO.2 ⟨fun q=>⟨⟨A,B⟩,C,q⟩,fun q=>q.2.2⟩)
 refine rP 5 [] mn ?_
 refine cJ (t:=30) U (aS fun B=>?_) (aR fun B=>?_)
 ·refine rP 9 [] mn ?_
  refine RK D<|an<|Q1 hQ U U U ?_
  first|exact cB (aQ fun q=>A q.1.1).symm|exact cB (aQ fun q=>B q.1.2).symm|exact cB (aQ fun q=>C q.2.1).symm|exact cB (dO.2 ⟨fun q=>⟨⟨A,B⟩,C,q⟩,fun q=>q.2.2⟩)
 refine rP 4 [] mn ?_
 refine cJ (t:=34) U (aS fun C=>?_) (aR fun C=>?_)
 ·refine rP 5 [] mn ?_
  refine RK D<|an<|Q1 hQ U U U ?_
  first|exact cB (aQ fun q=>A q.1.1).symm|exact cB (aQ fun q=>B q.1.2).symm|exact cB (aQ fun q=>C q.2.1).symm|exact cB (dO.2 ⟨fun q=>⟨⟨A,B⟩,C,q⟩,fun q=>q.2.2⟩)
 refine rP 5 [] mn ?_
 refine RK D<|an<|Q1 hQ U U U ?_
 first|exact cB (aQ fun q=>A q.1.1).symm|exact cB (aQ fun q=>B q.1.2).symm|exact cB (aQ fun q=>C q.2.1).symm|exact cB (dO.2 ⟨fun q=>⟨⟨A,B⟩,C,q⟩,fun q=>q.2.2⟩)
theorem jN (la:List Int) (laA:OA) (laC:Nat) (lb:List Int) (lbA:OA) (lbC:Nat) (h1:la.length≤1000000) (h2:lb.length≤1000000):
 dx Tryz.prog 20 [(vS laA la.length laC),(vS lbA lb.length lbC)] [(rd laA la.length 1 (la.map iC)),(rd lbA lb.length 1 (lb.map iC))] (vB (decide (bM (cm 6000 100) la=0∧cC (cm 6000 100) la=lb))):=by
 refine bD kr Tryz.func20 U U fun R Q hQ hN=>?_
 try dsimp only
 refine WS fun _ K=>rP 1 [] mn ?_
 refine RK K<|WS fun _ L=>cX (fF 6000) (aw) U fun P O=>?_
 obtain ⟨E,AA,F,J,G,C⟩:=P
 try dsimp only
 refine rP 1 [] mn ?_
 refine cX (mh (ak.mk ((cm 6000 100).ag) ((cm 6000 100).ae) ((cm 6000 100).aq) ((cm 6000 100).a2) ((cm 6000 100).a4)) E AA F J G C la laA laC (by exact jU) h1) (av (au (n:=((cm 6000 100).ag).length) 0 U sm)<|av (au (n:=((cm 6000 100).ae).length) 1 U sm)<|av (au (n:=((cm 6000 100).aq).length) 2 U sm)<|eF 3 U U<|aw) U fun M N=>?_
 obtain ⟨D,H⟩:=M
 try dsimp only
 refine aY 5 U<|RK L<|WS fun _ B=>rP 3 [] mn ?_
 refine cJ (t:=15) U (aS fun A=>?_) (aR fun A=>?_)
 ·refine rP 5 [] mn ?_
  refine RK B<|an<|Q1 hQ U U U ?_
  first|exact cB (aQ fun q=>A q.1).symm|exact cB (dO.2 ⟨fun q=>⟨A,q⟩,fun q=>q.2⟩)
 refine aY 2 U<|rS (CL (gr (cC (ak.mk ((cm 6000 100).ag) ((cm 6000 100).ae) ((cm 6000 100).aq) ((cm 6000 100).a2) ((cm 6000 100).a4)) la) D H lb lbA lbC (by exact Nat.le_trans ja (show (3:Nat)≤1000000 by decide)) (by exact h2)) (av (au (n:=(cC (ak.mk ((cm 6000 100).ag) ((cm 6000 100).ae) ((cm 6000 100).aq) ((cm 6000 100).a2) ((cm 6000 100).a4)) la).length) 0 U sm)<|eF 5 U U<|aw) U)<|rP 2 [] mn ?_
 refine RK B<|an<|Q1 hQ U U U ?_
 first|exact cB (aQ fun q=>A q.1).symm|exact cB (dO.2 ⟨fun q=>⟨A,q⟩,fun q=>q.2⟩)
theorem vm:
 dx Tryz.prog 4 [] [] (vB true):=by
 refine bD kr Tryz.func4 U U fun w0 Q hQ hN=>?_
 try dsimp only
 refine WS fun _ A1=>rP 1 [] mn ?_
 refine RK A1<|WS fun _ A2=>cX (fF 6000) (aw) U fun y3 BL=>?_
 obtain ⟨m,AD,p,Al,M,d⟩:=y3
 try dsimp only
 refine cX (vD (ak.mk ((cm 6000 100).ag) ((cm 6000 100).ae) ((cm 6000 100).aq) ((cm 6000 100).a2) ((cm 6000 100).a4)) m AD p Al M d 0 ([]) none 0 (by exact jU) dc) (av (au (n:=((cm 6000 100).ag).length) 0 U sm)<|av (au (n:=((cm 6000 100).ae).length) 1 U sm)<|av (au (n:=((cm 6000 100).aq).length) 2 U sm)<|av (iu _ _)<|aw) U fun A3 BD=>?_
 obtain ⟨l,AC⟩:=A3
 try dsimp only
 refine rP 5 [] mn ?_
 refine RK A2<|WS fun _ h=>cX (fF 6000) (aw) U fun A4 BE=>?_
 obtain ⟨N,X,R,a,AA,e⟩:=A4
 try dsimp only
 refine cX (wY (ak.mk ((cm 6000 100).ag) ((cm 6000 100).ae) ((cm 6000 100).aq) ((cm 6000 100).a2) ((cm 6000 100).a4)) N X R a AA e (by exact jU)) (av (au (n:=((cm 6000 100).ag).length) 0 U sm)<|av (au (n:=((cm 6000 100).ae).length) 1 U sm)<|av (au (n:=((cm 6000 100).aq).length) 2 U sm)<|aw) U fun A5 BF=>?_
 obtain ⟨o,AY⟩:=A5
 try dsimp only
 refine rP 5 [] mn ?_
 refine RK h<|WS fun _ i=>cX (fF 6200) (aw) U fun A6 BG=>?_
 obtain ⟨O,Y,S,b,V,f⟩:=A6
 try dsimp only
 refine cX (um (ak.mk ((cm 6200 100).ag) ((cm 6200 100).ae) ((cm 6200 100).aq) ((cm 6200 100).a2) ((cm 6200 100).a4)) O Y S b V f (by exact jU)) (av (au (n:=((cm 6200 100).ag).length) 0 U sm)<|av (au (n:=((cm 6200 100).ae).length) 1 U sm)<|av (au (n:=((cm 6200 100).aq).length) 2 U sm)<|aw) U fun A7 BH=>?_
 obtain ⟨M,Aw⟩:=A7
 try dsimp only
 refine rP 5 [] mn ?_
 refine RK i<|WS fun _ j=>cX (fF 6200) (aw) U fun BB BJ=>?_
 obtain ⟨P,Z,T,c,W,g⟩:=BB
 try dsimp only
 refine cX (vw (ak.mk ((cm 6200 100).ag) ((cm 6200 100).ae) ((cm 6200 100).aq) ((cm 6200 100).a2) ((cm 6200 100).a4)) P Z T c W g (by exact jU)) (av (au (n:=((cm 6200 100).ag).length) 0 U sm)<|av (au (n:=((cm 6200 100).ae).length) 1 U sm)<|av (au (n:=((cm 6200 100).aq).length) 2 U sm)<|aw) U fun BC BK=>?_
 obtain ⟨q,A0⟩:=BC
 try dsimp only
 refine aY 5 U<|RK j<|WS fun _ k=>rS (CL (qO 0 6200 82) (aw) U)<|rP 1 [] mn ?_
 refine cJ (t:=30) U (aS fun A=>?_) (aR fun A=>?_)
 ·exact absurd wQ A
 refine rS (CL (qO 1 4000 70) (aw) U)<|rP 2 [] mn ?_
 refine cJ (t:=33) U (aS fun B=>?_) (aR fun B=>?_)
 ·exact absurd xx B
 refine df (xs:=[.const (vI 0),.const (vI 1),.const (vI 2)]) (cs:=[(vI 0),(vI 1),(vI 2)]) U cL g0 U U U U (by simp [Value.cells]) U U fun r=>rS (CL (jN ([]) none 0 ([0,1,2]) (some ⟨r,0,none⟩) 3 dc dc) (av (iu _ _)<|av (aK 0 U U (by simp [ba]) U)<|aw) U)<|rP 2 [] mn ?_
 refine cJ (t:=37) U (aS fun C=>?_) (aR fun C=>?_)
 ·exact absurd sX C
 refine df (xs:=[.const (vI 0)]) (cs:=[(vI 0)]) U cL g0 U U U U (by simp [Value.cells]) U U fun s=>rS (CL (jN ([0]) (some ⟨s,0,none⟩) 1 ([]) none 0 dc dc) (av (aK 0 U U (by simp [ba]) U)<|av (iu _ _)<|aw) U)<|rP 2 [] mn ?_
 refine cJ (t:=41) U (aS fun D=>?_) (aR fun D=>?_)
 ·exact absurd w6 D
 refine df (xs:=[.const (vI 1)]) (cs:=[(vI 1)]) U cL g0 U U U U (by simp [Value.cells]) U U fun u=>df (xs:=[.const (vI 0),.const (vI 2)]) (cs:=[(vI 0),(vI 2)]) U cL g0 U U U U (by simp [Value.cells]) U U fun v=>rS (CL (jN ([1]) (some ⟨u,0,none⟩) 1 ([0,2]) (some ⟨v,0,none⟩) 2 dc dc) (av (aK 1 U U (by simp [ba]) U)<|av (aK 0 U U (by simp [ba]) U)<|aw) U)<|rP 2 [] mn ?_
 refine cJ (t:=46) U (aS fun E=>?_) (aR fun E=>?_)
 ·exact absurd xz E
 refine rP 4 [] mn ?_
 refine cJ (t:=50) U (aS fun F=>?_) (aR fun F=>?_)
 ·exact absurd kX.1 F
 refine rP 1 [] mn ?_
 refine df (xs:=[.const (vI 0),.const (vI 1),.const (vI 2)]) (cs:=[(vI 0),(vI 1),(vI 2)]) U cL g0 U U U U (by simp [Value.cells]) U U fun w=>?_
 refine rS (CL (gr (gF (ak.mk ((cm 6000 100).ag) ((cm 6000 100).ae) ((cm 6000 100).aq) ((cm 6000 100).a2) ((cm 6000 100).a4)) 0 ([])) l AC ([0,1,2]) (some ⟨w,0,none⟩) 3 (by rw [kX.2]; decide) dc) (av (au (n:=(gF (ak.mk ((cm 6000 100).ag) ((cm 6000 100).ae) ((cm 6000 100).aq) ((cm 6000 100).a2) ((cm 6000 100).a4)) 0 ([])).length) 17 U sm)<|av (aK 0 U U (by simp [ba]) U)<|aw) U) ?_
 refine rP 2 [] mn ?_
 refine cJ (t:=55) U (aS fun G=>?_) (aR fun G=>?_)
 ·exact absurd kX.2 G
 refine rP 4 [] mn ?_
 refine cJ (t:=59) U (aS fun H=>?_) (aR fun H=>?_)
 ·exact absurd mg.1 H
 refine rP 1 [] mn ?_
 refine df (xs:=[.const (vI 0)]) (cs:=[(vI 0)]) U cL g0 U U U U (by simp [Value.cells]) U U fun x=>?_
 refine rS (CL (gr (iW (ak.mk ((cm 6000 100).ag) ((cm 6000 100).ae) ((cm 6000 100).aq) ((cm 6000 100).a2) ((cm 6000 100).a4))) o AY ([0]) (some ⟨x,0,none⟩) 1 (by rw [mg.2]; decide) dc) (av (au (n:=(iW (ak.mk ((cm 6000 100).ag) ((cm 6000 100).ae) ((cm 6000 100).aq) ((cm 6000 100).a2) ((cm 6000 100).a4))).length) 14 U sm)<|av (aK 0 U U (by simp [ba]) U)<|aw) U) ?_
 refine rP 2 [] mn ?_
 refine cJ (t:=64) U (aS fun AB=>?_) (aR fun AB=>?_)
 ·exact absurd mg.2 AB
 refine rP 4 [] mn ?_
 refine cJ (t:=68) U (aS fun J=>?_) (aR fun J=>?_)
 ·exact absurd nV.1 J
 refine rP 1 [] mn ?_
 refine df (xs:=[.const (vI 0),.const (vI 1)]) (cs:=[(vI 0),(vI 1)]) U cL g0 U U U U (by simp [Value.cells]) U U fun y=>?_
 refine rS (CL (gr (lK (ak.mk ((cm 6200 100).ag) ((cm 6200 100).ae) ((cm 6200 100).aq) ((cm 6200 100).a2) ((cm 6200 100).a4))) M Aw ([0,1]) (some ⟨y,0,none⟩) 2 (by rw [nV.2]; decide) dc) (av (au (n:=(lK (ak.mk ((cm 6200 100).ag) ((cm 6200 100).ae) ((cm 6200 100).aq) ((cm 6200 100).a2) ((cm 6200 100).a4))).length) 11 U sm)<|av (aK 0 U U (by simp [ba]) U)<|aw) U) ?_
 refine rP 2 [] mn ?_
 refine cJ (t:=73) U (aS fun K=>?_) (aR fun K=>?_)
 ·exact absurd nV.2 K
 refine rP 4 [] mn ?_
 refine cJ (t:=77) U (aS fun L=>?_) (aR fun L=>?_)
 ·exact absurd k3.1 L
 refine rP 1 [] mn ?_
 refine df (xs:=[.const (vI 2)]) (cs:=[(vI 2)]) U cL g0 U U U U (by simp [Value.cells]) U U fun z=>?_
 refine rS (CL (gr (iH (ak.mk ((cm 6200 100).ag) ((cm 6200 100).ae) ((cm 6200 100).aq) ((cm 6200 100).a2) ((cm 6200 100).a4))) q A0 ([2]) (some ⟨z,0,none⟩) 1 (by rw [k3.2]; decide) dc) (av (au (n:=(iH (ak.mk ((cm 6200 100).ag) ((cm 6200 100).ae) ((cm 6200 100).aq) ((cm 6200 100).a2) ((cm 6200 100).a4))).length) 8 U sm)<|av (aK 0 U U (by simp [ba]) U)<|aw) U) ?_
 refine rP 2 [] mn ?_
 refine RK k<|an<|Q1 hQ U U U ?_
 exact cB (dm k3.2)
end
section
open Go.RowKit
theorem vN (d:ak) (kA:OA) (kC:Nat) (pA:OA) (pC:Nat) (nA:OA) (nC:Nat) (hin:cK d):
 jK Tryz.prog 8 [(vA (aZ.cells (aZ.mk (ar.mk (bB.mk kA d.ag.length kC)) (bB.mk pA d.ae.length pC) (bB.mk nA d.aq.length nC) d.a2 d.a4)))] [(rd kA d.ag.length 9 (d.ag.map aa.cells)),(rd pA d.ae.length 7 (d.ae.map aV.cells)),(rd nA d.aq.length 3 (d.aq.map bc.cells))] (fun (x:(OA)×Nat×(OA)×Nat×(OA)×Nat)=>(vA (aZ.cells (aZ.mk (ar.mk (bB.mk x.1 d.ag.length x.2.1)) (bB.mk x.2.2.1 d.ae.length x.2.2.2.1) (bB.mk x.2.2.2.2.1 d.aq.length x.2.2.2.2.2) d.a2 d.a4)))) (fun (x:(OA)×Nat×(OA)×Nat×(OA)×Nat)=>True) (fun (x:(OA)×Nat×(OA)×Nat×(OA)×Nat)=>[(own x.1 x.2.1 85 9 (d.ag.map aa.cells)),(own x.2.2.1 x.2.2.2.1 70 7 (d.ae.map aV.cells)),(own x.2.2.2.2.1 x.2.2.2.2.2 82 3 (d.aq.map bc.cells))]):=by
 have O:=hin.kS
 have N:=hin.side
 have T:=hin.ku
 have R:=hin.j7
 have P:=hin.nk
 have S:=hin.pk
 refine dh kr Tryz.func8 U U fun Y Q hQ hN=>?_
 try dsimp only
 refine WS fun _ K=>fN U fun W=>AL U xp fun X=>RK K<|WS fun _ L=>rP 1 [] mn ?_
 refine rS (LP (ar.cells (ar.mk (bB.mk kA d.ag.length kC))) 1 U cA U U U) ?_
 refine cX (xW d.ag kA kC sd) (bg [2]) U fun V AA=>?_
 obtain ⟨G,H⟩:=V
 try dsimp only
 refine aY 1 U<|Br (aZ.cells (aZ.mk (ar.mk (bB.mk G d.ag.length H)) (bB.mk pA d.ae.length pC) (bB.mk nA d.aq.length nC) d.a2 d.a4)) U kQ U U<|RK L<|WS fun _ M=>oy U m1 U fun AB=>rP 2 [] (mc 3 U mn) ?_
 refine eI (es:=(List.map aV.cells [])) (C':=[own (some ⟨AB,0,none⟩) 0 70 7 (List.map aV.cells []),_,_,_,_,_,_]) 0 U sm U (by simp [maxLen]) U ?_
 refine dF (es2:=(List.map aV.cells d.ae)) (m':=d.ae.length) 0 U U U zX U U sm (aO 5 U) (lN _) os (by first|(simp only [maxLen]; omega)|(simp [maxLen]; omega)) sm sm U fun A B=>?_
 try dsimp only
 refine aY 1 U<|Bm (aZ.cells (aZ.mk (ar.mk (bB.mk G d.ag.length H)) (bB.mk A d.ae.length B) (bB.mk nA d.aq.length nC) d.a2 d.a4)) U As U U<|RK M<|WS fun _ E=>oy U sJ U fun J=>rP 2 [] (mc 4 U mn) ?_
 refine eI (es:=(List.map bc.cells [])) (C':=[own (some ⟨J,0,none⟩) 0 82 3 (List.map bc.cells []),_,_,_,_,_,_,_]) 0 U sm U (by simp [maxLen]) U ?_
 refine dF (es2:=(List.map bc.cells d.aq)) (m':=d.aq.length) 0 U U U z0 U U sm (aO 7 U) (lM _) os (by first|(simp only [maxLen]; omega)|(simp [maxLen]; omega)) sm sm U fun C D=>?_
 try dsimp only
 refine aY 1 U<|Bn (aZ.cells (aZ.mk (ar.mk (bB.mk G d.ag.length H)) (bB.mk A d.ae.length B) (bB.mk C d.aq.length D) d.a2 d.a4)) U Ai U U<|RK E<|WS fun _ F=>rP 1 [] (mc 4 U mn) ?_
 refine tP U xu U<|RK F<|an<|LX hQ (G,H,A,B,C,D) [2,1,0] [0] (mc 3 U mn) U U U U ?_
 trivial
end
section
open Go.RowKit
theorem qe (ts:List aa) (tsA:OA) (tsC:Nat) (l:List aH) (lA:OA) (lC:Nat) (hlen:ts.length≤1000000) (hk: ∀ m∈l,0≤m.Kind∧m.Kind≤255):
 dx Tryz.prog 6 [(vA (ar.cells (ar.mk (bB.mk tsA ts.length tsC)))),(vS lA l.length lC)] [(rd tsA ts.length 9 (ts.map aa.cells)),(rd lA l.length 5 (l.map aH.cells))] (vB (decide (ff l ts.length))):=by
 refine bD kr Tryz.func6 U U fun g Q hQ hN=>?_
 try dsimp only
 refine WS fun _ W=>fN U fun f=>aY 1 U<|RK W<|aj fun _ X=>WS fun _ Y=>rP 3 [] mn ?_
 refine RK Y<|cG U (aR fun d=>?_) (aS fun d=>?_)
 ·refine WS fun _ Z=>rP 1 [] mn ?_
  refine RK Z<|an<|Q1 hQ U U U ?_
  first|exact cB (aQ (fun q=>by have:=q.1; omega)).symm|exact cB (aQ (iw hx (by simp only [dE,bf]; omega))).symm|exact cB (dm (gv I A I)).symm
 refine WK X<|aj fun _ a=>WS fun _ b=>rP 1 [] mn ?_
 refine RK b<|ax ?_
 have D:(0≤l.length)∧(∀ m∈l.take 0,dE m ts.length):=by exact ⟨Nat.zero_le _,sm⟩
 refine bu (ι:={z:Nat // (z≤l.length)∧(∀ m∈l.take z,dE m ts.length)}) [1,2] [0,1,2] U U (fun z=>[(5,(vI (z.1:Int)))]) (fun z=>[]) (fun _=>rfl) (fun _=>rfl) (fun z=>l.length-z.1) ⟨0,D⟩ (a3 U) (aL [0,1,2]) ?_
 clear D
 rintro ⟨i,⟨c,A⟩⟩ J9 V
 try dsimp only
 refine aj fun _ E=>WS fun _ F=>rP 4 [] mn ?_
 refine RK F<|bq U (aS fun O=>?_) (aR fun O=>?_)
 ·refine bj<|ab<|ab<|ay<|KK a<|WS fun _ M=>rP 1 [] mn ?_
  refine RK M<|an<|Q1 hQ U U U ?_
  first|exact cB (aQ (fun q=>by have:=q.1; omega)).symm|exact cB (aQ (iw hx (by simp only [dE,bf]; omega))).symm|exact cB (dm (gv I A I)).symm
 refine WK E<|aj fun _ G=>ax<|aj fun _ B=>eD dw 54 kr<|dP 2 [] mn ?_
 obtain ⟨x,hx⟩:=bk l i I
 have C:=bG aH.cells hx
 refine dS (IA i U (aO 2 U) oB dc I I)<|dS (o6 (i*5) U (aO 2 U) (Nat.mul_pos I dc) fY U)<|dS (g5 i 0 (Value.int .u8 x.Kind) U cA (aO 2 U) C U dc U) ?_
 have e:=hk x (aI hx)
 refine dS (SX (eJ (m:=x.Kind) U U sK mY (dr (by first|assumption|omega))) U U)<|dS (CL (fp x.Kind 1 2) (aw) U)<|dP 2 [] mn ?_
 refine dT (t:=23) U (aX fun P=>?_) (aW fun P=>?_)
 ·refine gf 45 U<|cR<|RK B<|aT U<|WS fun _ H=>rP 1 [] mn ?_
  refine RK H<|an<|Q1 hQ U U U ?_
  first|exact cB (aQ (fun q=>by have:=q.1; omega)).symm|exact cB (aQ (iw hx (by simp only [dE,bf]; omega))).symm|exact cB (dm (gv I A I)).symm
 refine gf 2 U<|dS (IA i U (aO 2 U) oB dc I I)<|dS (o6 ((i*5)+1) U (aO 2 U) (Nat.mul_pos I dc) fY U)<|dS (g5 i 1 (vI x.bx) U cA (aO 2 U) C U dc U)<|kU 3 [] (mc 0 U mn) U<|dS (CL (fp x.bx 0 (ts.length:Int)) (aw) U)<|dP 3 [] mn ?_
 refine dT (t:=35) U (aX fun R=>?_) (aW fun R=>?_)
 ·refine gf 33 U<|cR<|RK B<|aT U<|WS fun _ AB=>rP 1 [] mn ?_
  refine RK AB<|an<|Q1 hQ U U U ?_
  first|exact cB (aQ (fun q=>by have:=q.1; omega)).symm|exact cB (aQ (iw hx (by simp only [dE,bf]; omega))).symm|exact cB (dm (gv I A I)).symm
 refine gf 2 U<|dS (IA i U (aO 2 U) oB dc I I)<|dS (o6 ((i*5)+2) U (aO 2 U) (Nat.mul_pos I dc) fY U)<|dS (g5 i 2 (vI x.To) U cA (aO 2 U) C U dc U)<|kU 3 [] (mc 0 U mn) U<|dS (CL (fp x.To 0 (ts.length:Int)) (aw) U)<|dP 3 [] mn ?_
 refine dT (t:=47) U (aX fun S=>?_) (aW fun S=>?_)
 ·refine gf 21 U<|cR<|RK B<|aT U<|WS fun _ J=>rP 1 [] mn ?_
  refine RK J<|an<|Q1 hQ U U U ?_
  first|exact cB (aQ (fun q=>by have:=q.1; omega)).symm|exact cB (aQ (iw hx (by simp only [dE,bf]; omega))).symm|exact cB (dm (gv I A I)).symm
 refine gf 2 U<|dS (IA i U (aO 2 U) oB dc I I)<|dS (o6 ((i*5)+1) U (aO 2 U) (Nat.mul_pos I dc) fY U)<|dS (g5 i 1 (vI x.bx) U cA (aO 2 U) C U dc U)<|gf 2 U<|dS (IA i U (aO 2 U) oB dc I I)<|dS (o6 ((i*5)+2) U (aO 2 U) (Nat.mul_pos I dc) fY U)<|dS (g5 i 2 (vI x.To) U cA (aO 2 U) C U dc U)<|dP 3 [] mn ?_
 refine dT (t:=60) U (aR fun T=>?_) (aS fun T=>?_)
 ·refine gf 8 U<|cR<|RK B<|aT U<|WS fun _ K=>rP 1 [] mn ?_
  refine RK K<|an<|Q1 hQ U U U ?_
  first|exact cB (aQ (fun q=>by have:=q.1; omega)).symm|exact cB (aQ (iw hx (by simp only [dE,bf]; omega))).symm|exact cB (dm (gv I A I)).symm
 refine gf 2 U<|dS (IA i U (aO 2 U) oB dc I I)<|dS (o6 ((i*5)+3) U (aO 2 U) (Nat.mul_pos I dc) fY U)<|dS (mZ i 3 (al.cells x.bO) U cA (aO 2 U) C U dc U U)<|dS (CL (gY x.bO 0 360000) (aw) U)<|dP 2 [] mn ?_
 refine cR<|RK B<|cG U (aX fun AA=>?_) (aW fun AA=>?_)
 ·refine WS fun _ L=>rP 1 [] mn ?_
  refine RK L<|an<|Q1 hQ U U U ?_
  first|exact cB (aQ (fun q=>by have:=q.1; omega)).symm|exact cB (aQ (iw hx (by simp only [dE,bf]; omega))).symm|exact cB (dm (gv I A I)).symm
 refine cf<|aF<|KK G<|ai<|rP 3 [] mn ?_
 refine aB ?_
 have N:(vI (((i+1):Nat):Int))=(vI ((i:Int)+1)):=by exact cI I
 refine aU (V ⟨(i+1),⟨I,sN A hx (by simp only [dE,bf]; omega)⟩⟩ _ _ _ U os (cE.cons U<|cE.cons U<|aN U N<|cE.nil _) (aL [0,1,2]))
theorem vo (m:aH) (k:Int) (tA:OA) (tN tC g1:Nat) (hm:dE m tN) (hn:tN≤12):
 dx Tryz.prog 47 [(vI k),(vA (aH.cells m)),(vP g1)] [(cv g1 24 (ar.cells (ar.mk (bB.mk tA tN tC))))] (vB false):=by
 have C:=hm
 simp only [dE,bf] at C
 refine bD kr Tryz.func47 U U fun J Q hQ hN=>?_
 try dsimp only
 refine WS fun _ B=>fN U fun AA=>aY 1 U<|RK B<|WS fun _ A=>rP 2 [] (mc 0 U mn) ?_
 refine rS (SX (eJ (m:=m.Kind) U U sK mY (dr (by first|assumption|omega))) U U)<|df (xs:=[.tmp 8]) (cs:=[(vI m.Kind)]) U cL g0 U U U U (by simp [Value.cells]) U U fun D=>?_
 refine rS (CL (dx.eq (fk 1 2 ([m.Kind]) (some ⟨D,0,none⟩) 1 sd) cz) (av (aK 0 U U (by simp [ba]) U)<|aw) U) ?_
 refine rP 2 [] mn ?_
 refine ct (t:=12) U (aX fun F=>?_) (aW fun F=>?_)
 ·refine rP 25 [] mn ?_
  refine RK A<|an<|Q1 hQ U U U ?_
  first|rfl|(simp; omega)|(exfalso; omega)
 refine rP 7 [0,1,1] (mr 2 U (mc 1 U mn)) ?_
 refine df (xs:=[.tmp 17,.tmp 19]) (cs:=[(vI m.bx),(vI m.To)]) U cL g0 U U U U (by simp [Value.cells]) U U fun E=>?_
 refine rS (CL (dx.eq (fk 0 (tN:Int) ([m.bx,m.To]) (some ⟨E,0,none⟩) 2 sd) kN) (av (aK 0 U U (by simp [ba]) U)<|aw) U) ?_
 refine rP 3 [] mn ?_
 refine ct (t:=24) U (aX fun G=>?_) (aW fun G=>?_)
 ·refine rP 13 [] mn ?_
  refine RK A<|an<|Q1 hQ U U U ?_
  first|rfl|(simp; omega)|(exfalso; omega)
 refine rP 7 [] (mc 2 U mn) ?_
 refine ct (t:=31) U (aR fun H=>?_) (aS fun H=>?_)
 ·refine rP 6 [] mn ?_
  refine RK A<|an<|Q1 hQ U U U ?_
  first|rfl|(simp; omega)|(exfalso; omega)
 refine aY 1 U<|rS (LP (al.cells m.bO) 2 U cA U U U)<|rS (CL (ky m.bO 0 360000) (aw) U)<|rP 3 [] mn ?_
 refine RK A<|an<|Q1 hQ U U U ?_
 first|rfl|(simp; omega)|(exfalso; omega)
theorem vW (l:List aH) (lA:OA) (lC:Nat) (f:Value) (p:Int→aH→Bool) (X:ah) (hf: ∀ x0 x1,(∃ i_:Nat,x0=(i_:Int)∧l[i_]? =some x1)→uU Tryz.prog f [.int .i64 x0,.agg (aH.cells x1).toArray] [X] (.bool (p x0 x1))) (hlen:l.length≤1000000) (hno: ∀ (i_:Nat) x,l[i_]? =some x→p (i_:Int) x=false):
 dx Tryz.prog 50 [(vS lA l.length lC),f] [(rd lA l.length 5 (l.map aH.cells)),X] (vS none 0 0):=by
 refine bD kr Tryz.func50 U U fun T Q hQ hN=>?_
 try dsimp only
 refine WS fun _ H=>aY 1 U<|RK H<|WS fun _ AA=>aY 1 U<|RK AA<|aj fun _ J=>WS fun _ K=>rP 3 [] mn ?_
 refine RK K<|ax ?_
 have A:(0≤l.length):=by exact Nat.zero_le _
 refine bu (ι:={z:Nat // (z≤l.length)}) [1,5,8,9] [0,1] U U (fun z=>[(10,(vI (z.1:Int)))]) (fun z=>[]) (fun _=>rfl) (fun _=>rfl) (fun z=>l.length-z.1) ⟨0,A⟩ (a3 U) (aL [0,1]) ?_
 clear A
 rintro ⟨i,O⟩ J5 G
 try dsimp only
 refine WS fun _ L=>rP 1 [] mn ?_
 refine RK L<|aj fun _ M=>bq U (aS fun S=>?_) (aR fun S=>?_)
 ·refine bj<|ab<|ab<|ay<|KK J<|WS fun _ E=>rP 2 [] mn ?_
  refine RK E<|an<|Q1 hQ U U U ?_
  rfl
 refine WK M<|aj fun _ N=>ax<|WS fun _ C=>rP 1 [] mn ?_
 obtain ⟨x,hx⟩:=bk l i I
 have P:=bG aH.cells hx
 refine rS (IA i U (aO 0 U) oB dc I I)<|rS (mZ i 0 (aH.cells x) U cA (aO 0 U) P U dc U U)<|AL U tR fun R=>aY 1 U<|gH U tT U<|RK C<|WS fun _ D=>rP 3 [] (mc 0 U mn) ?_
 refine rS (SX (jf U U U (hf (i:Int) x ⟨_,U,hx⟩) (bg [2])) U U)<|RK D<|cG U (fun B=>?_) (fun B=>?_)
 ·rw [hno _ _ hx] at B; exact Bool.noConfusion B
 refine cf<|aF<|KK N<|ai<|rP 2 [] mn ?_
 refine aB ?_
 have F:(vI (((i+1):Nat):Int))=(vI ((i:Int)+1)):=by exact cI I
 refine aU (G ⟨(i+1),(by first|omega|(simp only []; omega))⟩ _ _ _ U os (bL 4<|aN U F<|cE.nil _) (aL [1,2]))
theorem xf (l:List aH) (lA:OA) (lC:Nat):
 jK Tryz.prog 52 [(vS lA l.length lC)] [(rd lA l.length 5 (l.map aH.cells))] (fun (x:Nat)=>(Value.func (.func 74) [].toArray [(vP x)].toArray)) (fun (x:Nat)=>True) (fun (x:Nat)=>[(cv x 33 [(vS lA l.length lC)])]):=by
 refine dh kr Tryz.func52 U U fun D Q hQ hN=>?_
 try dsimp only
 refine WS fun _ A=>sU U U fun C=>aY 1 U<|RK A<|WS fun _ B=>rS (FU U)<|rP 1 [] mn ?_
 refine RK B<|an<|LX hQ C [0] [] mn U U U U ?_
 trivial
theorem vK (ms:List aH) (msA:OA) (msC g1:Nat) (hlen:ms.length≤1000000):
 vc Tryz.prog 74 [] [(vP g1)] [(rd msA ms.length 5 (ms.map aH.cells)),(cv g1 33 [(vS msA ms.length msC)])] (oR ms):=by
 refine rq kr Tryz.func74 U U fun l J Z A0 AA Q hY L K hQ hN=>?_
 try dsimp only
 refine WS fun _ N=>rP 3 [] (mr 2 U mn) ?_
 refine RK N<|ax ?_
 have F:(0≤ms.length)∧(J 0 A0)∧(Fo A0 AA A0):=by exact ⟨I,L,K⟩
 refine bu (ι:={z:Nat×ah // (z.1≤ms.length)∧(J z.1 z.2)∧(Fo A0 AA z.2)}) [0,1,5,6] [1,2] U U (fun z=>[(7,(vI (z.1.1:Int)))]) (fun z=>[z.1.2]) (fun _=>rfl) (fun _=>rfl) (fun z=>ms.length-z.1.1) ⟨(0,A0),F⟩ (a3 U) (aL [1,2,0]) ?_
 clear F
 rintro ⟨⟨i,A⟩,⟨G,B,C⟩⟩ J2 M
 try dsimp only at G B C
 try dsimp only
 refine WS fun _ O=>rP 1 [] mn ?_
 refine RK O<|aj fun _ P=>bq U (aS fun V=>?_) (aR fun V=>?_)
 ·refine bj<|ab<|ab<|ay ?_
  refine hN _ _ _ (fZ (vs:=[]) trivial fun w hs=>yd 2 U (by rw [o2]; have e:ms.length=i:=I; rw [e]; exact B) C hs)
 refine WK P<|aj fun _ R=>ax<|WS fun _ S=>rP 1 [] mn ?_
 obtain ⟨x,hx⟩:=bk ms i I
 have T:=bG aH.cells hx
 refine rS (IA i U (aO 0 U) oB dc I I)<|rS (mZ i 0 (aH.cells x) U cA (aO 0 U) T U dc U U)<|AL U tR fun W=>aY 1 U<|gH U tT U<|RK S<|WS fun _ H=>rP 3 [] (mc 0 U mn) ?_
 refine rz 3 hY B C U U U (tL hx) U U (fun B10 E D=>?_) (fun B10 E D=>?_)
 rotate_left 1
 ·refine rP 1 [] mn ?_
  refine RK H<|aT U<|an ?_
  refine hQ _ _ _ (fZ (vs:=[]) trivial fun w hs=>we 3 U E D hs)
 refine aY 1 U<|RK H<|bp U<|cf<|aF<|KK R<|ai<|rP 2 [] mn ?_
 refine aB ?_
 have AB:(vI (((i+1):Nat):Int))=(vI ((i:Int)+1)):=by exact cI I
 refine aU (M ⟨((i+1),B10),⟨I,E,D⟩⟩ _ _ _ U os (bL 4<|aN U AB<|cE.nil _) (aL [1,2,3]))
theorem xV (gm:Nat) (l:List aH) (lA:OA) (lC b:Nat) (hlen:l.length≤1000000):
 uT Tryz.prog 73 [(Value.map (some gm)),(Value.func (.func 74) [].toArray [(vP b)].toArray)] [(rd lA l.length 5 (l.map aH.cells)),(cv b 33 [(vS lA l.length lC)])] (lW iV gm (dq (fun s=>vA (aH.cells s)) ([]:List (Int×aH)))) (fun (x:(List (Int×aH)))=>(vT [])) (fun (x:(List (Int×aH)))=>(∀ e∈x,e.2∈l)) (fun (x:(List (Int×aH)))=>(lW iV gm (dq (fun s=>vA (aH.cells s)) x))):=by
 refine k8 kr Tryz.func73 U U fun P Q hQ hN=>?_
 try dsimp only
 refine WS fun _ A=>sU U U fun K=>RK A<|WS fun _ B=>rP 1 [] mn ?_
 refine RK B<|ax<|l2 2 U (by exact fun _ h=>h)<|l2 4 U (by exact fun _ h=>h) ?_
 refine rB (L0:=[(2,(vP K))]) (F:=[(rd lA l.length 5 (l.map aH.cells)).ro,(cv b 33 [(vS lA l.length lC)]).ro]) (xs:=(oR l)) (fun k (y:(List (Int×aH)))=>((∀ e∈y,e.2∈l))) (fun k y=>[(cv K 60 [(Value.map (some gm))]),(lW iV gm (dq (fun s=>vA (aH.cells s)) y)),(rd lA l.length 5 (l.map aH.cells)).ro]) (fun _ (_:Unit)=>False) (fun _ _=>[]) [2,3,4] [1,0] ([]:List (Int×aH)) rfl rfl (vK l lA lC b (by first|assumption|omega|(simp; done))) rfl rfl rfl (by intro e he; cases he) (by simp only [List.forall_mem_cons,List.not_mem_nil,false_imp_iff,implies_true,and_true]; exact ⟨⟨_,sm,(e_ (cD _))⟩,⟨_,sm,(e_ (cD _))⟩⟩) (by exact sD) rfl (a3 rfl) ?_ ?_ (fun _ _ _ h=>h.elim) (fun _ _ h=>h.elim)
 rotate_left 1
 ·rintro O ml C
  have D:=C
  try dsimp only
  refine aF<|hN _ _ _ (qJ 0 U U<|fZ (vs:=[]) trivial fun w hs=>yD ml 4 ?_ ?_ U U hs)
  ·clear hs w hQ hN B A; rfl
  ·clear hs w hQ hN B A; exact D
 rintro k x ml lr ra rb S R K4 Qr5 hx G H E L M
 obtain ⟨x,J,rfl⟩:=ph hx
 have D:=G
 try dsimp only
 refine WS fun _ AA=>rP 1 [] mn ?_
 refine RK AA<|ai<|AL U tR fun N=>gH U tT U<|aB<|ly (fun _ _ h=>h) (aL [1,0,2,3,4])<|aU (H _ _ ?_)
 refine ax<|ai<|rP 3 [0,1] (mc 2 U (mc 1 U mn)) ?_
 refine nh (kV:=iV) (x:=(k:Int)) (C':=[_,_,_,(lW iV gm (dq (fun s=>vA (aH.cells s)) (fu ml (k:Int) x))),_]) 3 U U U U w7 (g8 mY) U (mQ _ _ _ _).symm U<|aB<|aF ?_
 exact E (fu ml (k:Int) x) _ _ (by exact uC D (aI J)) (aL [0,2,3,4])
theorem vf (l:List aH) (lA:OA) (lC b:Nat) (hlen:l.length≤1000000):
 jK Tryz.prog 51 [(Value.func (.func 74) [].toArray [(vP b)].toArray)] [(rd lA l.length 5 (l.map aH.cells)),(cv b 33 [(vS lA l.length lC)])] (fun (x:Nat×(List (Int×aH)))=>(Value.map (some x.1))) (fun (x:Nat×(List (Int×aH)))=>(∀ e∈x.2,e.2∈l)) (fun (x:Nat×(List (Int×aH)))=>[(lW iV x.1 (dq (fun s=>vA (aH.cells s)) x.2))]):=by
 refine dh kr Tryz.func51 U U fun H Q hQ hN=>?_
 try dsimp only
 refine WS fun _ A=>rP 1 [] mn ?_
 refine RK A<|WS fun _ B=>o5 (kV:=iV) U U fun F=>?_
 try dsimp only
 refine aY 1 U<|RK B<|WS fun _ C=>rP 2 [] mn ?_
 refine ia 0 U U U U (xV F l lA lC b hlen) U (fO 1 U U (e_ (cD _)) (fO 2 U U (e_ (cD _)) jS)) U (fun E G=>?_)
 try dsimp only
 refine RK C<|WS fun _ D=>rP 2 [] mn ?_
 refine RK D<|an<|LX hQ (F,E) [0] [] mn U U U U ?_
 assumption
theorem pO (ts:List aa) (tsA:OA) (tsC:Nat) (l:List aH) (lA:OA) (lC:Nat) (htr:a_ ts=true) (hside: ∀ x∈ts,0≤x.cT∧x.cT≤255) (hmo:ff l ts.length):
 jK Tryz.prog 26 [(vA (ar.cells (ar.mk (bB.mk tsA ts.length tsC)))),(vS lA l.length lC)] [(rd tsA ts.length 9 (ts.map aa.cells)),(rd lA l.length 5 (l.map aH.cells))] (fun (x:Nat×(List (Int×aH)))=>(vT [(vA (bQ.cells (bQ.mk (ar.mk (bB.mk tsA ts.length tsC))))),(Value.map (some x.1)),(vI 0)])) (fun (x:Nat×(List (Int×aH)))=>(∀ e∈x.2,e.2∈l)) (fun (x:Nat×(List (Int×aH)))=>[(lW iV x.1 (dq (fun s=>vA (aH.cells s)) x.2))]):=by
 have Z:=dy htr
 have c:=hmo.1
 have V:(if a_ ts=true then (0:Int) else 10)=0:=if_pos htr
 refine dh kr Tryz.func26 U U fun h Q hQ hN=>?_
 try dsimp only
 refine WS fun _ O=>fN U fun L=>AL U qE fun f=>aY 2 U<|RK O<|WS fun _ P=>rP 1 [] (mc 1 U mn) ?_
 refine rS (CL (lT ts tsA tsC sd hside) (bg [2]) U) ?_
 refine aY 3 U<|AL U qE fun g=>gH U p6 U<|aY 1 U<|RK P<|aj fun _ R=>WS fun _ S=>rP 2 [] mn ?_
 refine RK S<|cG U (aX fun C=>?_) (aW fun C=>?_)
 ·exact absurd V C
 refine WK R<|WS fun _ T=>rS (FU U)<|aY 1 U<|RK T<|aj fun _ AA=>WS fun _ D=>rP 4 [] mn ?_
 refine ct (t:=23) U (aR fun N=>?_) (aS fun N=>?_)
 ·exfalso; omega
 refine rP 2 [] mn ?_
 refine rS (CL (vW l lA lC (Value.func (.func 47) [].toArray [(vP L)].toArray) (fun _ _=>false) (nw [(cv L 24 (ar.cells (ar.mk (bB.mk tsA ts.length tsC))))]) (by intro W X J; exact jW (fi:=[]) (ca:=[(vP L)]) (ir (vo X W tsA ts.length tsC L (by first|assumption|(obtain ⟨d,_,A⟩:=J; exact hmo.2 _ (aI A))|omega) (by first|assumption|(obtain ⟨d,_,A⟩:=J; exact hmo.2 _ (aI A))|omega)) (bg [0]))) sd (by intro _ _ _; rfl)) (eF 4 rfl rfl<|av (jr (bg [2]))<|aw) rfl) ?_
 refine aY 1 U<|rS (SX (ck (r:= .bool false) U U U wh) U U)<|rP 1 [] mn ?_
 refine RK D<|bp U<|WK AA<|aj fun _ E=>dY dw [2,3,4,5] [] [] [0,2,3,4] [] U U U U U<|eS U (LW 0 U cA U U)<|eS U (MV U)<|eS U (AG U)<|fx U<|bN U fun T15 F=>cX (xf l lA lC) (bg [4]) U fun M a=>?_
 try dsimp only
 refine aB (F _ _ (aL [1,3,4,5]) ?_)
 refine bN U fun T19 G=>?_
 refine cX (vf l lA lC M sd) (bg [5,0]) U fun Y b=>?_
 obtain ⟨B,K⟩:=Y
 try dsimp only
 refine aB (G _ _ (aL [2,4,5,6]) ?_)
 refine bN U fun T24 H=>tP U p6 U<|aB (H _ _ (aL [2,4,5,6]) ?_)
 refine bN U fun T25 AB=>rS (AG U)<|aB (AB _ _ (aL [2,4,5,6]) ?_)
 refine f_ U<|KK E<|an<|LX hQ (B,K) [0] [0] (mc 3 U mn) U U U U ?_
 assumption
end
section
open Go.RowKit
theorem rF (A:OA) (ad:Addr) (m:Nat) (hA:A=some ad):
 dx Tryz.prog 75 [(Value.pointer (eR A m))] [] (Value.pointer (eR A (m+1))):=by
 refine bD kr Tryz.func75 U U fun D Q hQ hN=>?_
 try dsimp only
 refine WS fun _ B=>aY 1 U<|RK B<|WS fun _ C=>aY 1 U<|rS (SX (gp U U hA) U U)<|rS (Bf (m+1) U hA fY U)<|rP 1 [] mn ?_
 refine RK C<|an<|Q1 hQ U U U ?_
 rfl
theorem rD (A:OA) (ad:Addr) (m:Nat) (hA:A=some ad):
 dx Tryz.prog 76 [(Value.pointer (eR A m))] [] (Value.pointer (eR A (m+3))):=by
 refine bD kr Tryz.func76 U U fun D Q hQ hN=>?_
 try dsimp only
 refine WS fun _ B=>aY 1 U<|RK B<|WS fun _ C=>aY 1 U<|rS (SX (gp U U hA) U U)<|rS (Bf (m+3) U hA fY U)<|rP 1 [] mn ?_
 refine RK C<|an<|Q1 hQ U U U ?_
 rfl
theorem uD:
 dx Tryz.prog 54 [] [] (vA ((ee.cells (ee.mk Value.nilFunc))++(ee.cells (ee.mk (Value.func (.func 75) [].toArray [].toArray)))++(ee.cells (ee.mk (Value.func (.func 76) [].toArray [].toArray))))):=by
 refine bD kr Tryz.func54 U U fun D Q hQ hN=>?_
 try dsimp only
 refine WS fun _ A=>AL U wB fun C=>RK A<|WS fun _ B=>rS (SX (bm (xs:=[(0,.func 75)]) (cs:=(ee.cells (ee.mk (Value.func (.func 75) [].toArray [].toArray)))) U U (bl wD U)) U U)<|rS (SX (bm (xs:=[(0,.func 76)]) (cs:=(ee.cells (ee.mk (Value.func (.func 76) [].toArray [].toArray)))) U U (bl wD U)) U U)<|rS (SX (bm (xs:=[(1,.tmp 1),(2,.tmp 2)]) (cs:=((ee.cells (ee.mk Value.nilFunc))++(ee.cells (ee.mk (Value.func (.func 75) [].toArray [].toArray)))++(ee.cells (ee.mk (Value.func (.func 76) [].toArray [].toArray))))) U U (bl yr U)) U U)<|gH U wj U<|RK B<|an<|zB hQ [0] (mc 0 U mn) U ?_
 rfl
theorem uj (l:List aa) (lA:OA) (lC:Nat) (hlen:l.length≤1000000):
 jK Tryz.prog 53 [(vS lA l.length lC)] [(rd lA l.length 9 (l.map aa.cells))] (fun (x:(OA)×Nat)=>(vS x.1 l.length x.2)) (fun (x:(OA)×Nat)=>True) (fun (x:(OA)×Nat)=>[(own x.1 x.2 85 9 (l.map aa.cells))]):=by
 refine dh kr Tryz.func53 U U fun L Q hQ hN=>?_
 try dsimp only
 refine WS fun _ D=>aY 1 U<|RK D<|aj fun _ E=>WS fun _ F=>rP 1 [] mn ?_
 refine rS (BI U (tq xb))<|RK F<|cG U (aR fun B=>?_) (aS fun B=>?_)
 ·refine WS fun _ G=>pb (aO 0 U) B dc fun C=>?_
  have A:l=[]:=by simpa using C
  refine ec 85 9 ?_
  rw [show (own none 0 85 9 ([]:List (List Value)))=own none 0 85 9 (l.map aa.cells) from by rw [A]; rfl]
  refine rP 1 [] mn ?_
  refine RK G<|an ?_
  refine LX hQ (none,0) [0] [] mn U U U ?_ ?_
  ·first|rfl|(rw [A]; rfl)
  ·trivial
 refine WK E<|WS fun _ H=>oy U kd U fun J=>rP 1 [] mn ?_
 refine eI (es:=(List.map aa.cells [])) (C':=[own (some ⟨J,0,none⟩) 0 85 9 (List.map aa.cells []),_]) 0 U sm U (by simp [maxLen]) U ?_
 refine dF (es2:=(List.map aa.cells l)) (m':=l.length) 0 U U U yi U U sm (aO 1 U) (gq _) os (by (simp only [maxLen]; omega)) sm sm U fun AA K=>?_
 try dsimp only
 refine rP 1 [] mn ?_
 refine RK H<|an ?_
 refine LX hQ (AA,K) [0] [] mn U U U ?_ ?_
 ·first|rfl|(rw [A]; rfl)
 ·trivial
theorem oK (mb mc:Nat) (M:List Int) (n:Nat) (hn:n≤13) (hM:Cl n 0 M):
 uT Tryz.prog 55 [(vP mb),(vI (n:Int))] [] (own (some ⟨mb,0,none⟩) mc 107 1 (M.map iC)) (fun (x:(List Int)×Bool)=>(vB x.2)) (fun (x:(List Int)×Bool)=>x.2=true→Cl n n x.1∧ ∀ a b,a<n→b<n→mt x.1 a b≤mt M a b) (fun (x:(List Int)×Bool)=>(own (some ⟨mb,0,none⟩) mc 107 1 (x.1.map iC))):=by
 refine k8 kr Tryz.func55 U U fun w0 Q hQ hN=>?_
 try dsimp only
 refine WS fun _ w=>aY 1 U<|RK w<|aj fun _ y=>WS fun _ AC=>rP 2 [] mn ?_
 refine RK AC<|ax ?_
 have C:(0≤n)∧(Cl n 0 M)∧(∀ a b,a<n→b<n→mt M a b≤mt M a b):=by exact ⟨Nat.zero_le _,hM,fun _ _ _ _=>Int.le_refl _⟩
 refine bu (ι:={z:Nat×(List Int) // (z.1≤n)∧(Cl n z.1 z.2)∧(∀ a b,a<n→b<n→mt z.2 a b≤mt M a b)}) [0,1,9] [] U U (fun z=>[(10,(vI (z.1.1:Int)))]) (fun z=>[(own (some ⟨mb,0,none⟩) mc 107 1 (z.1.2.map iC))]) (fun _=>rfl) (fun _=>rfl) (fun z=>n-z.1.1) ⟨(0,M),C⟩ (a3 U) (aL [0]) ?_
 clear C
 rintro ⟨⟨x,M1⟩,⟨AB,B,D⟩⟩ J4 v
 try dsimp only at AB B D
 try dsimp only
 refine WS fun _ AD=>rP 1 [] mn ?_
 refine RK AD<|aj fun _ AY=>bq U (aS fun h7=>?_) (aR fun h7=>?_)
 ·refine bj<|ab<|ab<|ay<|KK y<|WS fun _ g=>rP 1 [] mn ?_
  refine RK g<|an<|LM hQ (M1,true) 0 [] mn U U U U ?_
  first|exact fun q=>Bool.noConfusion q|(obtain rfl:x=n:=I; exact fun _=>⟨B,D⟩)
 refine WK AY<|aj fun _ Al=>ax<|WS fun _ Aw=>aY 2 U<|RK Aw<|WS fun _ N=>rP 2 [] mn ?_
 refine RK N<|ax ?_
 have C:(0≤n)∧(Rd n x M1 M1 0 0):=by exact ⟨Nat.zero_le _,.zero B.len⟩
 refine bu (ι:={z:Nat×(List Int) // (z.1≤n)∧(Rd n x M1 z.2 z.1 0)}) [0,1,5,9,10,13] [] U U (fun z=>[(14,(vI (z.1.1:Int)))]) (fun z=>[(own (some ⟨mb,0,none⟩) mc 107 1 (z.1.2.map iC))]) (fun _=>rfl) (fun _=>rfl) (fun z=>n-z.1.1) ⟨(0,M1),C⟩ (a3 U) (aL [0]) ?_
 clear C
 rintro ⟨⟨i,M2⟩,⟨J,E⟩⟩ J11 L
 try dsimp only at J E
 try dsimp only
 refine WS fun _ O=>rP 1 [] mn ?_
 refine RK O<|aj fun _ P=>bq U (aS fun s=>?_) (aR fun s=>?_)
 ·refine bj<|ab<|ab<|ay<|aF<|KK Al ?_
  have r:=Rd.done B (show x<n by omega) (show Rd n x M1 M2 n 0 from by have e:i=n:=I; rw [e] at E; exact E)
  refine ai<|rP 2 [] mn ?_
  refine aB ?_
  have p:(vI (((x+1):Nat):Int))=(vI ((x:Int)+1)):=by exact cI I
  refine aU (v ⟨((x+1),M2),⟨I,r.1,fun a b ha hb=>Int.le_trans (r.2 a b ha hb) (D a b ha hb)⟩⟩ _ _ _ U os (bL 3<|aN U p<|cE.nil _) (aL [0]))
 refine WK P<|aj fun _ R=>ax<|WS fun _ S=>aY 2 U<|RK S<|WS fun _ T=>rP 2 [] mn ?_
 refine RK T<|ax ?_
 have C:(0≤n)∧(Rd n x M1 M2 i 0):=by exact ⟨Nat.zero_le _,E⟩
 refine bu (ι:={z:Nat×(List Int) // (z.1≤n)∧(Rd n x M1 z.2 i z.1)}) [0,1,5,6,9,10,13,14,17] [] U U (fun z=>[(18,(vI (z.1.1:Int)))]) (fun z=>[(own (some ⟨mb,0,none⟩) mc 107 1 (z.1.2.map iC))]) (fun _=>rfl) (fun _=>rfl) (fun z=>n-z.1.1) ⟨(0,M2),C⟩ (a3 U) (aL [0]) ?_
 clear C
 rintro ⟨⟨k,M3⟩,⟨K,A⟩⟩ J18 G
 try dsimp only at K A
 try dsimp only
 refine WS fun _ AA=>rP 1 [] mn ?_
 refine RK AA<|aj fun _ V=>bq U (aS fun t=>?_) (aR fun t=>?_)
 ·refine bj<|ab<|ab<|ay<|aF<|KK R ?_
  have A0:Rd n x M1 M3 i n:=by have e:k=n:=I; rw [e] at A; exact A
  refine ai<|rP 2 [] mn ?_
  refine aB ?_
  have m:(vI (((i+1):Nat):Int))=(vI ((i:Int)+1)):=by exact cI I
  refine aU (L ⟨((i+1),M3),⟨I,A0.row⟩⟩ _ _ _ U os (bL 6<|aN U m<|cE.nil _) (aL [0]))
 refine WK V<|aj fun _ H=>ax<|WS fun _ W=>aY 2 U<|RK W<|aj fun _ X=>eD dw 16 kr<|gf 3 U<|dS (SX (cV U U) U U)<|dS (SX (dM (k:=i) U U U eO I I) U U)<|dS (SX (dN (k:=x) (m':=((i*13+x)*1)) U U U eN I I I) U U)<|dS (g5 (i*13+x) 0 (vI (mt M3 i x)) U cA (au (n:=M3.length) 0 U sm) (dk (i:=i) (k:=x) A.len I I) U dc U)<|dP 3 [] mn ?_
 refine dS (SX (cV U U) U U)<|dS (SX (dM (k:=x) U U U eO I I) U U)<|dS (SX (dN (k:=k) (m':=((x*13+k)*1)) U U U eN I I I) U U)<|dS (g5 (x*13+k) 0 (vI (mt M3 x k)) U cA (au (n:=M3.length) 0 U sm) (dk (i:=x) (k:=k) A.len I I) U dc U) ?_
 have A2:=A.x2 hn B (show x<n by omega) (show i<n by omega) (show x<n by omega)
 have A3:=A.x2 hn B (show x<n by omega) (show x<n by omega) (show k<n by omega)
 refine gf 2 U<|cR<|RK X<|WS fun _ Y=>aY 4 U<|rS (SX (cV U U) U U)<|rS (SX (dM (k:=i) U U U eO I I) U U)<|rS (SX (dN (k:=k) (m':=((i*13+k)*1)) U U U eN I I I) U U)<|rS (g5 (i*13+k) 0 (vI (mt M3 i k)) U cA (au (n:=M3.length) 0 U sm) (dk (i:=i) (k:=k) A.len I I) U dc U)<|rP 1 [] mn ?_
 refine RK Y<|bq U (aS fun F=>?_) (aR fun F=>?_)
 ·refine cf<|aF<|KK H<|ai<|rP 2 [] mn ?_
  refine aB ?_
  have j:(vI (((k+1):Nat):Int))=(vI ((k:Int)+1)):=by exact cI I
  refine aU (G ⟨((k+1),M3),⟨I,by first|exact A.put hn B I I I F I rfl|exact A.skip B I I I F⟩⟩ _ _ _ U os (bL 9<|aN U j<|cE.nil _) (aL [0]))
 refine WS fun _ Z=>aY 4 U<|rS (SX (cV U U) U U)<|rS (SX (dM (k:=i) U U U eO I I) U U)<|rS (SX (dN (k:=k) (m':=((i*13+k)*1)) U U U eN I I I) U U)<|cw (k:=(i*13+k)) (o:=0) (vs:=[(vI ((mt M3 i x)+(mt M3 x k)))]) (es':=(List.map iC (M3.set (i*13+k) ((mt M3 i x)+(mt M3 x k))))) (C':=[(own (some ⟨mb,0,none⟩) mc 107 1 (List.map iC (M3.set (i*13+k) ((mt M3 i x)+(mt M3 x k)))))]) 0 U U U qk U U U U (dk (i:=i) (k:=k) A.len I I) U dc (by exact (List.map_set (f:=iC) (l:=M3) (i:=(i*13+k)) (a:=((mt M3 i x)+(mt M3 x k)))).symm) U<|RK Z<|WS fun _ c=>rP 3 [] mn ?_
 refine RK c<|cG U (aR fun u=>?_) (aS fun u=>?_)
 ·refine WS fun _ d=>rP 1 [] mn ?_
  refine RK d<|an<|LM hQ ((M3.set (i*13+k) ((mt M3 i x)+(mt M3 x k))),false) 0 [] mn U U U U ?_
  first|exact fun q=>Bool.noConfusion q|(obtain rfl:x=n:=I; exact fun _=>⟨B,D⟩)
 refine cf<|aF<|KK H<|ai<|rP 2 [] mn ?_
 refine aB ?_
 have h:(vI (((k+1):Nat):Int))=(vI ((k:Int)+1)):=by exact cI I
 refine aU (G ⟨((k+1),(M3.set (i*13+k) ((mt M3 i x)+(mt M3 x k)))),⟨I,by first|exact A.put hn B I I I F I rfl|exact A.skip B I I I F⟩⟩ _ _ _ U os (bL 9<|aN U h<|cE.nil _) (aL [0]))
end
end Go.Proofs.YtpfjokbjambohaaGreat
