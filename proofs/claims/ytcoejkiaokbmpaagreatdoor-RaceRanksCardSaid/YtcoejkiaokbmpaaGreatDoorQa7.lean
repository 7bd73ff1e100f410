/-
 The statement raceRanks_said, part 7 of 8: B8, Rr2, B9, WLe, Ends5, Can, False, Sim, Told, Clear, Ways, Async, WayM, DrawB, R1, Y1, Y2, Y3, Y5, Rr3.
 Conditions: none.
-/
import Derived.Test.YtcoejkiaokbmpaaGreatDoorQa1
import Derived.Test.YtcoejkiaokbmpaaGreatDoorQa2
import Derived.Test.YtcoejkiaokbmpaaGreatDoorQa3
import Derived.Test.YtcoejkiaokbmpaaGreatDoorQa4
import Derived.Test.YtcoejkiaokbmpaaGreatDoorQa5
import Derived.Test.YtcoejkiaokbmpaaGreatDoorQa6
namespace Go.Proofs.YtcoejkiaokbmpaaGreatDoor
set_option maxRecDepth 100000
set_option maxHeartbeats 4000000
set_option linter.unusedVariables false
section
open Go.RowKit
theorem Gh (l:aV) (kA:OA) (kC:Nat) (az:List RA) (cA:OA) (cC:Nat) (bA:OA) (bC:Nat) (hraw:qY l az):
 eu Tryz.prog 31 [(vA (cE.cells (jx l kA kC cA cC bA bC)))] [(rd kA l.aH.length 9 (l.aH.map ah.cells)),(rd cA l.aj.length 2 (List.zipWith al.cells l.aj az)),(du (aU al.fK l.aj az)),(rd bA l.ab.length 4 (l.ab.map bx.cells))] (vB (decide (lV l))):=by
 have htk:=hraw.r_
 have hck:=hraw.se
 have has:=hraw.qa
 have hbm:=hraw.sb
 refine bu kr Tryz.func31 rfl rfl fun w0 Q hQ hN=>?_
 try dsimp only
 refine WS fun _ hK1=>fP rfl fun b2=>rP 1 [] mn ?_
 refine RK hK1<|ai fun _ hK3=>WS fun _ hK4=>rP 1 [] mn ?_
 refine rS (LP (bL.cells (bL.mk (bB.mk kA l.aH.length kC))) 0 rfl bJ rfl rfl rfl)<|rS (CL (HA l.aH kA kC) (bh [1]) rfl)<|rP 1 [] mn ?_
 refine c8 (t:=7) rfl (aP fun h7=>?_) (aQ fun h7=>?_)
 ·refine rP 11 [] mn ?_
  refine RK hK4<|aI rfl<|WS fun _ hK5=>rP 1 [] mn ?_
  refine RK hK5<|an<|Q1 hQ rfl rfl rfl ?_
  first|exact cB (bW (.inl om)).symm|exact cB (bW (pd hx h33)).symm|exact cB (a7 (pz om om hl0_1)).symm
 refine rP 6 [] (mc 0 rfl mn) ?_
 refine c8 (t:=13) rfl (aP fun h13=>?_) (aQ fun h13=>?_)
 ·refine rP 5 [] mn ?_
  refine RK hK4<|aI rfl<|WS fun _ hK6=>rP 1 [] mn ?_
  refine RK hK6<|an<|Q1 hQ rfl rfl rfl ?_
  first|exact cB (bW (.inl om)).symm|exact cB (bW (pd hx h33)).symm|exact cB (a7 (pz om om hl0_1)).symm
 refine rP 5 [] (mc 0 rfl mn) ?_
 refine RK hK4 ?_
 refine cP rfl (aP fun h18=>?_) (aQ fun h18=>?_)
 ·refine WS fun _ hK7=>?_
  refine rP 1 [] mn ?_
  refine RK hK7<|an<|Q1 hQ rfl rfl rfl ?_
  first|exact cB (bW (.inl om)).symm|exact cB (bW (pd hx h33)).symm|exact cB (a7 (pz om om hl0_1)).symm
 refine WK hK3<|ai fun _ hK8=>WS fun _ hK9=>rP 1 [] mn ?_
 refine RK hK9<|av ?_
 have hinit:(0≤l.aj.length)∧(xD l 0):=by exact ⟨Nat.zero_le _,fun j c hj=>absurd hj (Nat.not_lt_zero _)⟩
 refine cp (ι:={z:Nat // (z≤l.aj.length)∧(xD l z)}) (fun z=>[(1,(vP b2)),(3,(vI ((z.1:Nat):Int)))]) (fun z=>[(br b2 28 (cE.cells (jx l kA kC cA cC bA bC))),(rd kA l.aH.length 9 (l.aH.map ah.cells)).ro,(rd cA l.aj.length 2 (List.zipWith al.cells l.aj az)).ro,(du (aU al.fK l.aj az)).ro,(rd bA l.ab.length 4 (l.ab.map bx.cells)).ro]) (fun z=>l.aj.length-z.1) ⟨0,hinit⟩ (aL rfl) (aG [0,1,2,3,4]) ?_
 clear hinit
 rintro ⟨i,⟨hl0_0,hl0_1⟩⟩ J10 hJ10
 try dsimp only
 refine ai fun _ hK11=>WS fun _ hK12=>rP 5 [] (mc 0 rfl mn) ?_
 refine RK hK12 ?_
 refine bM rfl (aQ fun h13=>?_) (aP fun h13=>?_)
 ·refine bp ?_
  refine ae<|ae<|au<|KK hK8<|WS fun _ hK18=>rP 1 [] mn ?_
  refine RK hK18<|an<|Q1 hQ rfl rfl rfl ?_
  first|exact cB (bW (.inl om)).symm|exact cB (bW (pd hx h33)).symm|exact cB (a7 (pz om om hl0_1)).symm
 refine WK hK11<|ai fun _ hK14=>av<|WS fun _ hK15=>rP 3 [] (mc 0 rfl mn) ?_
 obtain ⟨x,hx⟩:=aO l.aj i om
 obtain ⟨xa,hxa⟩:=aO az i om
 have hxm:(List.zipWith al.cells l.aj az)[i]? =some (al.cells x xa):=gn hx hxa
 refine rS (IA i rfl (aA 2 rfl) F_ dc om om)<|rS (mT ((i*2)+1) rfl (aA 2 rfl) (Nat.mul_pos om dc) gp rfl)<|rS (gU i 1 (vS xa.1 x.aR.length xa.2) rfl bJ (aA 2 rfl) hxm rfl dc rfl)<|rP 2 [] mn ?_
 refine RK hK15 ?_
 refine cP rfl (aP fun h33=>?_) (aQ fun h33=>?_)
 ·refine WS fun _ hK16=>?_
  refine rP 1 [] mn ?_
  refine RK hK16<|an<|Q1 hQ rfl rfl rfl ?_
  first|exact cB (bW (.inl om)).symm|exact cB (bW (pd hx h33)).symm|exact cB (a7 (pz om om hl0_1)).symm
 refine bZ<|ax<|KK hK14<|ak<|rP 3 [] mn ?_
 refine aB ?_
 have hb17:(vI (((i+1):Nat):Int))=(vI (((i:Nat):Int)+1)):=by exact cI om
 refine aN (hJ10 ⟨(i+1),⟨om,lg hl0_1 hx om⟩⟩ _ _ _ rfl os (dK.cons rfl<|aY rfl hb17<|dK.nil _) (aG [0,1,2,3,4]))
theorem vR (d m:Int) (hd:0≤d∧d≤1000) (hm:0≤m∧m≤90000000):
 eu Tryz.prog 147 [(vI d),(vI m)] [] (vI (n7 (d*m) 1000000)):=by
 have hdm:=Km (a:=d) (b:=m) (A:=1000) (B:=90000000) hd.1 hd.2 hm.1 hm.2
 refine bu kr Tryz.func147 rfl rfl fun w0 Q hQ hN=>?_
 try dsimp only
 refine WS fun _ hK1=>rP 1 [] mn ?_
 refine RK hK1<|WS fun _ hK2=>rP 2 [] mn ?_
 refine rS (BI rfl (Cf ⟨om,om⟩))<|rP 1 [] mn ?_
 refine RK hK2<|ai fun _ hK3=>WS fun _ hK4=>rP 1 [] mn ?_
 refine rS (BI rfl (KT om om))<|rP 1 [] mn ?_
 refine RK hK4 ?_
 refine cP rfl (aP fun h5=>?_) (aQ fun h5=>?_)
 ·refine WS fun _ hK6=>?_
  refine rP 1 [] mn ?_
  refine rS (BI rfl (o6 om om om))<|rP 2 [] mn ?_
  refine RK hK6<|an<|Q1 hQ rfl rfl rfl ?_
  exact cI (by unfold n7; omega)
 refine WK hK3<|WS fun _ hK7=>rP 1 [] mn ?_
 refine rS (BI rfl (o6 om om om))<|rP 1 [] mn ?_
 refine RK hK7<|an<|Q1 hQ rfl rfl rfl ?_
 exact cI (by unfold n7; omega)
theorem Gj (c:al) (sA:OA) (sC:Nat) (hlen:c.aR.length≤1000000):
 eu Tryz.prog 120 [(vA (cy.cells (cy.mk c.cJ (bB.mk sA c.aR.length sC))))] [(rd sA c.aR.length 3 (c.aR.map cR.cells))] (vB (decide (eJ c))):=by
 refine bu kr Tryz.func120 rfl rfl fun w0 Q hQ hN=>?_
 try dsimp only
 refine WS fun _ hK1=>fP rfl fun b2=>rP 1 [] mn ?_
 refine RK hK1<|ai fun _ hK3=>WS fun _ hK4=>rP 2 [] (mc 0 rfl mn) ?_
 refine rS (CL (ij c.cJ 0 1000) (aT) rfl)<|rP 2 [] mn ?_
 refine c8 (t:=14) rfl (bk fun h14=>?_) (bj fun h14=>?_)
 ·refine rP 6 [] mn ?_
  refine RK hK4<|aI rfl<|WS fun _ hK5=>rP 1 [] mn ?_
  refine RK hK5<|an<|Q1 hQ rfl rfl rfl ?_
  first|exact cB (a7 fun h=>by have q1:=h.iO; have q2:=h.len; omega).symm|exact cB (a7 fun h=>by have q:=h.sync i x hx; unfold ei at q; first|(rw [dy om] at q; omega)|(rw [eU om hy] at q; omega)|omega).symm|exact cB (a7 fun h=>by have q:=h.pair m k y x hy om hx; unfold ir at q; omega).symm|exact cB (bW (g5 om om (gD om hl4_1) om hl10_1)).symm
 refine rP 3 [] (mc 0 rfl mn) ?_
 refine rS (CL (ij ((c.aR.length:Nat):Int) 1 5) (aT) rfl)<|rP 2 [] mn ?_
 refine RK hK4 ?_
 refine cP rfl (bk fun h20=>?_) (bj fun h20=>?_)
 ·refine WS fun _ hK6=>?_
  refine rP 1 [] mn ?_
  refine RK hK6<|an<|Q1 hQ rfl rfl rfl ?_
  first|exact cB (a7 fun h=>by have q1:=h.iO; have q2:=h.len; omega).symm|exact cB (a7 fun h=>by have q:=h.sync i x hx; unfold ei at q; first|(rw [dy om] at q; omega)|(rw [eU om hy] at q; omega)|omega).symm|exact cB (a7 fun h=>by have q:=h.pair m k y x hy om hx; unfold ir at q; omega).symm|exact cB (bW (g5 om om (gD om hl4_1) om hl10_1)).symm
 refine WK hK3<|ai fun _ hK7=>WS fun _ hK8=>rP 1 [] mn ?_
 refine RK hK8<|av ?_
 have hinit:(0≤c.aR.length)∧(∀ (j:Nat) y,j<0→c.aR[j]? =some y→ei c j y):=by exact ⟨Nat.zero_le _,fun j y hj=>absurd hj (Nat.not_lt_zero _)⟩
 refine cp (ι:={z:Nat // (z≤c.aR.length)∧(∀ (j:Nat) y,j<z→c.aR[j]? =some y→ei c j y)}) (fun z=>[(1,(vP b2)),(3,(vI ((z.1:Nat):Int)))]) (fun z=>[(br b2 119 (cy.cells (cy.mk c.cJ (bB.mk sA c.aR.length sC)))),(rd sA c.aR.length 3 (c.aR.map cR.cells)).ro]) (fun z=>c.aR.length-z.1) ⟨0,hinit⟩ (aL rfl) (aG [0,1]) ?_
 clear hinit
 rintro ⟨i,⟨hl4_0,hl4_1⟩⟩ J9 hJ9
 try dsimp only
 have hpv:=E1 hl4_0 hl4_1
 refine ai fun _ hK10=>WS fun _ hK11=>rP 5 [] (mc 0 rfl mn) ?_
 refine RK hK11 ?_
 refine cP rfl (aP fun h25=>?_) (aQ fun h25=>?_)
 ·refine WK hK10 ?_
  refine ai fun _ hK12=>av<|WS fun _ hK13=>rP 3 [] (mc 0 rfl mn) ?_
  obtain ⟨x,hx⟩:=aO c.aR i om
  have hxm:=bI cR.cells hx
  refine rS (IA i rfl (aA 1 rfl) rp dc om om)<|rS (n9 i 0 (cR.cells x) rfl bJ (aA 1 rfl) hxm rfl dc rfl rfl)<|AL rfl rG fun b14=>f_ rfl qT rfl<|RK hK13<|ai fun _ hK15=>dC cD 41 kr<|dP 2 [] (mc 0 rfl mn) ?_
  refine dS (CL (ij x.At 0 86400000) (aT) rfl)<|dP 2 [] mn ?_
  refine iL (t:=37) rfl (bk fun h37=>?_) (bj fun h37=>?_)
  ·refine dP 36 [] mn ?_
   refine cO<|RK hK15<|aI rfl<|WS fun _ hK16=>rP 1 [] mn ?_
   refine RK hK16<|an<|Q1 hQ rfl rfl rfl ?_
   first|exact cB (a7 fun h=>by have q1:=h.iO; have q2:=h.len; omega).symm|exact cB (a7 fun h=>by have q:=h.sync i x hx; unfold ei at q; first|(rw [dy om] at q; omega)|(rw [eU om hy] at q; omega)|omega).symm|exact cB (a7 fun h=>by have q:=h.pair m k y x hy om hx; unfold ir at q; omega).symm|exact cB (bW (g5 om om (gD om hl4_1) om hl10_1)).symm
  refine dP 3 [] mn ?_
  refine jT (t:=40) rfl (aQ fun h40=>?_) (aP fun h40=>?_)
  ·refine dP 19 [] (mc 0 rfl mn) ?_
   refine iL (t:=59) rfl (aP fun h59=>?_) (aQ fun h59=>?_)
   ·refine dP 14 [] mn ?_
    refine cO<|RK hK15<|aI rfl<|WS fun _ hK22=>rP 1 [] mn ?_
    refine RK hK22<|an<|Q1 hQ rfl rfl rfl ?_
    first|exact cB (a7 fun h=>by have q1:=h.iO; have q2:=h.len; omega).symm|exact cB (a7 fun h=>by have q:=h.sync i x hx; unfold ei at q; first|(rw [dy om] at q; omega)|(rw [eU om hy] at q; omega)|omega).symm|exact cB (a7 fun h=>by have q:=h.pair m k y x hy om hx; unfold ir at q; omega).symm|exact cB (bW (g5 om om (gD om hl4_1) om hl10_1)).symm
   refine dP 9 [] (mc 0 rfl mn) ?_
   refine iL (t:=68) rfl (aP fun h68=>?_) (aQ fun h68=>?_)
   ·refine dP 5 [] mn ?_
    refine cO<|RK hK15<|aI rfl<|WS fun _ hK23=>rP 1 [] mn ?_
    refine RK hK23<|an<|Q1 hQ rfl rfl rfl ?_
    first|exact cB (a7 fun h=>by have q1:=h.iO; have q2:=h.len; omega).symm|exact cB (a7 fun h=>by have q:=h.sync i x hx; unfold ei at q; first|(rw [dy om] at q; omega)|(rw [eU om hy] at q; omega)|omega).symm|exact cB (a7 fun h=>by have q:=h.pair m k y x hy om hx; unfold ir at q; omega).symm|exact cB (bW (g5 om om (gD om hl4_1) om hl10_1)).symm
   refine dP 5 [] (mc 0 rfl mn) ?_
   refine cO<|RK hK15 ?_
   refine bM rfl (aQ fun h73=>?_) (aP fun h73=>?_)
   ·refine bZ ?_
    refine ax<|KK hK12<|ak<|rP 3 [] mn ?_
    refine aB ?_
    have hb25:(vI (((i+1):Nat):Int))=(vI (((i:Nat):Int)+1)):=by exact cI om
    refine aN (hJ9 ⟨(i+1),⟨om,lg hl4_1 hx (by unfold ei; first|(rw [dy om]; omega)|(rw [eU om hy]; omega))⟩⟩ _ _ _ rfl os (dK.cons rfl<|aY rfl hb25<|dK.nil _) (aG [1,2]))
   refine WS fun _ hK24=>rP 1 [] mn ?_
   refine RK hK24<|an<|Q1 hQ rfl rfl rfl ?_
   first|exact cB (a7 fun h=>by have q1:=h.iO; have q2:=h.len; omega).symm|exact cB (a7 fun h=>by have q:=h.sync i x hx; unfold ei at q; first|(rw [dy om] at q; omega)|(rw [eU om hy] at q; omega)|omega).symm|exact cB (a7 fun h=>by have q:=h.pair m k y x hy om hx; unfold ir at q; omega).symm|exact cB (bW (g5 om om (gD om hl4_1) om hl10_1)).symm
  refine dP 6 [0,1] (mc 0 rfl (mc 1 rfl mn)) ?_
  obtain ⟨y,hy⟩:=aO c.aR (i-1) om
  have hym:=bI cR.cells hy
  refine dS (IA (i-1) rfl (aA 2 rfl) rp dc om om)<|dS (mT ((i-1)*3) rfl (aA 2 rfl) (Nat.mul_pos om dc) gp rfl)<|dS (gU (i-1) 0 (vI y.At) rfl bJ (aA 2 rfl) hym rfl dc rfl)<|dP 4 [] mn ?_
  refine iL (t:=53) rfl (aP fun h53=>?_) (aQ fun h53=>?_)
  ·refine dP 20 [] mn ?_
   refine cO<|RK hK15<|aI rfl<|WS fun _ hK17=>rP 1 [] mn ?_
   refine RK hK17<|an<|Q1 hQ rfl rfl rfl ?_
   first|exact cB (a7 fun h=>by have q1:=h.iO; have q2:=h.len; omega).symm|exact cB (a7 fun h=>by have q:=h.sync i x hx; unfold ei at q; first|(rw [dy om] at q; omega)|(rw [eU om hy] at q; omega)|omega).symm|exact cB (a7 fun h=>by have q:=h.pair m k y x hy om hx; unfold ir at q; omega).symm|exact cB (bW (g5 om om (gD om hl4_1) om hl10_1)).symm
  refine dP 6 [] (mc 0 rfl mn) ?_
  refine iL (t:=59) rfl (aP fun h59=>?_) (aQ fun h59=>?_)
  ·refine dP 14 [] mn ?_
   refine cO<|RK hK15<|aI rfl<|WS fun _ hK18=>rP 1 [] mn ?_
   refine RK hK18<|an<|Q1 hQ rfl rfl rfl ?_
   first|exact cB (a7 fun h=>by have q1:=h.iO; have q2:=h.len; omega).symm|exact cB (a7 fun h=>by have q:=h.sync i x hx; unfold ei at q; first|(rw [dy om] at q; omega)|(rw [eU om hy] at q; omega)|omega).symm|exact cB (a7 fun h=>by have q:=h.pair m k y x hy om hx; unfold ir at q; omega).symm|exact cB (bW (g5 om om (gD om hl4_1) om hl10_1)).symm
  refine dP 9 [] (mc 0 rfl mn) ?_
  refine iL (t:=68) rfl (aP fun h68=>?_) (aQ fun h68=>?_)
  ·refine dP 5 [] mn ?_
   refine cO<|RK hK15<|aI rfl<|WS fun _ hK19=>rP 1 [] mn ?_
   refine RK hK19<|an<|Q1 hQ rfl rfl rfl ?_
   first|exact cB (a7 fun h=>by have q1:=h.iO; have q2:=h.len; omega).symm|exact cB (a7 fun h=>by have q:=h.sync i x hx; unfold ei at q; first|(rw [dy om] at q; omega)|(rw [eU om hy] at q; omega)|omega).symm|exact cB (a7 fun h=>by have q:=h.pair m k y x hy om hx; unfold ir at q; omega).symm|exact cB (bW (g5 om om (gD om hl4_1) om hl10_1)).symm
  refine dP 5 [] (mc 0 rfl mn) ?_
  refine cO<|RK hK15 ?_
  refine bM rfl (aQ fun h73=>?_) (aP fun h73=>?_)
  ·refine bZ ?_
   refine ax<|KK hK12<|ak<|rP 3 [] mn ?_
   refine aB ?_
   have hb21:(vI (((i+1):Nat):Int))=(vI (((i:Nat):Int)+1)):=by exact cI om
   refine aN (hJ9 ⟨(i+1),⟨om,lg hl4_1 hx (by unfold ei; first|(rw [dy om]; omega)|(rw [eU om hy]; omega))⟩⟩ _ _ _ rfl os (dK.cons rfl<|aY rfl hb21<|dK.nil _) (aG [1,2]))
  refine WS fun _ hK20=>rP 1 [] mn ?_
  refine RK hK20<|an<|Q1 hQ rfl rfl rfl ?_
  first|exact cB (a7 fun h=>by have q1:=h.iO; have q2:=h.len; omega).symm|exact cB (a7 fun h=>by have q:=h.sync i x hx; unfold ei at q; first|(rw [dy om] at q; omega)|(rw [eU om hy] at q; omega)|omega).symm|exact cB (a7 fun h=>by have q:=h.pair m k y x hy om hx; unfold ir at q; omega).symm|exact cB (bW (g5 om om (gD om hl4_1) om hl10_1)).symm
 refine bp<|ae<|ae<|au<|KK hK7<|ai fun _ hK26=>WS fun _ hK27=>rP 1 [] mn ?_
 refine RK hK27<|av ?_
 have hinit:(0≤c.aR.length)∧(qK c 0):=by exact ⟨Nat.zero_le _,fun j y hj=>absurd hj (Nat.not_lt_zero _)⟩
 refine cp (ι:={z:Nat // (z≤c.aR.length)∧(qK c z)}) (fun z=>[(1,(vP b2)),(5,(vI ((z.1:Nat):Int)))]) (fun z=>[(br b2 119 (cy.cells (cy.mk c.cJ (bB.mk sA c.aR.length sC)))),(rd sA c.aR.length 3 (c.aR.map cR.cells)).ro]) (fun z=>c.aR.length-z.1) ⟨0,hinit⟩ (aL rfl) (aG [0,1]) ?_
 clear hinit
 rintro ⟨m,⟨hl10_0,hl10_1⟩⟩ J28 hJ28
 try dsimp only
 have hall:=gD (P:=ei c) om hl4_1
 refine ai fun _ hK29=>WS fun _ hK30=>rP 5 [] (mc 0 rfl mn) ?_
 refine RK hK30 ?_
 refine bM rfl (aQ fun h78=>?_) (aP fun h78=>?_)
 ·refine bp ?_
  refine ae<|ae<|au<|KK hK26<|WS fun _ hK50=>rP 1 [] mn ?_
  refine RK hK50<|an<|Q1 hQ rfl rfl rfl ?_
  first|exact cB (a7 fun h=>by have q1:=h.iO; have q2:=h.len; omega).symm|exact cB (a7 fun h=>by have q:=h.sync i x hx; unfold ei at q; first|(rw [dy om] at q; omega)|(rw [eU om hy] at q; omega)|omega).symm|exact cB (a7 fun h=>by have q:=h.pair m k y x hy om hx; unfold ir at q; omega).symm|exact cB (bW (g5 om om (gD om hl4_1) om hl10_1)).symm
 refine WK hK29<|ai fun _ hK31=>av<|WS fun _ hK32=>rP 1 [] mn ?_
 refine RK hK32<|av ?_
 have hinit:(0≤m)∧(∀ y,c.aR[m]? =some y→B8 c y 0):=by exact ⟨Nat.zero_le _,fun y _ j o hj=>absurd hj (Nat.not_lt_zero _)⟩
 refine cp (ι:={z:Nat // (z≤m)∧(∀ y,c.aR[m]? =some y→B8 c y z)}) (fun z=>[(1,(vP b2)),(5,(vI ((m:Nat):Int))),(6,(vI ((z.1:Nat):Int)))]) (fun z=>[(br b2 119 (cy.cells (cy.mk c.cJ (bB.mk sA c.aR.length sC)))),(rd sA c.aR.length 3 (c.aR.map cR.cells)).ro]) (fun z=>m-z.1) ⟨0,hinit⟩ (aL rfl) (aG [0,1]) ?_
 clear hinit
 rintro ⟨k,⟨hl13_0,hl13_1⟩⟩ J33 hJ33
 try dsimp only
 refine ai fun _ hK34=>WS fun _ hK35=>rP 3 [] mn ?_
 refine RK hK35 ?_
 refine bM rfl (aQ fun h83=>?_) (aP fun h83=>?_)
 ·refine bp ?_
  refine ae<|ae<|au<|ax<|KK hK31<|ak<|rP 3 [] mn ?_
  refine aB ?_
  have hb49:(vI (((m+1):Nat):Int))=(vI (((m:Nat):Int)+1)):=by exact cI om
  refine aN (hJ28 ⟨(m+1),⟨om,Af hl10_1 hl13_1 om⟩⟩ _ _ _ rfl os (dK.cons rfl<|aY rfl hb49<|dK.nil _) (aG [0,1]))
 refine WK hK34<|ai fun _ hK36=>av<|ai fun _ hK37=>pG cD [0,1,2,3,4,5,6,7,8,9] [10,11,12,13] [false,false,false,false,false,false,false,false,false,false] [] [(br b2 119 (cy.cells (cy.mk c.cJ (bB.mk sA c.aR.length sC)))),(rd sA c.aR.length 3 (c.aR.map cR.cells)).ro] [] kr (aG [0,1]) (aG [])<|eS rfl (FA 1 rfl gp rfl)<|eS rfl (L1 (vS sA c.aR.length sC) 0 rfl bJ rfl rfl)<|eS rfl (MV rfl) ?_
 obtain ⟨x,hx⟩:=aO c.aR k om
 have hxm:=bI cR.cells hx
 refine eS rfl (IA k rfl (aA 1 rfl) rp dc om om)<|eS rfl (n9 k 0 (cR.cells x) rfl bJ (aA 1 rfl) hxm rfl dc rfl rfl)<|eS rfl (FA 1 rfl gp rfl)<|eS rfl (L1 (vS sA c.aR.length sC) 0 rfl bJ rfl rfl)<|eS rfl (MV rfl) ?_
 obtain ⟨y,hy⟩:=aO c.aR m om
 have hym:=bI cR.cells hy
 refine eS rfl (IA m rfl (aA 1 rfl) rp dc om om)<|eS rfl (n9 m 0 (cR.cells y) rfl bJ (aA 1 rfl) hym rfl dc rfl rfl)<|fp rfl ?_
 refine ox [10,11] kr (jG ?_<|jG ?_<|qP)
 rotate_left 1
 ·refine NO rfl rfl [10,12,13] fun T38 hT38=>?_
  refine AL rfl rG fun b39=>RD hT38 1 rfl<|N1 10<|NO rfl rfl [12,13] fun T40 hT40=>AL rfl rG fun b41=>RD hT40 2 rfl<|N1 12<|NO rfl rfl [13] fun T42 hT42=>f_ rfl qT rfl<|RD hT42 2 rfl ?_
  refine N1 13<|NO rfl rfl [] fun T43 hT43=>oV rfl qT rfl<|RD hT43 2 rfl<|oP<|KK hK37<|WS fun _ hK44=>rP 6 [0,1,2] (mc 2 rfl (mc 1 rfl (mc 0 rfl mn))) ?_
  obtain ⟨hq1,hq2,hq3⟩:=sG (fun j z _ hz=>hall j z hz) hy (hall _ _ hy) (show k<m by omega) hx
  refine rP 1 [] mn ?_
  refine rS (CL (vR c.cJ (y.At-x.At) om sd) (aT) rfl)<|rP 1 [] mn ?_
  refine RK hK44<|WS fun _ hK45=>rP 10 [0,1] (mc 0 rfl (mc 1 rfl mn)) ?_
  refine c8 (t:=113) rfl (aP fun h113=>?_) (aQ fun h113=>?_)
  ·refine rP 10 [] mn ?_
   refine RK hK45<|aI rfl<|WS fun _ hK46=>rP 1 [] mn ?_
   refine RK hK46<|an<|Q1 hQ rfl rfl rfl ?_
   first|exact cB (a7 fun h=>by have q1:=h.iO; have q2:=h.len; omega).symm|exact cB (a7 fun h=>by have q:=h.sync i x hx; unfold ei at q; first|(rw [dy om] at q; omega)|(rw [eU om hy] at q; omega)|omega).symm|exact cB (a7 fun h=>by have q:=h.pair m k y x hy om hx; unfold ir at q; omega).symm|exact cB (bW (g5 om om (gD om hl4_1) om hl10_1)).symm
  refine rP 10 [0,1] (mc 1 rfl (mc 0 rfl mn)) ?_
  refine RK hK45 ?_
  refine bM rfl (aQ fun h123=>?_) (aP fun h123=>?_)
  ·refine bZ ?_
   refine ax<|KK hK36<|ak<|rP 3 [] mn ?_
   refine aB ?_
   have hb48:(vI (((k+1):Nat):Int))=(vI (((k:Nat):Int)+1)):=by exact cI om
   refine aN (hJ33 ⟨(k+1),⟨om,fun z hz=>by rw [hy] at hz; cases hz; exact lg (hl13_1 _ hy) hx (by unfold ir; omega)⟩⟩ _ _ _ rfl os (dK.cons rfl<|dK.cons rfl<|aY rfl hb48<|dK.nil _) (aG [2,3]))
  refine WS fun _ hK47=>rP 1 [] mn ?_
  refine RK hK47<|an<|Q1 hQ rfl rfl rfl ?_
  first|exact cB (a7 fun h=>by have q1:=h.iO; have q2:=h.len; omega).symm|exact cB (a7 fun h=>by have q:=h.sync i x hx; unfold ei at q; first|(rw [dy om] at q; omega)|(rw [eU om hy] at q; omega)|omega).symm|exact cB (a7 fun h=>by have q:=h.pair m k y x hy om hx; unfold ir at q; omega).symm|exact cB (bW (g5 om om (gD om hl4_1) om hl10_1)).symm
 refine NO rfl rfl [11,12,13] fun T38 hT38=>AL rfl rG fun b39=>RD hT38 1 rfl<|N1 11<|NO rfl rfl [12,13] fun T40 hT40=>AL rfl rG fun b41=>RD hT40 2 rfl<|N1 12<|NO rfl rfl [13] fun T42 hT42=>oV rfl qT rfl ?_
 refine RD hT42 2 rfl<|N1 13<|NO rfl rfl [] fun T43 hT43=>f_ rfl qT rfl<|RD hT43 2 rfl<|oP<|KK hK37<|WS fun _ hK44=>rP 6 [0,1,2] (mc 2 rfl (mc 0 rfl (mc 1 rfl mn))) ?_
 obtain ⟨hq1,hq2,hq3⟩:=sG (fun j z _ hz=>hall j z hz) hy (hall _ _ hy) (show k<m by omega) hx
 refine rP 1 [] mn ?_
 refine rS (CL (vR c.cJ (y.At-x.At) om sd) (aT) rfl)<|rP 1 [] mn ?_
 refine RK hK44<|WS fun _ hK45=>rP 10 [0,1] (mc 1 rfl (mc 0 rfl mn)) ?_
 refine c8 (t:=113) rfl (aP fun h113=>?_) (aQ fun h113=>?_)
 ·refine rP 10 [] mn ?_
  refine RK hK45<|aI rfl<|WS fun _ hK46=>rP 1 [] mn ?_
  refine RK hK46<|an<|Q1 hQ rfl rfl rfl ?_
  first|exact cB (a7 fun h=>by have q1:=h.iO; have q2:=h.len; omega).symm|exact cB (a7 fun h=>by have q:=h.sync i x hx; unfold ei at q; first|(rw [dy om] at q; omega)|(rw [eU om hy] at q; omega)|omega).symm|exact cB (a7 fun h=>by have q:=h.pair m k y x hy om hx; unfold ir at q; omega).symm|exact cB (bW (g5 om om (gD om hl4_1) om hl10_1)).symm
 refine rP 10 [0,1] (mc 0 rfl (mc 1 rfl mn)) ?_
 refine RK hK45 ?_
 refine bM rfl (aQ fun h123=>?_) (aP fun h123=>?_)
 ·refine bZ ?_
  refine ax<|KK hK36<|ak<|rP 3 [] mn ?_
  refine aB ?_
  have hb48:(vI (((k+1):Nat):Int))=(vI (((k:Nat):Int)+1)):=by exact cI om
  refine aN (hJ33 ⟨(k+1),⟨om,fun z hz=>by rw [hy] at hz; cases hz; exact lg (hl13_1 _ hy) hx (by unfold ir; omega)⟩⟩ _ _ _ rfl os (dK.cons rfl<|dK.cons rfl<|aY rfl hb48<|dK.nil _) (aG [2,3]))
 refine WS fun _ hK47=>rP 1 [] mn ?_
 refine RK hK47<|an<|Q1 hQ rfl rfl rfl ?_
 first|exact cB (a7 fun h=>by have q1:=h.iO; have q2:=h.len; omega).symm|exact cB (a7 fun h=>by have q:=h.sync i x hx; unfold ei at q; first|(rw [dy om] at q; omega)|(rw [eU om hy] at q; omega)|omega).symm|exact cB (a7 fun h=>by have q:=h.pair m k y x hy om hx; unfold ir at q; omega).symm|exact cB (bW (g5 om om (gD om hl4_1) om hl10_1)).symm
theorem zT (c:al) (sA:OA) (sC:Nat) (at_:Int) (hc:eJ c) (ha:0≤at_∧at_≤90000000):
 eu Tryz.prog 178 [(vA (cy.cells (cy.mk c.cJ (bB.mk sA c.aR.length sC)))),(vI at_)] [(rd sA c.aR.length 3 (c.aR.map cR.cells))] (vA (aa.cells (gN c at_))):=by
 have hcl:=hc.len
 have hcd:=hc.iO
 refine bu kr Tryz.func178 rfl rfl fun w0 Q hQ hN=>?_
 try dsimp only
 refine WS fun _ hK1=>fP rfl fun b2=>AL rfl cV fun b3=>RK hK1<|WS fun _ hK4=>AL rfl cV fun b5=>RK hK4<|ai fun _ hK6=>WS fun _ hK7=>rP 1 [] mn ?_
 refine RK hK7<|av ?_
 have hinit:(0≤c.aR.length):=by exact Nat.zero_le _
 refine cp (ι:={z:Nat // (z≤c.aR.length)}) (fun z=>[(1,(vI at_)),(2,(vP b2)),(4,(vP b3)),(5,(vP b5)),(6,(vI ((z.1:Nat):Int)))]) (fun z=>[(br b5 47 (aa.cells (jt c at_ z.1))),(br b3 47 (aa.cells (aa.mk 0 0))),(br b2 119 (cy.cells (cy.mk c.cJ (bB.mk sA c.aR.length sC)))),(rd sA c.aR.length 3 (c.aR.map cR.cells)).ro]) (fun z=>c.aR.length-z.1) ⟨0,hinit⟩ (aL rfl) (aG [0,1,2,3]) ?_
 clear hinit
 rintro ⟨i,hl0_0⟩ J8 hJ8
 try dsimp only
 refine ai fun _ hK9=>WS fun _ hK10=>rP 5 [] (mc 2 rfl mn) ?_
 refine RK hK10 ?_
 refine bM rfl (aQ fun h11=>?_) (aP fun h11=>?_)
 ·refine bp ?_
  refine ae<|ae<|au<|KK hK6<|WS fun _ hK24=>rP 1 [] (mc 0 rfl mn) ?_
  refine oV rfl bY rfl<|RK hK24<|an ?_
  refine hQ _ _ _ (aZ (vs:=[(vA (aa.cells (jt c at_ i)))]) ⟨⟨_,rfl,.inl ⟨_,_,bJ,bQ (vs:=(aa.cells (jt c at_ i))) 1 rfl rfl,rfl,rfl⟩⟩,trivial⟩ fun w hs=>eM ?_ hs)
  show (vA (aa.cells (jt c at_ i)))=(vA (aa.cells (gN c at_)))
  clear hs w hQ hN hK24 hK10 hK9 hK7 hK6 hK4 hK1
  rw [Am hc (show c.aR.length≤i by omega)]
 refine WK hK9<|ai fun _ hK12=>av<|WS fun _ hK13=>rP 3 [] (mc 2 rfl mn) ?_
 obtain ⟨x,hx⟩:=aO c.aR i om
 have hxm:=bI cR.cells hx
 refine rS (IA i rfl (aA 3 rfl) rp dc om om)<|rS (n9 i 0 (cR.cells x) rfl bJ (aA 3 rfl) hxm rfl dc rfl rfl)<|AL rfl rG fun b14=>f_ rfl qT rfl<|RK hK13<|WS fun _ hK15=>rP 2 [] (mc 3 rfl mn) ?_
 have hsb:=hc.sS hx
 have hob:0≤n7 (c.cJ*max (at_-x.At) (x.At-at_)) 1000000∧n7 (c.cJ*max (at_-x.At) (x.At-at_)) 1000000≤90001:=sk hcd ha hsb.1
 refine rP 8 [] (mc 0 rfl mn) ?_
 refine rS (MX rfl)<|rS (CL (vR c.cJ (max (at_-x.At) (x.At-at_)) om sd) (aT) rfl)<|rP 1 [] mn ?_
 refine RK hK15<|WS fun _ hK16=>rP 10 [] (mc 0 rfl mn) ?_
 refine rS (SX (bg (xs:=[(0,.tmp 38),(1,.tmp 43)]) (cs:=(aa.cells (aa.mk (x.d_.Lo-(n7 (c.cJ*(max (at_-x.At) (x.At-at_))) 1000000)) (x.d_.Hi+(n7 (c.cJ*(max (at_-x.At) (x.At-at_))) 1000000))))) rfl rfl (bf fg rfl)) rfl rfl)<|AL rfl cV fun b17=>f_ rfl bY rfl<|RK hK16<|ai fun _ hK18=>WS fun _ hK19=>rP 2 [] mn ?_
 refine RK hK19 ?_
 refine bM rfl (aQ fun h46=>?_) (aP fun h46=>?_)
 ·refine WK hK18 ?_
  refine ak<|rP 4 [0,1] (mc 2 rfl (mc 0 rfl mn)) ?_
  refine rS (MX rfl)<|rP 4 [0,1] (mc 2 rfl (mc 0 rfl mn)) ?_
  refine rS (MN rfl)<|rS (SX (bg (xs:=[(0,.tmp 52),(1,.tmp 57)]) (cs:=(aa.cells (aa.mk (max ((jt c at_ i).Lo) (x.d_.Lo-(n7 (c.cJ*(max (at_-x.At) (x.At-at_))) 1000000))) (min ((jt c at_ i).Hi) (x.d_.Hi+(n7 (c.cJ*(max (at_-x.At) (x.At-at_))) 1000000)))))) rfl rfl (bf fg rfl)) rfl rfl)<|wb rfl bY rfl<|aB<|ax<|KK hK12 ?_
  have hb22:(aa.cells (aa.mk (max ((jt c at_ i).Lo) (x.d_.Lo-(n7 (c.cJ*(max (at_-x.At) (x.At-at_))) 1000000))) (min ((jt c at_ i).Hi) (x.d_.Hi+(n7 (c.cJ*(max (at_-x.At) (x.At-at_))) 1000000)))))=(aa.cells (jt c at_ (i+1))):=by first|exact congrArg aa.cells (rN hc ha hx om).symm|exact congrArg aa.cells (tv hx om).symm
  rw [hb22]
  refine ak<|rP 3 [] mn ?_
  refine aB ?_
  have hb23:(vI (((i+1):Nat):Int))=(vI (((i:Nat):Int)+1)):=by exact cI om
  refine aN (hJ8 ⟨(i+1),(by first|omega|(simp only []; omega))⟩ _ _ _ rfl os (cv 4<|aY rfl hb23<|dK.nil _) (aG [2,3,4,5]))
 refine ak<|rP 1 [] (mc 0 rfl mn) ?_
 refine wb rfl bY rfl<|RK hK18<|ak<|rP 4 [0,1] (mc 2 rfl (mc 0 rfl mn)) ?_
 refine rS (MX rfl)<|rP 4 [0,1] (mc 2 rfl (mc 0 rfl mn)) ?_
 refine rS (MN rfl)<|rS (SX (bg (xs:=[(0,.tmp 52),(1,.tmp 57)]) (cs:=(aa.cells (aa.mk (max (x.d_.Lo-(n7 (c.cJ*(max (at_-x.At) (x.At-at_))) 1000000)) (x.d_.Lo-(n7 (c.cJ*(max (at_-x.At) (x.At-at_))) 1000000))) (min (x.d_.Hi+(n7 (c.cJ*(max (at_-x.At) (x.At-at_))) 1000000)) (x.d_.Hi+(n7 (c.cJ*(max (at_-x.At) (x.At-at_))) 1000000)))))) rfl rfl (bf fg rfl)) rfl rfl)<|wb rfl bY rfl<|aB<|ax<|KK hK12 ?_
 have hb20:(aa.cells (aa.mk (max (x.d_.Lo-(n7 (c.cJ*(max (at_-x.At) (x.At-at_))) 1000000)) (x.d_.Lo-(n7 (c.cJ*(max (at_-x.At) (x.At-at_))) 1000000))) (min (x.d_.Hi+(n7 (c.cJ*(max (at_-x.At) (x.At-at_))) 1000000)) (x.d_.Hi+(n7 (c.cJ*(max (at_-x.At) (x.At-at_))) 1000000)))))=(aa.cells (jt c at_ (i+1))):=by first|exact congrArg aa.cells (rN hc ha hx om).symm|exact congrArg aa.cells (tv hx om).symm
 rw [hb20]
 refine ak<|rP 3 [] mn ?_
 refine aB ?_
 have hb21:(vI (((i+1):Nat):Int))=(vI (((i:Nat):Int)+1)):=by exact cI om
 refine aN (hJ8 ⟨(i+1),(by first|omega|(simp only []; omega))⟩ _ _ _ rfl os (cv 4<|aY rfl hb21<|dK.nil _) (aG [2,3,4,5]))
theorem GB (l:aV) (kA:OA) (kC:Nat) (az:List RA) (cA:OA) (cC:Nat) (bA:OA) (bC:Nat) (n:Int) (hin:eN l az) (htr:cx l.aH=true) (hbk: ∀ b∈l.ab,js l b) (hn:0≤n∧n<(l.ab.length:Int)):
 eu Tryz.prog 122 [(vA (cE.cells (jx l kA kC cA cC bA bC))),(vI n)] [(rd kA l.aH.length 9 (l.aH.map ah.cells)),(rd cA l.aj.length 2 (List.zipWith al.cells l.aj az)),(du (aU al.fK l.aj az)),(rd bA l.ab.length 4 (l.ab.map bx.cells))] (vI (mh l n.toNat)):=by
 have htk:=hin.r_
 have hck:=hin.se
 have has:=hin.qa
 have hbm:=hin.sb
 have hsd:=hin.side
 refine bu kr Tryz.func122 rfl rfl fun w0 Q hQ hN=>?_
 try dsimp only
 refine WS fun _ hK1=>fP rfl fun b2=>rP 1 [] mn ?_
 refine RK hK1<|ai fun _ hK3=>WS fun _ hK4=>rP 2 [] mn ?_
 refine RK hK4 ?_
 refine cP rfl (aP fun h10=>?_) (aQ fun h10=>?_)
 ·refine ai fun _ hK5=>?_
  refine ep cD [11,12] [] [] [0,1,2,3,4] [] rfl rfl rfl rfl rfl<|eS rfl (FA 0 rfl gp rfl)<|eS rfl (LP (bL.cells (bL.mk (bB.mk kA l.aH.length kC))) 0 rfl bJ rfl rfl rfl)<|eS rfl (FA 3 rfl gp rfl)<|eS rfl (L1 (vS bA l.ab.length bC) 0 rfl bJ rfl rfl) ?_
  obtain ⟨y,hy⟩:=aO l.ab 0 om
  have hym:=bI bx.cells hy
  refine eS rfl (IA 0 rfl (aA 4 rfl) wi dc rfl om)<|eS rfl (mT (0*4) rfl (aA 4 rfl) (Nat.mul_pos om dc) gp rfl)<|eS rfl (n9 0 0 (cL.cells y.lU) rfl bJ (aA 4 rfl) hym rfl dc rfl rfl)<|eS rfl (CL (Mm l.aH kA kC y.lU sd sd) (bh [1]) rfl)<|eS rfl (MV rfl)<|eS rfl (EX rfl)<|eS rfl (EX rfl)<|eS rfl (AG rfl)<|fp rfl<|cr rfl fun T6 hT6=>?_
  refine AL rfl cV fun b7=>?_
  refine aB (hT6 _ _ (aG [1,2,3,4,5]) ?_)
  refine cr rfl fun T8 hT8=>f_ rfl bY rfl ?_
  refine aB (hT8 _ _ (aG [1,2,3,4,5]) ?_)
  refine gh rfl<|KK hK5<|WS fun _ hK9=>rP 3 [] (mc 0 rfl mn) ?_
  refine RK hK9<|an<|Q1 hQ rfl rfl rfl ?_
  first|(refine cI ?_; rw [show n.toNat=0 by omega]; rw [pX hy,(nT htr (hbk _ (aw hy)).1).2])|(refine cI ?_; rw [rl om hx (by rw [show n.toNat-1=(n-1).toNat by omega]; exact hy),(cM htr ⟨(hbk _ (aw hy)).1,(hbk _ (aw hx)).1⟩).2])
 refine WK hK3<|ai fun _ hK10=>ep cD [19,20] [] [] [0,1,2,3,4] [] rfl rfl rfl rfl rfl<|eS rfl (FA 0 rfl gp rfl)<|eS rfl (LP (bL.cells (bL.mk (bB.mk kA l.aH.length kC))) 0 rfl bJ rfl rfl rfl)<|eS rfl (FA 3 rfl gp rfl)<|eS rfl (L1 (vS bA l.ab.length bC) 0 rfl bJ rfl rfl)<|eS rfl (MV rfl)<|eS rfl (BI rfl (tM ⟨om,om⟩)) ?_
 obtain ⟨y,hy⟩:=aO l.ab (((n-1)).toNat) om
 have hym:=bI bx.cells hy
 refine eS rfl (IA (((n-1)).toNat) rfl (aA 4 rfl) wi dc om om)<|eS rfl (mT ((((n-1)).toNat)*4) rfl (aA 4 rfl) (Nat.mul_pos om dc) gp rfl)<|eS rfl (n9 (((n-1)).toNat) 0 (cL.cells y.lU) rfl bJ (aA 4 rfl) hym rfl dc rfl rfl)<|eS rfl (FA 3 rfl gp rfl)<|eS rfl (L1 (vS bA l.ab.length bC) 0 rfl bJ rfl rfl)<|eS rfl (MV rfl) ?_
 obtain ⟨x,hx⟩:=aO l.ab ((n).toNat) om
 have hxm:=bI bx.cells hx
 refine eS rfl (IA ((n).toNat) rfl (aA 4 rfl) wi dc om om)<|eS rfl (mT (((n).toNat)*4) rfl (aA 4 rfl) (Nat.mul_pos om dc) gp rfl)<|eS rfl (n9 ((n).toNat) 0 (cL.cells x.lU) rfl bJ (aA 4 rfl) hxm rfl dc rfl rfl)<|eS rfl (CL (FR l.aH kA kC y.lU x.lU sd sd) (bh [1]) rfl)<|eS rfl (MV rfl)<|eS rfl (EX rfl)<|eS rfl (EX rfl)<|eS rfl (AG rfl)<|fp rfl<|cr rfl fun T11 hT11=>?_
 refine AL rfl cV fun b12=>?_
 refine aB (hT11 _ _ (aG [1,2,3,4,5]) ?_)
 refine cr rfl fun T13 hT13=>f_ rfl bY rfl ?_
 refine aB (hT13 _ _ (aG [1,2,3,4,5]) ?_)
 refine gh rfl<|KK hK10<|WS fun _ hK14=>rP 3 [] (mc 0 rfl mn) ?_
 refine RK hK14<|an<|Q1 hQ rfl rfl rfl ?_
 first|(refine cI ?_; rw [show n.toNat=0 by omega]; rw [pX hy,(nT htr (hbk _ (aw hy)).1).2])|(refine cI ?_; rw [rl om hx (by rw [show n.toNat-1=(n-1).toNat by omega]; exact hy),(cM htr ⟨(hbk _ (aw hy)).1,(hbk _ (aw hx)).1⟩).2])
theorem F3 (l:aV) (kA:OA) (kC:Nat) (az:List RA) (cA:OA) (cC:Nat) (bA:OA) (bC:Nat) (n:Int) (hin:eN l az) (htr:cx l.aH=true) (hok:kR l) (hn:0≤n∧n<(l.ab.length:Int)):
 eu Tryz.prog 175 [(vA (cE.cells (jx l kA kC cA cC bA bC))),(vI n)] [(rd kA l.aH.length 9 (l.aH.map ah.cells)),(rd cA l.aj.length 2 (List.zipWith al.cells l.aj az)),(du (aU al.fK l.aj az)),(rd bA l.ab.length 4 (l.ab.map bx.cells))] (vI (dE l n.toNat)):=by
 have htk:=hin.r_
 have hck:=hin.se
 have has:=hin.qa
 have hbm:=hin.sb
 have hhd:=hok.head
 unfold dU at hhd
 have hwb:=Bz htr hok.lJ n.toNat
 have hwy:=hok.wc n.toNat om
 refine bu kr Tryz.func175 rfl rfl fun w0 Q hQ hN=>?_
 try dsimp only
 refine WS fun _ hK1=>fP rfl fun b2=>rP 1 [] mn ?_
 refine RK hK1<|ai fun _ hK3=>dC cD 12 kr<|dP 2 [] (mc 0 rfl mn) ?_
 refine dS (CL (GB l kA kC az cA cC bA bC n hin htr (by exact hok.lJ) hn) (bh [1,2,3,4]) rfl)<|dS (BI rfl (Cf ⟨om,om⟩))<|dP 6 [] (mc 0 rfl mn) ?_
 refine dS (BI rfl (o6 om om om))<|dP 1 [] mn ?_
 refine cO<|RK hK3<|an<|Q1 hQ rfl rfl rfl ?_
 exact cI (by unfold dE n7; rw [Int.mul_comm])
theorem G7 (l:aV) (kA:OA) (kC:Nat) (az:List RA) (cA:OA) (cC:Nat) (bA:OA) (bC:Nat) (hin:eN l az) (htr:cx l.aH=true):
 eu Tryz.prog 90 [(vA (cE.cells (jx l kA kC cA cC bA bC)))] [(rd kA l.aH.length 9 (l.aH.map ah.cells)),(rd cA l.aj.length 2 (List.zipWith al.cells l.aj az)),(du (aU al.fK l.aj az)),(rd bA l.ab.length 4 (l.ab.map bx.cells))] (vB (decide (kR l))):=by
 have htk:=hin.r_
 have hck:=hin.se
 have has:=hin.qa
 have hbm:=hin.sb
 have hsd:=hin.side
 have hst:=jN htr
 have hl12:=kf htr
 refine bu kr Tryz.func90 rfl rfl fun w0 Q hQ hN=>?_
 try dsimp only
 refine WS fun _ hK1=>fP rfl fun b2=>rP 1 [] mn ?_
 refine RK hK1<|ai fun _ hK3=>WS fun _ hK4=>rP 2 [] (mc 0 rfl mn) ?_
 refine rS (CL (ij l.lX 1 5000) (aT) rfl)<|rP 2 [] mn ?_
 refine c8 (t:=10) rfl (bk fun h10=>?_) (bj fun h10=>?_)
 ·refine rP 35 [] mn ?_
  refine RK hK4<|aI rfl<|WS fun _ hK5=>rP 1 [] mn ?_
  refine RK hK5<|an<|Q1 hQ rfl rfl rfl ?_
  first|exact cB (a7 fun h=>by have q:=h.head; unfold dU at q; omega).symm|exact cB (a7 fun h=>h59 (h.clock _ (aw hx))).symm|exact cB (a7 fun h=>by have q:=h.lJ _ (aw hy); have q2:=q.2; first|exact h77 q.1|omega).symm|exact cB (a7 fun h=>by have q:=h.wc n om; simp only [Int.toNat_natCast] at h101; omega).symm|exact cB (bW (fG (by unfold dU; omega) (eP om hl4_1) (eP om hl9_1) (fun j hj=>hl14_1 j om))).symm
 refine rP 3 [] (mc 0 rfl mn) ?_
 refine rS (CL (ij ((l.aj.length:Nat):Int) 1 4) (aT) rfl)<|rP 3 [] mn ?_
 refine c8 (t:=17) rfl (bk fun h17=>?_) (bj fun h17=>?_)
 ·refine rP 28 [] mn ?_
  refine RK hK4<|aI rfl<|WS fun _ hK6=>rP 1 [] mn ?_
  refine RK hK6<|an<|Q1 hQ rfl rfl rfl ?_
  first|exact cB (a7 fun h=>by have q:=h.head; unfold dU at q; omega).symm|exact cB (a7 fun h=>h59 (h.clock _ (aw hx))).symm|exact cB (a7 fun h=>by have q:=h.lJ _ (aw hy); have q2:=q.2; first|exact h77 q.1|omega).symm|exact cB (a7 fun h=>by have q:=h.wc n om; simp only [Int.toNat_natCast] at h101; omega).symm|exact cB (bW (fG (by unfold dU; omega) (eP om hl4_1) (eP om hl9_1) (fun j hj=>hl14_1 j om))).symm
 refine rP 3 [] (mc 0 rfl mn) ?_
 refine rS (CL (ij ((l.ab.length:Nat):Int) 1 6) (aT) rfl)<|rP 3 [] mn ?_
 refine c8 (t:=24) rfl (bk fun h24=>?_) (bj fun h24=>?_)
 ·refine rP 21 [] mn ?_
  refine RK hK4<|aI rfl<|WS fun _ hK7=>rP 1 [] mn ?_
  refine RK hK7<|an<|Q1 hQ rfl rfl rfl ?_
  first|exact cB (a7 fun h=>by have q:=h.head; unfold dU at q; omega).symm|exact cB (a7 fun h=>h59 (h.clock _ (aw hx))).symm|exact cB (a7 fun h=>by have q:=h.lJ _ (aw hy); have q2:=q.2; first|exact h77 q.1|omega).symm|exact cB (a7 fun h=>by have q:=h.wc n om; simp only [Int.toNat_natCast] at h101; omega).symm|exact cB (bW (fG (by unfold dU; omega) (eP om hl4_1) (eP om hl9_1) (fun j hj=>hl14_1 j om))).symm
 refine rP 6 [] (mc 0 rfl mn) ?_
 refine rS (CL (ij l.cz 0 (((l.ab.length:Nat):Int)-1)) (aT) rfl)<|rP 3 [] mn ?_
 refine c8 (t:=34) rfl (bk fun h34=>?_) (bj fun h34=>?_)
 ·refine rP 11 [] mn ?_
  refine RK hK4<|aI rfl<|WS fun _ hK8=>rP 1 [] mn ?_
  refine RK hK8<|an<|Q1 hQ rfl rfl rfl ?_
  first|exact cB (a7 fun h=>by have q:=h.head; unfold dU at q; omega).symm|exact cB (a7 fun h=>h59 (h.clock _ (aw hx))).symm|exact cB (a7 fun h=>by have q:=h.lJ _ (aw hy); have q2:=q.2; first|exact h77 q.1|omega).symm|exact cB (a7 fun h=>by have q:=h.wc n om; simp only [Int.toNat_natCast] at h101; omega).symm|exact cB (bW (fG (by unfold dU; omega) (eP om hl4_1) (eP om hl9_1) (fun j hj=>hl14_1 j om))).symm
 refine rP 2 [] (mc 0 rfl mn) ?_
 refine rS (CL (ij l.iH 0 3) (aT) rfl)<|rP 3 [] mn ?_
 refine c8 (t:=40) rfl (bk fun h40=>?_) (bj fun h40=>?_)
 ·refine rP 5 [] mn ?_
  refine RK hK4<|aI rfl<|WS fun _ hK9=>rP 1 [] mn ?_
  refine RK hK9<|an<|Q1 hQ rfl rfl rfl ?_
  first|exact cB (a7 fun h=>by have q:=h.head; unfold dU at q; omega).symm|exact cB (a7 fun h=>h59 (h.clock _ (aw hx))).symm|exact cB (a7 fun h=>by have q:=h.lJ _ (aw hy); have q2:=q.2; first|exact h77 q.1|omega).symm|exact cB (a7 fun h=>by have q:=h.wc n om; simp only [Int.toNat_natCast] at h101; omega).symm|exact cB (bW (fG (by unfold dU; omega) (eP om hl4_1) (eP om hl9_1) (fun j hj=>hl14_1 j om))).symm
 refine rP 2 [] (mc 0 rfl mn) ?_
 refine rS (CL (ij l.e8 0 3) (aT) rfl)<|rP 2 [] mn ?_
 refine RK hK4 ?_
 refine cP rfl (bk fun h45=>?_) (bj fun h45=>?_)
 ·refine WS fun _ hK10=>?_
  refine rP 1 [] mn ?_
  refine RK hK10<|an<|Q1 hQ rfl rfl rfl ?_
  first|exact cB (a7 fun h=>by have q:=h.head; unfold dU at q; omega).symm|exact cB (a7 fun h=>h59 (h.clock _ (aw hx))).symm|exact cB (a7 fun h=>by have q:=h.lJ _ (aw hy); have q2:=q.2; first|exact h77 q.1|omega).symm|exact cB (a7 fun h=>by have q:=h.wc n om; simp only [Int.toNat_natCast] at h101; omega).symm|exact cB (bW (fG (by unfold dU; omega) (eP om hl4_1) (eP om hl9_1) (fun j hj=>hl14_1 j om))).symm
 refine WK hK3<|ai fun _ hK11=>WS fun _ hK12=>rP 1 [] mn ?_
 refine RK hK12<|av ?_
 have hinit:(0≤l.aj.length)∧(∀ (j:Nat) y,j<0→l.aj[j]? =some y→eJ y):=by exact ⟨Nat.zero_le _,fun j y hj=>absurd hj (Nat.not_lt_zero _)⟩
 refine cp (ι:={z:Nat // (z≤l.aj.length)∧(∀ (j:Nat) y,j<z→l.aj[j]? =some y→eJ y)}) (fun z=>[(1,(vP b2)),(3,(vI ((z.1:Nat):Int)))]) (fun z=>[(br b2 28 (cE.cells (jx l kA kC cA cC bA bC))),(rd kA l.aH.length 9 (l.aH.map ah.cells)).ro,(rd cA l.aj.length 2 (List.zipWith al.cells l.aj az)).ro,(du (aU al.fK l.aj az)).ro,(rd bA l.ab.length 4 (l.ab.map bx.cells)).ro]) (fun z=>l.aj.length-z.1) ⟨0,hinit⟩ (aL rfl) (aG [0,1,2,3,4]) ?_
 clear hinit
 rintro ⟨i,⟨hl4_0,hl4_1⟩⟩ J13 hJ13
 try dsimp only
 refine ai fun _ hK14=>WS fun _ hK15=>rP 5 [] (mc 0 rfl mn) ?_
 refine RK hK15 ?_
 refine cP rfl (aP fun h50=>?_) (aQ fun h50=>?_)
 ·refine WK hK14 ?_
  refine ai fun _ hK16=>av<|WS fun _ hK17=>rP 3 [] (mc 0 rfl mn) ?_
  obtain ⟨x,hx⟩:=aO l.aj i om
  obtain ⟨xa,hxa⟩:=aO az i om
  have hxm:(List.zipWith al.cells l.aj az)[i]? =some (al.cells x xa):=gn hx hxa
  refine rS (IA i rfl (aA 2 rfl) F_ dc om om)<|rS (n9 i 0 (cy.cells (cy.mk x.cJ (bB.mk xa.1 x.aR.length xa.2))) rfl bJ (aA 2 rfl) hxm rfl dc rfl rfl) ?_
  have hsy:=(hin.MI _ _ _ hx hxa).2
  refine rS (CL (Gj x xa.1 xa.2 sd) (bq (show ji _ (rd xa.1 x.aR.length 3 (x.aR.map cR.cells)).holds from (dA 3 rfl (cm hx hxa (by simp [al.fK]))))<|aT) rfl)<|rP 1 [] mn ?_
  refine RK hK17 ?_
  refine bM rfl (bj fun h59=>?_) (bk fun h59=>?_)
  ·refine bZ ?_
   refine ax<|KK hK16<|ak<|rP 3 [] mn ?_
   refine aB ?_
   have hb19:(vI (((i+1):Nat):Int))=(vI (((i:Nat):Int)+1)):=by exact cI om
   refine aN (hJ13 ⟨(i+1),⟨om,lg (P:=fun _ y=>eJ y) hl4_1 hx h59⟩⟩ _ _ _ rfl os (dK.cons rfl<|aY rfl hb19<|dK.nil _) (aG [0,1,2,3,4]))
  refine WS fun _ hK18=>rP 1 [] mn ?_
  refine RK hK18<|an<|Q1 hQ rfl rfl rfl ?_
  first|exact cB (a7 fun h=>by have q:=h.head; unfold dU at q; omega).symm|exact cB (a7 fun h=>h59 (h.clock _ (aw hx))).symm|exact cB (a7 fun h=>by have q:=h.lJ _ (aw hy); have q2:=q.2; first|exact h77 q.1|omega).symm|exact cB (a7 fun h=>by have q:=h.wc n om; simp only [Int.toNat_natCast] at h101; omega).symm|exact cB (bW (fG (by unfold dU; omega) (eP om hl4_1) (eP om hl9_1) (fun j hj=>hl14_1 j om))).symm
 refine bp<|ae<|ae<|au<|KK hK11<|ai fun _ hK20=>WS fun _ hK21=>rP 1 [] mn ?_
 refine RK hK21<|av ?_
 have hinit:(0≤l.ab.length)∧(∀ (j:Nat) y,j<0→l.ab[j]? =some y→js l y):=by exact ⟨Nat.zero_le _,fun j y hj=>absurd hj (Nat.not_lt_zero _)⟩
 refine cp (ι:={z:Nat // (z≤l.ab.length)∧(∀ (j:Nat) y,j<z→l.ab[j]? =some y→js l y)}) (fun z=>[(1,(vP b2)),(4,(vI ((z.1:Nat):Int)))]) (fun z=>[(br b2 28 (cE.cells (jx l kA kC cA cC bA bC))),(rd kA l.aH.length 9 (l.aH.map ah.cells)).ro,(rd cA l.aj.length 2 (List.zipWith al.cells l.aj az)).ro,(du (aU al.fK l.aj az)).ro,(rd bA l.ab.length 4 (l.ab.map bx.cells)).ro]) (fun z=>l.ab.length-z.1) ⟨0,hinit⟩ (aL rfl) (aG [0,1,2,3,4]) ?_
 clear hinit
 rintro ⟨m,⟨hl9_0,hl9_1⟩⟩ J22 hJ22
 try dsimp only
 refine ai fun _ hK23=>WS fun _ hK24=>rP 5 [] (mc 0 rfl mn) ?_
 refine RK hK24 ?_
 refine cP rfl (aP fun h64=>?_) (aQ fun h64=>?_)
 ·refine WK hK23 ?_
  refine ai fun _ hK25=>av<|ai fun _ hK26=>dC cD 24 kr<|dP 1 [] mn ?_
  refine dS (LP (bL.cells (bL.mk (bB.mk kA l.aH.length kC))) 0 rfl bJ rfl rfl rfl)<|dP 3 [] (mc 0 rfl mn) ?_
  obtain ⟨y,hy⟩:=aO l.ab m om
  have hym:=bI bx.cells hy
  refine dS (IA m rfl (aA 4 rfl) wi dc om om)<|dS (mT (m*4) rfl (aA 4 rfl) (Nat.mul_pos om dc) gp rfl)<|dS (n9 m 0 (cL.cells y.lU) rfl bJ (aA 4 rfl) hym rfl dc rfl rfl)<|dS (CL (pN l.aH kA kC y.lU sd sd) (bh [1]) rfl)<|dP 2 [] mn ?_
  refine iL (t:=77) rfl (bk fun h77=>?_) (bj fun h77=>?_)
  ·refine dP 13 [] mn ?_
   refine cO<|RK hK26<|aI rfl<|WS fun _ hK27=>rP 1 [] mn ?_
   refine RK hK27<|an<|Q1 hQ rfl rfl rfl ?_
   first|exact cB (a7 fun h=>by have q:=h.head; unfold dU at q; omega).symm|exact cB (a7 fun h=>h59 (h.clock _ (aw hx))).symm|exact cB (a7 fun h=>by have q:=h.lJ _ (aw hy); have q2:=q.2; first|exact h77 q.1|omega).symm|exact cB (a7 fun h=>by have q:=h.wc n om; simp only [Int.toNat_natCast] at h101; omega).symm|exact cB (bW (fG (by unfold dU; omega) (eP om hl4_1) (eP om hl9_1) (fun j hj=>hl14_1 j om))).symm
  refine dP 3 [] (mc 0 rfl mn) ?_
  refine dS (IA m rfl (aA 4 rfl) wi dc om om)<|dS (mT ((m*4)+3) rfl (aA 4 rfl) (Nat.mul_pos om dc) gp rfl)<|dS (gU m 3 (vI y.jK) rfl bJ (aA 4 rfl) hym rfl dc rfl)<|dP 4 [] (mc 0 rfl mn) ?_
  refine dS (CL (ij y.jK 0 (((l.aj.length:Nat):Int)-1)) (aT) rfl)<|dP 2 [] mn ?_
  refine cO<|RK hK26 ?_
  refine bM rfl (bj fun h90=>?_) (bk fun h90=>?_)
  ·refine bZ ?_
   refine ax<|KK hK25<|ak<|rP 3 [] mn ?_
   refine aB ?_
   have hb29:(vI (((m+1):Nat):Int))=(vI (((m:Nat):Int)+1)):=by exact cI om
   refine aN (hJ22 ⟨(m+1),⟨om,lg (P:=fun _ y=>js l y) hl9_1 hy ⟨h77,om,om⟩⟩⟩ _ _ _ rfl os (dK.cons rfl<|aY rfl hb29<|dK.nil _) (aG [0,1,2,3,4]))
  refine WS fun _ hK28=>rP 1 [] mn ?_
  refine RK hK28<|an<|Q1 hQ rfl rfl rfl ?_
  first|exact cB (a7 fun h=>by have q:=h.head; unfold dU at q; omega).symm|exact cB (a7 fun h=>h59 (h.clock _ (aw hx))).symm|exact cB (a7 fun h=>by have q:=h.lJ _ (aw hy); have q2:=q.2; first|exact h77 q.1|omega).symm|exact cB (a7 fun h=>by have q:=h.wc n om; simp only [Int.toNat_natCast] at h101; omega).symm|exact cB (bW (fG (by unfold dU; omega) (eP om hl4_1) (eP om hl9_1) (fun j hj=>hl14_1 j om))).symm
 refine bp<|ae<|ae<|au<|KK hK20<|ai fun _ hK30=>WS fun _ hK31=>rP 1 [] mn ?_
 refine RK hK31<|av ?_
 have hinit:(0≤l.ab.length)∧(∀ j,j<0→1≤mh l j):=by exact ⟨Nat.zero_le _,fun j hj=>absurd hj (Nat.not_lt_zero _)⟩
 refine cp (ι:={z:Nat // (z≤l.ab.length)∧(∀ j,j<z→1≤mh l j)}) (fun z=>[(1,(vP b2)),(5,(vI ((z.1:Nat):Int)))]) (fun z=>[(br b2 28 (cE.cells (jx l kA kC cA cC bA bC))),(rd kA l.aH.length 9 (l.aH.map ah.cells)).ro,(rd cA l.aj.length 2 (List.zipWith al.cells l.aj az)).ro,(du (aU al.fK l.aj az)).ro,(rd bA l.ab.length 4 (l.ab.map bx.cells)).ro]) (fun z=>l.ab.length-z.1) ⟨0,hinit⟩ (aL rfl) (aG [0,1,2,3,4]) ?_
 clear hinit
 rintro ⟨n,⟨hl14_0,hl14_1⟩⟩ J32 hJ32
 try dsimp only
 have hbk:=eP (P:=js l) om hl9_1
 refine ai fun _ hK33=>WS fun _ hK34=>rP 5 [] (mc 0 rfl mn) ?_
 refine RK hK34 ?_
 refine bM rfl (aQ fun h95=>?_) (aP fun h95=>?_)
 ·refine bp ?_
  refine ae<|ae<|au<|KK hK30<|WS fun _ hK39=>rP 1 [] mn ?_
  refine RK hK39<|an<|Q1 hQ rfl rfl rfl ?_
  first|exact cB (a7 fun h=>by have q:=h.head; unfold dU at q; omega).symm|exact cB (a7 fun h=>h59 (h.clock _ (aw hx))).symm|exact cB (a7 fun h=>by have q:=h.lJ _ (aw hy); have q2:=q.2; first|exact h77 q.1|omega).symm|exact cB (a7 fun h=>by have q:=h.wc n om; simp only [Int.toNat_natCast] at h101; omega).symm|exact cB (bW (fG (by unfold dU; omega) (eP om hl4_1) (eP om hl9_1) (fun j hj=>hl14_1 j om))).symm
 refine WK hK33<|ai fun _ hK35=>av<|WS fun _ hK36=>rP 2 [] (mc 0 rfl mn) ?_
 refine rS (CL (GB l kA kC az cA cC bA bC ((n:Nat):Int) hin htr sd sd) (bh [1,2,3,4]) rfl)<|rP 1 [] mn ?_
 refine RK hK36 ?_
 refine bM rfl (aQ fun h101=>?_) (aP fun h101=>?_)
 ·refine bZ ?_
  refine ax<|KK hK35<|ak<|rP 3 [] mn ?_
  refine aB ?_
  have hb38:(vI (((n+1):Nat):Int))=(vI (((n:Nat):Int)+1)):=by exact cI om
  refine aN (hJ32 ⟨(n+1),⟨om,fun j hj=>by rcases Nat.lt_or_ge j n with q|q; exact hl14_1 j q; (obtain rfl:j=n:=by omega); simp only [Int.toNat_natCast] at h101; omega⟩⟩ _ _ _ rfl os (dK.cons rfl<|aY rfl hb38<|dK.nil _) (aG [0,1,2,3,4]))
 refine WS fun _ hK37=>rP 1 [] mn ?_
 refine RK hK37<|an<|Q1 hQ rfl rfl rfl ?_
 first|exact cB (a7 fun h=>by have q:=h.head; unfold dU at q; omega).symm|exact cB (a7 fun h=>h59 (h.clock _ (aw hx))).symm|exact cB (a7 fun h=>by have q:=h.lJ _ (aw hy); have q2:=q.2; first|exact h77 q.1|omega).symm|exact cB (a7 fun h=>by have q:=h.wc n om; simp only [Int.toNat_natCast] at h101; omega).symm|exact cB (bW (fG (by unfold dU; omega) (eP om hl4_1) (eP om hl9_1) (fun j hj=>hl14_1 j om))).symm
end
section
open Go.RowKit
theorem yx (r:dg) (kA:OA) (kC:Nat) (az:List RA) (cA:OA) (cC:Nat) (bA:OA) (bC:Nat) (slA:OA) (slC:Nat) (drA:OA) (drC:Nat) (ha:List gZ) (heA:OA) (heC:Nat) (hraw:qW r az ha):
 eu Tryz.prog 6 [(vA (eT.cells (kx r kA kC cA cC bA bC slA slC drA drC heA heC)))] [(rd kA r.aD.aH.length 9 (r.aD.aH.map ah.cells)),(rd cA r.aD.aj.length 2 (List.zipWith al.cells r.aD.aj az)),(du (aU al.fK r.aD.aj az)),(rd bA r.aD.ab.length 4 (r.aD.ab.map bx.cells)),(rd slA r.aF.length 1 (r.aF.map iC)),(rd drA r.cG.length 1 (r.cG.map iC)),(rd heA r.ay.length 1 (List.zipWith eO r.ay ha)),(du (aU gf r.ay ha))] (vB (decide (oq r))):=by
 have hline:=hraw.line
 have hhl:=hraw.jZ
 have hhs:=hraw.has
 have hsll:=hraw.j6
 have hdrl:=hraw.draw
 refine bu kr Tryz.func6 rfl rfl fun w0 Q hQ hN=>?_
 try dsimp only
 refine WS fun _ hK1=>fP rfl fun b2=>rP 1 [] mn ?_
 refine RK hK1<|ai fun _ hK3=>WS fun _ hK4=>rP 1 [] mn ?_
 refine rS (LP (cE.cells (jx r.aD kA kC cA cC bA bC)) 0 rfl bJ rfl rfl rfl)<|rS (CL (Gh r.aD kA kC az cA cC bA bC sd) (bh [1,2,3,4]) rfl)<|rP 1 [] mn ?_
 refine c8 (t:=8) rfl (aP fun h8=>?_) (aQ fun h8=>?_)
 ·refine rP 17 [] mn ?_
  refine RK hK4<|aI rfl<|WS fun _ hK5=>rP 1 [] mn ?_
  refine RK hK5<|an<|Q1 hQ rfl rfl rfl ?_
  first|exact cB (bW (kj hht hd h61)).symm|exact cB (bW (jC hht h39)).symm|exact cB (a7 (k9 h8 om hl4_1 om)).symm|exact cB (bW (fY (.inl h8))).symm|exact cB (bW (fY (.inr om))).symm
 refine rP 6 [] (mc 0 rfl mn) ?_
 refine c8 (t:=14) rfl (aP fun h14=>?_) (aQ fun h14=>?_)
 ·refine rP 11 [] mn ?_
  refine RK hK4<|aI rfl<|WS fun _ hK6=>rP 1 [] mn ?_
  refine RK hK6<|an<|Q1 hQ rfl rfl rfl ?_
  first|exact cB (bW (kj hht hd h61)).symm|exact cB (bW (jC hht h39)).symm|exact cB (a7 (k9 h8 om hl4_1 om)).symm|exact cB (bW (fY (.inl h8))).symm|exact cB (bW (fY (.inr om))).symm
 refine rP 6 [] (mc 0 rfl mn) ?_
 refine c8 (t:=20) rfl (aP fun h20=>?_) (aQ fun h20=>?_)
 ·refine rP 5 [] mn ?_
  refine RK hK4<|aI rfl<|WS fun _ hK7=>rP 1 [] mn ?_
  refine RK hK7<|an<|Q1 hQ rfl rfl rfl ?_
  first|exact cB (bW (kj hht hd h61)).symm|exact cB (bW (jC hht h39)).symm|exact cB (a7 (k9 h8 om hl4_1 om)).symm|exact cB (bW (fY (.inl h8))).symm|exact cB (bW (fY (.inr om))).symm
 refine rP 5 [] (mc 0 rfl mn) ?_
 refine RK hK4 ?_
 refine cP rfl (aP fun h25=>?_) (aQ fun h25=>?_)
 ·refine WS fun _ hK8=>?_
  refine rP 1 [] mn ?_
  refine RK hK8<|an<|Q1 hQ rfl rfl rfl ?_
  first|exact cB (bW (kj hht hd h61)).symm|exact cB (bW (jC hht h39)).symm|exact cB (a7 (k9 h8 om hl4_1 om)).symm|exact cB (bW (fY (.inl h8))).symm|exact cB (bW (fY (.inr om))).symm
 refine WK hK3<|ai fun _ hK9=>WS fun _ hK10=>rP 1 [] mn ?_
 refine RK hK10<|av ?_
 have hinit:(0≤r.ay.length)∧(lv r 0):=by exact ⟨Nat.zero_le _,yS⟩
 refine cp (ι:={z:Nat // (z≤r.ay.length)∧(lv r z)}) (fun z=>[(1,(vP b2)),(3,(vI ((z.1:Nat):Int)))]) (fun z=>[(br b2 32 (eT.cells (kx r kA kC cA cC bA bC slA slC drA drC heA heC))),(rd kA r.aD.aH.length 9 (r.aD.aH.map ah.cells)).ro,(rd cA r.aD.aj.length 2 (List.zipWith al.cells r.aD.aj az)).ro,(du (aU al.fK r.aD.aj az)).ro,(rd bA r.aD.ab.length 4 (r.aD.ab.map bx.cells)).ro,(rd slA r.aF.length 1 (r.aF.map iC)).ro,(rd drA r.cG.length 1 (r.cG.map iC)).ro,(rd heA r.ay.length 1 (List.zipWith eO r.ay ha)).ro,(du (aU gf r.ay ha)).ro]) (fun z=>r.ay.length-z.1) ⟨0,hinit⟩ (aL rfl) (aG [0,1,2,3,4,5,6,7,8]) ?_
 clear hinit
 rintro ⟨i,⟨hl4_0,hl4_1⟩⟩ J11 hJ11
 try dsimp only
 refine ai fun _ hK12=>WS fun _ hK13=>rP 5 [] (mc 0 rfl mn) ?_
 refine RK hK13 ?_
 refine bM rfl (aQ fun h14=>?_) (aP fun h14=>?_)
 ·refine bp ?_
  refine ae<|ae<|au<|KK hK9<|WS fun _ hK29=>rP 1 [] mn ?_
  refine RK hK29<|an<|Q1 hQ rfl rfl rfl ?_
  first|exact cB (bW (kj hht hd h61)).symm|exact cB (bW (jC hht h39)).symm|exact cB (a7 (k9 h8 om hl4_1 om)).symm|exact cB (bW (fY (.inl h8))).symm|exact cB (bW (fY (.inr om))).symm
 refine WK hK12<|ai fun _ hK15=>av<|ai fun _ hK16=>WS fun _ hK17=>rP 3 [] (mc 0 rfl mn) ?_
 obtain ⟨ht,hht⟩:=aO r.ay i om
 obtain ⟨hta,hhta⟩:=aO ha i om
 have hhtm:(List.zipWith eO r.ay ha)[i]? =some (eO ht hta):=gn hht hhta
 refine rS (IA i rfl (aA 7 rfl) zG dc om om)<|rS (gU i 0 (vS hta.1.1 ht.length hta.1.2) rfl bJ (aA 7 rfl) hhtm rfl dc rfl) ?_
 obtain ⟨hho,hhas,hhg⟩:=hraw.gF _ _ _ hht hhta
 refine rP 2 [] mn ?_
 refine RK hK17 ?_
 refine cP rfl (aP fun h39=>?_) (aQ fun h39=>?_)
 ·refine WS fun _ hK18=>?_
  refine rP 1 [] mn ?_
  refine RK hK18<|an<|Q1 hQ rfl rfl rfl ?_
  first|exact cB (bW (kj hht hd h61)).symm|exact cB (bW (jC hht h39)).symm|exact cB (a7 (k9 h8 om hl4_1 om)).symm|exact cB (bW (fY (.inl h8))).symm|exact cB (bW (fY (.inr om))).symm
 refine WK hK16<|WS fun _ hK19=>rP 1 [] mn ?_
 refine RK hK19<|av ?_
 have hinit:(0≤ht.length)∧(mx ht 0):=by exact ⟨Nat.zero_le _,zr⟩
 refine cp (ι:={z:Nat // (z≤ht.length)∧(mx ht z)}) (fun z=>[(1,(vP b2)),(3,(vI ((i:Nat):Int))),(4,(vI ((z.1:Nat):Int)))]) (fun z=>[(br b2 32 (eT.cells (kx r kA kC cA cC bA bC slA slC drA drC heA heC))),(rd kA r.aD.aH.length 9 (r.aD.aH.map ah.cells)).ro,(rd cA r.aD.aj.length 2 (List.zipWith al.cells r.aD.aj az)).ro,(du (aU al.fK r.aD.aj az)).ro,(rd bA r.aD.ab.length 4 (r.aD.ab.map bx.cells)).ro,(rd slA r.aF.length 1 (r.aF.map iC)).ro,(rd drA r.cG.length 1 (r.cG.map iC)).ro,(rd heA r.ay.length 1 (List.zipWith eO r.ay ha)).ro,(du (aU gf r.ay ha)).ro]) (fun z=>ht.length-z.1) ⟨0,hinit⟩ (aL rfl) (aG [0,1,2,3,4,5,6,7,8]) ?_
 clear hinit
 rintro ⟨j,⟨hl9_0,hl9_1⟩⟩ J20 hJ20
 try dsimp only
 refine ai fun _ hK21=>WS fun _ hK22=>rP 4 [] (mc 0 rfl mn) ?_
 refine rS (IA i rfl (aA 7 rfl) zG dc om om)<|rS (gU i 0 (vS hta.1.1 ht.length hta.1.2) rfl bJ (aA 7 rfl) hhtm rfl dc rfl)<|rP 2 [] mn ?_
 refine RK hK22 ?_
 refine bM rfl (aQ fun h23=>?_) (aP fun h23=>?_)
 ·refine bp ?_
  refine ae<|ae<|au<|ax<|KK hK15<|ak<|rP 3 [] mn ?_
  refine aB ?_
  have hb28:(vI (((i+1):Nat):Int))=(vI (((i:Nat):Int)+1)):=by exact cI om
  refine aN (hJ11 ⟨(i+1),⟨om,yE hl4_1 hht (AY h39 hl9_1 om)⟩⟩ _ _ _ rfl os (dK.cons rfl<|aY rfl hb28<|dK.nil _) (aG [0,1,2,3,4,5,6,7,8]))
 refine WK hK21<|ai fun _ hK24=>av<|WS fun _ hK25=>rP 3 [] (mc 0 rfl mn) ?_
 refine rS (IA i rfl (aA 7 rfl) zG dc om om)<|rS (gU i 0 (vS hta.1.1 ht.length hta.1.2) rfl bJ (aA 7 rfl) hhtm rfl dc rfl)<|rP 1 [] mn ?_
 obtain ⟨d,hd⟩:=aO ht j om
 obtain ⟨da,hda⟩:=aO hta.2 j om
 have hdm:(List.zipWith aS.cells ht hta.2)[j]? =some (aS.cells d da):=gn hd hda
 refine rS (IA j rfl (show ji _ (rd hta.1.1 ht.length 7 (List.zipWith aS.cells ht hta.2)).holds from (dA 8 rfl (cm hht hhta cZ))) EA dc om om)<|rS (mT ((j*7)+4) rfl (show ji _ (rd hta.1.1 ht.length 7 (List.zipWith aS.cells ht hta.2)).holds from (dA 8 rfl (cm hht hhta cZ))) (Nat.mul_pos om dc) gp rfl)<|rS (mT (((j*7)+4)+2) rfl (show ji _ (rd hta.1.1 ht.length 7 (List.zipWith aS.cells ht hta.2)).holds from (dA 8 rfl (cm hht hhta cZ))) (Nat.mul_pos om dc) gp rfl)<|rS (gU j 6 (vS da.1 d.bP.ag.length da.2) rfl bJ (show ji _ (rd hta.1.1 ht.length 7 (List.zipWith aS.cells ht hta.2)).holds from (dA 8 rfl (cm hht hhta cZ))) hdm rfl dc rfl) ?_
 have hsg:=hhg d (aw hd)
 refine rP 2 [] mn ?_
 refine RK hK25 ?_
 refine bM rfl (aQ fun h61=>?_) (aP fun h61=>?_)
 ·refine bZ ?_
  refine ax<|KK hK24<|ak<|rP 3 [] mn ?_
  refine aB ?_
  have hb27:(vI (((j+1):Nat):Int))=(vI (((j:Nat):Int)+1)):=by exact cI om
  refine aN (hJ20 ⟨(j+1),⟨om,zJ hl9_1 hd h61⟩⟩ _ _ _ rfl os (dK.cons rfl<|dK.cons rfl<|aY rfl hb27<|dK.nil _) (aG [0,1,2,3,4,5,6,7,8]))
 refine WS fun _ hK26=>rP 1 [] mn ?_
 refine RK hK26<|an<|Q1 hQ rfl rfl rfl ?_
 first|exact cB (bW (kj hht hd h61)).symm|exact cB (bW (jC hht h39)).symm|exact cB (a7 (k9 h8 om hl4_1 om)).symm|exact cB (bW (fY (.inl h8))).symm|exact cB (bW (fY (.inr om))).symm
end
section
open Go.RowKit
theorem zm (l:aV) (kA:OA) (kC:Nat) (az:List RA) (cA:OA) (cC:Nat) (bA:OA) (bC:Nat) (hin:eN l az):
 eu Tryz.prog 67 [(vA (cE.cells (jx l kA kC cA cC bA bC)))] [(rd kA l.aH.length 9 (l.aH.map ah.cells)),(rd cA l.aj.length 2 (List.zipWith al.cells l.aj az)),(du (aU al.fK l.aj az)),(rd bA l.ab.length 4 (l.ab.map bx.cells))] (vI (dh l)):=by
 have htk:=hin.r_
 have hck:=hin.se
 have has:=hin.qa
 have hbm:=hin.sb
 refine bu kr Tryz.func67 rfl rfl fun w0 Q hQ hN=>?_
 try dsimp only
 refine WS fun _ hK1=>fP rfl fun b2=>rP 1 [] mn ?_
 refine RK hK1<|ai fun _ hK3=>WS fun _ hK4=>rP 1 [] mn ?_
 refine rS (LP (bL.cells (bL.mk (bB.mk kA l.aH.length kC))) 0 rfl bJ rfl rfl rfl)<|rS (CL (uh l.aH kA kC sd) (bh [1]) rfl)<|rP 1 [] mn ?_
 refine RK hK4 ?_
 refine cP rfl (fun h6=>?_) (fun h6=>?_)
 ·rw [Bool.not_eq_true'] at h6
  refine WS fun _ hK5=>rP 1 [] mn ?_
  refine RK hK5<|an<|Q1 hQ rfl rfl rfl ?_
  first|exact cI (jR (by simpa using h6)).symm|exact cI (eh h6 h9).symm|exact cI (kF h6 h9).symm
 rw [Bool.not_eq_false'] at h6
 refine WK hK3<|ai fun _ hK6=>WS fun _ hK7=>rP 1 [] (mc 0 rfl mn) ?_
 refine rS (CL (G7 l kA kC az cA cC bA bC hin sd) (bh [1,2,3,4]) rfl)<|rP 1 [] mn ?_
 refine RK hK7 ?_
 refine cP rfl (bk fun h9=>?_) (bj fun h9=>?_)
 ·refine WS fun _ hK8=>?_
  refine rP 1 [] mn ?_
  refine RK hK8<|an<|Q1 hQ rfl rfl rfl ?_
  first|exact cI (jR (by simpa using h6)).symm|exact cI (eh h6 h9).symm|exact cI (kF h6 h9).symm
 refine WK hK6<|WS fun _ hK9=>rP 1 [] mn ?_
 refine RK hK9<|an<|Q1 hQ rfl rfl rfl ?_
 first|exact cI (jR (by simpa using h6)).symm|exact cI (eh h6 h9).symm|exact cI (kF h6 h9).symm
theorem Hy (l:aV) (kA:OA) (kC:Nat) (az:List RA) (cA:OA) (cC:Nat) (bA:OA) (bC:Nat) (s:aM) (hin:eN l az) (hok:kR l) (hs:(0≤s.fO∧s.fO≤(l.ab.length:Int)-1)∧0≤s.Read∧s.Read≤86400000):
 eu Tryz.prog 176 [(vA (cE.cells (jx l kA kC cA cC bA bC))),(vA (aM.cells s))] [(rd kA l.aH.length 9 (l.aH.map ah.cells)),(rd cA l.aj.length 2 (List.zipWith al.cells l.aj az)),(du (aU al.fK l.aj az)),(rd bA l.ab.length 4 (l.ab.map bx.cells))] (vT [(vA (aa.cells (cH l s))),(vB (decide ((cH l s).Lo≤(cH l s).Hi)))]):=by
 have htk:=hin.r_
 have hck:=hin.se
 have has:=hin.qa
 have hbm:=hin.sb
 refine bu kr Tryz.func176 rfl rfl fun w0 Q hQ hN=>?_
 try dsimp only
 refine WS fun _ hK1=>fP rfl fun b2=>fP rfl fun b3=>AL rfl cV fun b4=>rP 1 [] mn ?_
 refine RK hK1<|ai fun _ hK5=>ep cD [11,12] [] [] [0,1,2,3,4,5,6] [] rfl rfl rfl rfl rfl<|eS rfl (FA 2 rfl gp rfl)<|eS rfl (L1 (vS cA l.aj.length cC) 2 rfl bJ rfl rfl)<|eS rfl (FA 3 rfl gp rfl)<|eS rfl (L1 (vS bA l.ab.length bC) 2 rfl bJ rfl rfl)<|eS rfl (FA 0 rfl gp rfl)<|eS rfl (L1 (vI s.fO) 1 rfl bJ rfl rfl) ?_
 obtain ⟨y,hy⟩:=aO l.ab ((s.fO).toNat) om
 have hym:=bI bx.cells hy
 refine eS rfl (IA ((s.fO).toNat) rfl (aA 6 rfl) wi dc om om)<|eS rfl (mT ((((s.fO).toNat)*4)+3) rfl (aA 6 rfl) (Nat.mul_pos om dc) gp rfl)<|eS rfl (gU ((s.fO).toNat) 3 (vI y.jK) rfl bJ (aA 6 rfl) hym rfl dc rfl) ?_
 have hyb:=(hok.lJ _ (aw hy)).2
 obtain ⟨x,hx⟩:=aO l.aj ((y.jK).toNat) om
 obtain ⟨xa,hxa⟩:=aO az ((y.jK).toNat) om
 have hxm:(List.zipWith al.cells l.aj az)[(y.jK).toNat]? =some (al.cells x xa):=gn hx hxa
 refine eS rfl (IA ((y.jK).toNat) rfl (aA 4 rfl) F_ dc om om)<|eS rfl (n9 ((y.jK).toNat) 0 (cy.cells (cy.mk x.cJ (bB.mk xa.1 x.aR.length xa.2))) rfl bJ (aA 4 rfl) hxm rfl dc rfl rfl)<|fp rfl<|cr rfl fun T6 hT6=>AL rfl IB fun b7=>?_
 refine aB (hT6 _ _ (aG [1,2,3,4,5,6,7]) ?_)
 refine cr rfl fun T8 hT8=>f_ rfl IY rfl ?_
 refine aB (hT8 _ _ (aG [1,2,3,4,5,6,7]) ?_)
 refine gh rfl<|KK hK5<|WS fun _ hK9=>rP 2 [] mn ?_
 refine RK hK9<|ai fun _ hK10=>av ?_
 have hinit:(0≤(0:Int)∧(0:Int)≤(eH (gj x s.Read) 86400001))∧((eH (gj x s.Read) 86400001)≤(86400001:Int)∧(86400001:Int)≤86400001):=by (have hfl:=hP (p:=gj x s.Read) (n:=86400001); omega)
 refine cp (ι:={z:Int×Int // (0≤z.1∧z.1≤(eH (gj x s.Read) 86400001))∧((eH (gj x s.Read) 86400001)≤z.2∧z.2≤86400001)}) (fun z=>[(2,(vP b2)),(3,(vP b3)),(4,(vP b4)),(6,(vP b7)),(7,(vI z.1.1)),(8,(vI z.1.2))]) (fun z=>[(br b7 119 (cy.cells (cy.mk x.cJ (bB.mk xa.1 x.aR.length xa.2)))),(br b4 47 (aa.cells (aa.mk 0 0))),(br b3 165 (aM.cells s)),(br b2 28 (cE.cells (jx l kA kC cA cC bA bC))),(rd kA l.aH.length 9 (l.aH.map ah.cells)).ro,(rd cA l.aj.length 2 (List.zipWith al.cells l.aj az)).ro,(du (aU al.fK l.aj az)).ro,(rd bA l.ab.length 4 (l.ab.map bx.cells)).ro]) (fun z=>(z.1.2-z.1.1).toNat) ⟨((0:Int),(86400001:Int)),hinit⟩ (aL rfl) (aG [0,1,2,3,4,5,6,7]) ?_
 clear hinit
 rintro ⟨⟨a,b⟩,⟨hl3_0,hl3_1⟩⟩ J11 hJ11
 try dsimp only at hl3_0 hl3_1
 try dsimp only
 have hxo:=hok.clock _ (aw hx)
 have hfl:=hP (p:=gj x s.Read) (n:=86400001)
 have hfh:=hP (p:=gi x s.Read) (n:=86400001)
 refine ai fun _ hK12=>WS fun _ hK13=>rP 3 [] mn ?_
 refine RK hK13 ?_
 refine cP rfl (aP fun h14=>?_) (aQ fun h14=>?_)
 ·refine WK hK12 ?_
  refine av<|WS fun _ hK15=>rP 3 [] mn ?_
  refine rS (BI rfl (o6 om om om))<|rP 1 [] mn ?_
  refine RK hK15<|ai fun _ hK16=>dC cD 9 kr<|dP 3 [] (mc 0 rfl mn) ?_
  refine dS (CL (zT x xa.1 xa.2 ((a+b)/2) sd sd) (bq (show ji _ (rd xa.1 x.aR.length 3 (x.aR.map cR.cells)).holds from (dA 6 rfl (cm hx hxa (by simp [al.fK]))))<|aT) rfl)<|dS (SX (pR (v:=(vI ((gN x ((a+b)/2)).Hi))) rfl rfl gp ET rfl) rfl rfl) ?_
  have hab:=pC hxo (show 0≤(a+b)/2∧(a+b)/2≤90000000 by omega)
  refine dP 4 [] (mc 2 rfl mn) ?_
  refine cO<|RK hK16 ?_
  refine cP rfl (aP fun h38=>?_) (aQ fun h38=>?_)
  ·refine ak ?_
   refine rP 2 [] mn ?_
   refine aB<|ax ?_
   refine aN (hJ11 ⟨(a,((a+b)/2)),(by dsimp only; have hm:=kq (r:=s.Read) hxo (x:=(a+b)/2) om om; rcases Int.lt_or_le ((a+b)/2) (eH (gj x s.Read) 86400001) with q|q; (have q2:=hm.1 q; simp only [gj,decide_eq_false_iff_not] at q2; omega); (have q2:=hm.2.1 q; simp only [gj,decide_eq_true_eq] at q2; omega))⟩ _ _ _ rfl (by simp only []; omega) (aL rfl) (aG [0,1,2,3,4,5,6,7]))
  refine ak<|rP 3 [] mn ?_
  refine aB<|ax ?_
  refine aN (hJ11 ⟨((((a+b)/2)+1),b),(by dsimp only; have hm:=kq (r:=s.Read) hxo (x:=(a+b)/2) om om; rcases Int.lt_or_le ((a+b)/2) (eH (gj x s.Read) 86400001) with q|q; (have q2:=hm.1 q; simp only [gj,decide_eq_false_iff_not] at q2; omega); (have q2:=hm.2.1 q; simp only [gj,decide_eq_true_eq] at q2; omega))⟩ _ _ _ rfl (by simp only []; omega) (aL rfl) (aG [0,1,2,3,4,5,6,7]))
 refine bp<|ae<|ae<|au<|KK hK10<|WS fun _ hK17=>rP 2 [] mn ?_
 refine RK hK17<|WS fun _ hK18=>rP 2 [] mn ?_
 refine RK hK18<|ai fun _ hK19=>av ?_
 have hinit:(-1≤((-1):Int)∧((-1):Int)≤(eH (gi x s.Read) 86400001)-1)∧((eH (gi x s.Read) 86400001)-1≤(86400000:Int)∧(86400000:Int)≤86400000):=by (have hfh:=hP (p:=gi x s.Read) (n:=86400001); omega)
 refine cp (ι:={z:Int×Int // (-1≤z.1∧z.1≤(eH (gi x s.Read) 86400001)-1)∧((eH (gi x s.Read) 86400001)-1≤z.2∧z.2≤86400000)}) (fun z=>[(2,(vP b2)),(3,(vP b3)),(4,(vP b4)),(6,(vP b7)),(7,(vI z.1.1)),(8,(vI z.1.2)),(10,(vI a))]) (fun z=>[(br b7 119 (cy.cells (cy.mk x.cJ (bB.mk xa.1 x.aR.length xa.2)))),(br b4 47 (aa.cells (aa.mk 0 0))),(br b3 165 (aM.cells s)),(br b2 28 (cE.cells (jx l kA kC cA cC bA bC))),(rd kA l.aH.length 9 (l.aH.map ah.cells)).ro,(rd cA l.aj.length 2 (List.zipWith al.cells l.aj az)).ro,(du (aU al.fK l.aj az)).ro,(rd bA l.ab.length 4 (l.ab.map bx.cells)).ro]) (fun z=>(z.1.2-z.1.1).toNat) ⟨(((-1):Int),(86400000:Int)),hinit⟩ (aL rfl) (aG [0,1,2,3,4,5,6,7]) ?_
 clear hinit
 rintro ⟨⟨d,e⟩,⟨hl10_0,hl10_1⟩⟩ J20 hJ20
 try dsimp only at hl10_0 hl10_1
 try dsimp only
 have hxo:=hok.clock _ (aw hx)
 have hfl:=hP (p:=gj x s.Read) (n:=86400001)
 have hfh:=hP (p:=gi x s.Read) (n:=86400001)
 refine ai fun _ hK21=>WS fun _ hK22=>rP 3 [] mn ?_
 refine RK hK22 ?_
 refine bM rfl (aQ fun h23=>?_) (aP fun h23=>?_)
 ·refine bp ?_
  refine ae<|ae<|au<|KK hK19<|WS fun _ hK26=>rP 2 [] mn ?_
  refine rS (SX (bg (xs:=[(0,.tmp 63),(1,.tmp 64)]) (cs:=(aa.cells (aa.mk a d))) rfl rfl (bf fg rfl)) rfl rfl)<|rP 3 [] mn ?_
  refine oV rfl bY rfl<|rP 1 [] mn ?_
  refine RK hK26<|an ?_
  refine hQ _ _ _ (aZ (vs:=[(vA (aa.cells (aa.mk a d))),(vB (decide (a≤d)))]) ⟨⟨_,rfl,.inl ⟨_,_,bJ,bQ (vs:=(aa.cells (aa.mk a d))) 1 rfl rfl,rfl,rfl⟩⟩,rfl,trivial⟩ fun w hs=>eM ?_ hs)
  show (vT [(vA (aa.cells (aa.mk a d))),(vB (decide (a≤d)))])=(vT [(vA (aa.cells (cH l s))),(vB (decide ((cH l s).Lo≤(cH l s).Hi)))])
  clear hs w hQ hN hK26 hK22 hK21 hK19 hK18 hK17 hK13 hK12 hK10 hK9 hT8 T8 hT6 T6 hK5 hK1
  have e0:cH l s=⟨a,d⟩:=by (unfold cH yR; rw [uY hy hx,show a=(eH (gj x s.Read) 86400001) by omega,show d=(eH (gi x s.Read) 86400001)-1 by omega])
  rw [e0]
 refine WK hK21<|av<|WS fun _ hK24=>rP 4 [] mn ?_
 refine rS (BI rfl (o6 om om om))<|rP 1 [] mn ?_
 refine RK hK24<|ai fun _ hK25=>dC cD 9 kr<|dP 3 [] (mc 0 rfl mn) ?_
 refine dS (CL (zT x xa.1 xa.2 (((d+e)+1)/2) sd sd) (bq (show ji _ (rd xa.1 x.aR.length 3 (x.aR.map cR.cells)).holds from (dA 6 rfl (cm hx hxa (by simp [al.fK]))))<|aT) rfl)<|dS (SX (pR (v:=(vI ((gN x (((d+e)+1)/2)).Lo))) rfl rfl gp Fi rfl) rfl rfl) ?_
 have hab:=pC hxo (show 0≤(d+e+1)/2∧(d+e+1)/2≤90000000 by omega)
 refine dP 4 [] (mc 2 rfl mn) ?_
 refine cO<|RK hK25 ?_
 refine cP rfl (aP fun h59=>?_) (aQ fun h59=>?_)
 ·refine ak ?_
  refine rP 2 [] mn ?_
  refine aB<|ax ?_
  refine aN (hJ20 ⟨((((d+e)+1)/2),e),(by dsimp only; have hm:=kq (r:=s.Read) hxo (x:=(d+e+1)/2) om om; rcases Int.lt_or_le ((d+e+1)/2) (eH (gi x s.Read) 86400001) with q|q; (have q2:=hm.2.2.1 q; simp only [gi,decide_eq_false_iff_not] at q2; omega); (have q2:=hm.2.2.2 q; simp only [gi,decide_eq_true_eq] at q2; omega))⟩ _ _ _ rfl (by simp only []; omega) (aL rfl) (aG [0,1,2,3,4,5,6,7]))
 refine ak<|rP 3 [] mn ?_
 refine aB<|ax ?_
 refine aN (hJ20 ⟨(d,((((d+e)+1)/2)-1)),(by dsimp only; have hm:=kq (r:=s.Read) hxo (x:=(d+e+1)/2) om om; rcases Int.lt_or_le ((d+e+1)/2) (eH (gi x s.Read) 86400001) with q|q; (have q2:=hm.2.2.1 q; simp only [gi,decide_eq_false_iff_not] at q2; omega); (have q2:=hm.2.2.2 q; simp only [gi,decide_eq_true_eq] at q2; omega))⟩ _ _ _ rfl (by simp only []; omega) (aL rfl) (aG [0,1,2,3,4,5,6,7]))
end
section
structure AE (w w':bE):Prop where
 start:w'.Start=w.Start
 now:w.fR≤w'.fR
 n:w'.n=w.n
 least: ∀ b,bH w' b≤bH w b
 times:w'.tO=w.tO
 Ka:w.e8≤w'.e8
 KC:w.iH≤w'.iH
 sigs:w'.Jk=w.Jk
variable {w w':bE}
theorem AE.opt (h:AE w w') {b:Nat} {o:Int×aa} (ho:o∈g7 w b): ∃ o'∈g7 w' b,o'.1=o.1∧o'.2.Lo≤o.2.Lo∧o.2.Hi≤o'.2.Hi:=by
 unfold g7 at ho
 rcases List.mem_cons.1 ho with rfl|ho
 ·exact ⟨(-1,⟨w'.Start,w'.fR⟩),cZ ..,rfl,by simp only [h.start]; omega,h.now⟩
 ·refine ⟨o,dY _ ?_,rfl,Int.le_refl _,Int.le_refl _⟩
  unfold rr at ho ⊢; rw [h.times]; exact ho
theorem AE.may (h:AE w w') {t:ao} (ht:j4 w t=true):j4 w' t=true:=by
 unfold j4 at ht ⊢
 have:=of_decide_eq_true ht
 have h1:=h.Ka
 have h2:=h.KC
 have h3:=h.sigs
 exact bW om
theorem AE.fwd (h:AE w w'): ∀ (b:Nat) (p:ao×Int),p∈fwd w b→ ∃ p'∈Go.Proofs.YtcoejkiaokbmpaaGreatDoor.fwd w' b,p'.1=p.1∧p'.2≤p.2:=by
 intro b
 induction b with
 |zero=>
  intro p hp
  simp only [Go.Proofs.YtcoejkiaokbmpaaGreatDoor.fwd,bU] at hp ⊢
  subst hp
  exact ⟨_,rfl,rfl,by simp only [h.start]; omega⟩
 |succ b ih=>
  intro q hq
  obtain ⟨p,hp,o,ho,e⟩:=fB.1 hq
  obtain ⟨p',hp',h1,h2⟩:=ih p hp
  obtain ⟨o',ho',h3,h4,h5⟩:=h.opt ho
  have hl:=h.least b
  have hn:=h.now
  unfold kh at e
  split at e
  ·rename_i hle
   simp only [Option.some.injEq] at e
   subst e
   refine ⟨(c_ p'.1 (eL o'.1),max (p'.2+bH w' b) o'.2.Lo),fB.2 ⟨p',hp',o',ho',by unfold kh; rw [if_pos om]⟩,by simp only [h1,h3],by simp only; omega⟩
  ·cases e
theorem AE.bwd (h:AE w w'): ∀ (k:Nat) (p:ao×Int),p∈bwd w k→ ∃ p'∈Go.Proofs.YtcoejkiaokbmpaaGreatDoor.bwd w' k,p'.1=p.1∧p.2≤p'.2:=by
 intro k
 induction k with
 |zero=>
  intro p hp
  simp only [Go.Proofs.YtcoejkiaokbmpaaGreatDoor.bwd,bU] at hp ⊢
  subst hp
  exact ⟨_,rfl,rfl,h.now⟩
 |succ k ih=>
  intro q hq
  simp only [Go.Proofs.YtcoejkiaokbmpaaGreatDoor.bwd,dZ,List.mem_flatMap,List.mem_filterMap] at hq ⊢
  rcases hq with rfl|⟨p,hp,o,ho,e⟩
  ·exact ⟨_,.inl rfl,rfl,h.now⟩
  ·obtain ⟨p',hp',h1,h2⟩:=ih p hp
   obtain ⟨o',ho',h3,h4,h5⟩:=h.opt ho
   have hl:=h.least (w.n-(k+1))
   rw [h.n]
   unfold mS at e
   split at e
   ·rename_i hle
    simp only [Option.some.injEq] at e
    subst e
    exact ⟨(c_ p'.1 (eL o'.1),min p'.2 o'.2.Hi-bH w' (w.n-(k+1))),.inr ⟨p',hp',o',ho',by unfold mS; rw [if_pos om]⟩,by simp only [h1,h3],by simp only; omega⟩
   ·cases e
theorem AE.back (h:AE w w') {b:Nat} {p:ao×Int} (hp:p∈back w b): ∃ p'∈Go.Proofs.YtcoejkiaokbmpaaGreatDoor.back w' b,p'.1=p.1∧p.2≤p'.2:=by
 unfold Go.Proofs.YtcoejkiaokbmpaaGreatDoor.back at hp ⊢
 rw [h.n]
 exact h.bwd _ p hp
theorem AE.pass (h:AE w w') {b:Nat} {q:Int×aa} (hq:q∈l4 w b): ∃ q'∈l4 w' b,q'.1=q.1∧q'.2.Lo≤q.2.Lo∧q.2.Hi≤q'.2.Hi:=by
 obtain ⟨o,ho,p,hp,u,hu,e⟩:=gY.1 hq
 obtain ⟨h1,h2,rfl⟩:=iW.1 e
 obtain ⟨o',ho',a1,a2,a3⟩:=h.opt ho
 obtain ⟨p',hp',b1,b2⟩:=h.fwd _ p hp
 obtain ⟨u',hu',c1,c2⟩:=h.back hu
 have hl:=h.least b
 simp only [jg] at h1
 refine ⟨(o'.1,jg w' b p' u' o'),gY.2 ⟨o',ho',p',hp',u',hu',iW.2 ⟨?_,?_,rfl⟩⟩,a1,?_,?_⟩
 ·simp only [jg]; omega
 ·have:=h.may h2
  unfold vY at this ⊢
  rw [a1,b1,c1]; exact this
 ·simp only [jg]; omega
 ·simp only [jg]; omega
theorem nI {k:Int}:k∈gR w↔ ∃ i:Nat,k=(i:Int)∧i≤w.n∧iU w (fwd w i)=true:=by
 unfold gR jn
 simp only [rR,List.mem_filter,List.mem_range]
 constructor
 ·rintro ⟨i,⟨h1,h2⟩,rfl⟩; exact ⟨i,rfl,om,h2⟩
 ·rintro ⟨i,rfl,h1,h2⟩; exact ⟨i,⟨om,h2⟩,rfl⟩
theorem AE.DS (h:AE w w') {k:Int} (hk:k∈gR w):k∈gR w':=by
 obtain ⟨i,rfl,h1,h2⟩:=nI.1 hk
 refine nI.2 ⟨i,rfl,by rw [h.n]; exact h1,?_⟩
 unfold iU at h2 ⊢
 obtain ⟨p,hp,h3⟩:=List.any_eq_true.1 h2
 obtain ⟨p',hp',b1,_⟩:=h.fwd _ p hp
 exact List.any_eq_true.2 ⟨p',hp',by rw [b1]; exact h.may h3⟩
/-- two rides, of two lines, of which one allows more -/
structure MK (l:aV) (r:cq) (l':aV) (r':cq):Prop where
 line:dh l=0
 line':dh l'=0
 wu:ed l r
 ride':ed l' r'
 w:AE (b_ l r) (b_ l' r')
 IZ:l'.ab.length=l.ab.length
variable {l l':aV} {r r':cq}
theorem MK.ok (h:MK l r l' r') (he:dN l r 0=0):dN l' r' 0=0:=by
 refine mo h.line' h.ride' rfl fun e=>?_
 obtain ⟨k,hk⟩:=List.exists_mem_of_ne_nil _ (jM he).2.2.2
 have:=h.w.DS hk
 rw [e] at this; cases this
theorem MK.yb (h:MK l r l' r') {k:Int} (hk:k∈kI l r):k∈kI l' r':=by
 by_cases he:dN l r 0=0
 ·rw [kQ he] at hk
  rw [kQ (h.ok he)]
  exact h.w.DS hk
 ·rw [si he] at hk; cases hk
theorem C_ {b:Nat} (hb:b<l.ab.length):dN l r (jf l b)=dN l r 0:=by rw [zk om]
theorem xn {b:Nat}:bH (b_ l r) b=if b<l.ab.length then dE l b else 0:=by
 unfold bH b_ bS
 split
 ·rename_i h
  simp [h]
 ·rename_i h
  simp [h]
theorem sP {sg:List aM} {i:Nat} (h:i=0):nX sg i=⟨-1,0⟩:=by subst h; rfl
theorem iK {sg:List aM} {i:Nat} {y:aM} (h:0<i) (hy:sg[i-1]? =some y):nX sg i=y:=by unfold nX; rw [if_neg om,hy]; rfl
def Jv (l:aV):Prop:= ¬ lV l∧dh l=0
noncomputable instance (l:aV):Decidable (Jv l):=Classical.propDecidable _
end
section
/-- where a sled may be after k beams more -/
def fF (w:bE):Nat→Nat→ao×Int→List (ao×Int)
 |0,_,p=>[p]
 |k+1,b,p=>(g7 w b).flatMap fun o=>match kh w b p o with
  |some q=>fF w k (b+1) q
  |none=>[]
variable {w:bE}
theorem gV {k b:Nat} {p q:ao×Int}:q∈fF w (k+1) b p↔ ∃ o∈g7 w b,∃ p',kh w b p o=some p'∧q∈fF w k (b+1) p':=by
 simp only [fF,List.mem_flatMap]
 constructor
 ·rintro ⟨o,ho,h⟩
  cases e:kh w b p o with
  |none=>rw [e] at h; cases h
  |some p'=>rw [e] at h; exact ⟨o,ho,p',e,h⟩
 ·rintro ⟨o,ho,p',e,h⟩
  exact ⟨o,ho,by rw [e]; exact h⟩
theorem p8: ∀ (k b:Nat) (q:ao×Int),q∈fwd w (b+k)↔ ∃ p∈fwd w b,q∈fF w k b p:=by
 intro k
 induction k with
 |zero=>
  intro b q
  simp only [Nat.add_zero,fF,bU]
  exact ⟨fun h=>⟨q,h,rfl⟩,fun ⟨p,hp,e⟩=>e▸hp⟩
 |succ k ih=>
  intro b q
  rw [show b+(k+1)=(b+1)+k by omega,ih]
  constructor
  ·rintro ⟨p',hp',h⟩
   obtain ⟨p,hp,o,ho,e⟩:=fB.1 hp'
   exact ⟨p,hp,gV.2 ⟨o,ho,p',e,h⟩⟩
  ·rintro ⟨p,hp,h⟩
   obtain ⟨o,ho,p',e,h'⟩:=gV.1 h
   exact ⟨p',fB.2 ⟨p,hp,o,ho,e⟩,h'⟩
theorem gu {b:Nat} {p q:ao×Int} {o:Int×aa}:kh w b p o=some q↔max (p.2+bH w b) o.2.Lo≤min o.2.Hi w.fR∧q=(c_ p.1 (eL o.1),max (p.2+bH w b) o.2.Lo):=by
 unfold kh
 split
 ·rename_i h
  constructor
  ·intro e; cases e; exact ⟨h,rfl⟩
  ·rintro ⟨_,rfl⟩; rfl
 ·rename_i h
  constructor
  ·intro e; cases e
  ·rintro ⟨h',_⟩; exact absurd h' h
theorem sO {b:Nat} {p q:ao×Int} {o:Int×aa}:mS w b p o=some q↔o.2.Lo≤min p.2 o.2.Hi∧q=(c_ p.1 (eL o.1),min p.2 o.2.Hi-bH w b):=by
 unfold mS
 split
 ·rename_i h
  constructor
  ·intro e; cases e; exact ⟨h,rfl⟩
  ·rintro ⟨_,rfl⟩; rfl
 ·rename_i h
  constructor
  ·intro e; cases e
  ·rintro ⟨h',_⟩; exact absurd h' h
theorem DR {b:Nat} (hb:b≤w.n):((⟨0,0⟩:ao),w.fR)∈back w b:=by
 rcases Nat.lt_or_ge b w.n with h|h
 ·exact (nP h).2 (.inl rfl)
 ·rw [s9 h]; simp
theorem my (t:ao):c_ t ⟨0,0⟩=t:=by cases t; simp [c_]
theorem wW (a o u:ao):c_ (c_ a o) u=c_ a (c_ u o):=by simp only [c_,ao.mk.injEq]; omega
theorem Cv (hl: ∀ b,0≤bH w b): ∀ (k:Nat) (u:ao×Int),u∈bwd w k→u.2≤w.fR:=by
 intro k
 induction k with
 |zero=>intro u hu; simp only [bwd,bU] at hu; subst hu; exact Int.le_refl _
 |succ k ih=>
  intro u hu
  simp only [bwd,dZ,List.mem_flatMap,List.mem_filterMap] at hu
  rcases hu with rfl|⟨p,hp,o,ho,e⟩
  ·exact Int.le_refl _
  ·obtain ⟨_,rfl⟩:=sO.1 e
   have:=ih p hp
   have:=hl (w.n-(k+1))
   simp only; omega
/-- what follows a passing is told by the way back -/
theorem G2: ∀ (k b:Nat) (p q:ao×Int),b+k≤w.n→p.2≤w.fR→q∈fF w k b p→ ∃ u∈back w b,p.2≤u.2∧q.1=c_ p.1 u.1:=by
 intro k
 induction k with
 |zero=>
  intro b p q hb hp hq
  simp only [fF,bU] at hq
  subst hq
  exact ⟨_,DR om,hp,(my _).symm⟩
 |succ k ih=>
  intro b p q hb hp hq
  obtain ⟨o,ho,p',e,h⟩:=gV.1 hq
  obtain ⟨h1,rfl⟩:=gu.1 e
  obtain ⟨u',hu',h2,h3⟩:=ih (b+1) _ q om (by simp only; omega) h
  simp only at h2 h3
  refine ⟨(c_ u'.1 (eL o.1),min u'.2 o.2.Hi-bH w b),(nP om).2 (.inr ⟨u',hu',o,ho,sO.2 ⟨om,rfl⟩⟩),by simp only; omega,?_⟩
  rw [h3,wW]
theorem E_ (hl: ∀ b,0≤bH w b): ∀ (d b:Nat) (p u:ao×Int),w.n=b+d→p.2≤u.2→u∈back w b→ ∃ k,b+k≤w.n∧ ∃ q∈fF w k b p,q.1=c_ p.1 u.1:=by
 intro d
 induction d with
 |zero=>
  intro b p u hd hp hu
  rw [s9 om] at hu
  simp only [bU] at hu
  subst hu
  exact ⟨0,om,p,by simp [fF],(my _).symm⟩
 |succ d ih=>
  intro b p u hd hp hu
  rcases (nP om).1 hu with rfl|⟨u',hu',o,ho,e⟩
  ·exact ⟨0,om,p,by simp [fF],(my _).symm⟩
  ·obtain ⟨h1,rfl⟩:=sO.1 e
   have hn:u'.2≤w.fR:=Cv hl _ _ hu'
   simp only at hp
   obtain ⟨k,hk,q,hq,h3⟩:=ih (b+1) (c_ p.1 (eL o.1),max (p.2+bH w b) o.2.Lo) u' om (by simp only; omega) hu'
   refine ⟨k+1,om,q,gV.2 ⟨o,ho,_,gu.2 ⟨om,rfl⟩,hq⟩,?_⟩
   rw [h3]; simp only; rw [wW]
end
section
section
variable {l:aV} {r:cq} {one at_:Int} {d:Nat} {f g m:Int} {rec:Int→Int→Int→Bool} {i:Int}
end
theorem py {l:aV} {r:cq} {d:Nat} (hd:d<l.ab.length) {o:Int×aa}:o∈g7 (b_ l r) d↔o=(-1,⟨r.Start,r.fR⟩)∨ ∃ k,k<r.ag.length∧ ∃ s,r.ag[k]? =some s∧(s.fO=(d:Int)∧(cH l s).Lo≤(cH l s).Hi)∧o=((k:Int),cH l s):=by
 unfold g7 rr
 show o∈(-1,(⟨r.Start,r.fR⟩:aa))::((dT l r.ag r.ag.length)[d]?).getD []↔_
 rw [nz hd,Option.getD_some,dZ,qx]
theorem oH {l:aV} {r:cq} {d:Nat} (hd:d<l.ab.length):bH (b_ l r) d=dE l d:=by rw [xn,if_pos hd]
theorem s7 {l:aV} {n d:Nat} {y:Int} (h:(bS l n)[d]? =some y):y=dE l d:=by
 unfold bS at h
 rw [fq] at h
 have hd:d<n:=by
  rcases Nat.lt_or_ge d n with q|q
  ·exact q
  ·rw [List.getElem?_eq_none (by simpa using q)] at h; cases h
 rw [List.getElem?_range hd] at h
 exact (Option.some.inj h).symm
end
section
def Jt (w:bE) (b:Nat) (i:Int):Prop:= ∃ b',b'<b∧ ∃ q∈l4 w b',q.1=i
noncomputable instance (w:bE) (b:Nat) (i:Int):Decidable (Jt w b i):=Classical.propDecidable _
def ur (w:bE) (b:Nat):Bool:=(l4 w b).any fun q=>decide (0≤q.1)
def x8 (w:bE) (k:Nat):List Int:=((List.range k).filter fun b=> !ur w b).map fun (b:Nat)=>(b:Int)
noncomputable def uy (l:aV) (r:cq):List Int:=if dN l r 0=0 then x8 (b_ l r) (uT (kI l r)).toNat else []
theorem vD {l:aV} {r:cq} (h:dN l r 0=0):uy l r=x8 (b_ l r) (uT (kI l r)).toNat:=if_pos h
theorem uM {l:aV} {r:cq} (h: ¬ dN l r 0=0):uy l r=[]:=if_neg h
theorem Lb {l:aV} {r:cq} (h:dN l r 0=0):0≤uT (kI l r)∧uT (kI l r)≤(l.ab.length:Int):=by
 have h1:=(CA (sQ h)).1
 rw [kQ h] at h1 ⊢
 obtain ⟨i,e,hi,_⟩:=nI.1 h1
 have hn:(b_ l r).n=l.ab.length:=dQ
 omega
end
section
/-- a truth goes on from here -/
def qE (w:bE) (b:Nat) (p:ao×Int):Prop:= ∃ k,b+k≤w.n∧ ∃ q∈fF w k b p,j4 w q.1=true
/-- a truth may have come here, or earlier -/
def zZ (w:bE) (b:Nat) (p:ao×Int):Prop:= ∃ v,(p.1,v)∈fwd w b∧v≤p.2
def Eo (n:Int) (p:ao×Int):ao×Int:=(p.1,p.2+n)
section
variable {w:bE}
theorem DC: ∀ (k j b:Nat) (p q z:ao×Int),q∈fF w k b p→z∈fF w j (b+k) q→z∈fF w (k+j) b p:=by
 intro k
 induction k with
 |zero=>
  intro j b p q z h1 h2
  simp only [fF,bU] at h1
  subst h1
  rw [Nat.zero_add]; exact h2
 |succ k ih=>
  intro j b p q z h1 h2
  obtain ⟨o,ho,p',e,h⟩:=gV.1 h1
  rw [show k+1+j=(k+j)+1 by omega]
  exact gV.2 ⟨o,ho,p',e,ih j (b+1) p' q z h (by rw [show b+1+k=b+(k+1) by omega]; exact h2)⟩
theorem zq: ∀ (k b:Nat) (t:ao) (x y:Int) (q:ao×Int),y≤x→q∈fF w k b (t,x)→ ∃ q'∈fF w k b (t,y),q'.1=q.1∧q'.2≤q.2:=by
 intro k
 induction k with
 |zero=>
  intro b t x y q hxy hq
  simp only [fF,bU] at hq ⊢
  subst hq
  exact ⟨_,rfl,rfl,hxy⟩
 |succ k ih=>
  intro b t x y q hxy hq
  obtain ⟨o,ho,p',e,h⟩:=gV.1 hq
  obtain ⟨h1,rfl⟩:=gu.1 e
  simp only at h1 h
  obtain ⟨q',hq',h2,h3⟩:=ih (b+1) _ _ (max (y+bH w b) o.2.Lo) q om h
  exact ⟨q',gV.2 ⟨o,ho,_,gu.2 ⟨by simp only; omega,rfl⟩,hq'⟩,h2,h3⟩
theorem u9 {b:Nat} {t:ao} {x y:Int} (h:qE w b (t,x)) (hy:y≤x):qE w b (t,y):=by
 obtain ⟨k,hk,q,hq,hm⟩:=h
 obtain ⟨q',hq',e,_⟩:=zq k b t x y q hy hq
 exact ⟨k,hk,q',hq',by rw [e]; exact hm⟩
theorem sT {k b:Nat} {p q:ao×Int} (h:q∈fF w k b p) (hv:qE w (b+k) q):qE w b p:=by
 obtain ⟨j,hj,z,hz,hm⟩:=hv
 exact ⟨k+j,om,z,DC k j b p q z h hz,hm⟩
theorem D8 {b:Nat} {p q:ao×Int} {o:Int×aa} (h:zZ w b p) (ho:o∈g7 w b) (e:kh w b p o=some q):zZ w (b+1) q:=by
 obtain ⟨v,hv,hle⟩:=h
 obtain ⟨h1,rfl⟩:=gu.1 e
 exact ⟨max (v+bH w b) o.2.Lo,fB.2 ⟨_,hv,o,ho,gu.2 ⟨by simp only; omega,rfl⟩⟩,by simp only; omega⟩
theorem zR {b:Nat} {p:ao×Int} (h:p∈fwd w b):zZ w b p:=⟨p.2,h,Int.le_refl _⟩
theorem wD (hl: ∀ b,0≤bH w b): ∀ (b:Nat) (p:ao×Int),p∈fwd w b→w.Start≤p.2:=by
 intro b
 induction b with
 |zero=>intro p hp; simp only [fwd,bU] at hp; subst hp; exact Int.le_refl _
 |succ b ih=>
  intro q hq
  obtain ⟨p,hp,o,ho,e⟩:=fB.1 hq
  obtain ⟨_,rfl⟩:=gu.1 e
  have:=ih p hp
  have:=hl b
  simp only; omega
/-- a beam is passed at a time, by a signal -/
def vz (w:bE) (b:Nat) (s t:Int):Prop:= ∃ p∈fwd w b,∃ o∈g7 w b,o.1=s∧(max (p.2+bH w b) o.2.Lo≤t∧t≤min o.2.Hi w.fR)∧qE w (b+1) (c_ p.1 (eL o.1),t)
theorem xJ (hl: ∀ b,0≤bH w b) {b:Nat} (hb:b<w.n) {s t:Int}:(∃ q∈l4 w b,q.1=s∧q.2.Lo≤t∧t≤q.2.Hi)↔vz w b s t:=by
 constructor
 ·rintro ⟨q,hq,hs,h1,h2⟩
  obtain ⟨o,ho,p,hp,u,hu,e⟩:=gY.1 hq
  obtain ⟨h3,h4,rfl⟩:=iW.1 e
  simp only [jg] at h1 h2 h3
  have hn:u.2≤w.fR:=Cv hl _ _ hu
  obtain ⟨k,hk,q,hq',h5⟩:=E_ hl (w.n-(b+1)) (b+1) (c_ p.1 (eL o.1),t) u om (by simp only; omega) hu
  refine ⟨p,hp,o,ho,hs,⟨om,om⟩,k,hk,q,hq',?_⟩
  rw [h5]
  unfold vY at h4
  rw [show c_ (c_ p.1 (eL o.1)) u.1=c_ (c_ p.1 u.1) (eL o.1) by simp only [c_,ao.mk.injEq]; omega]
  exact h4
 ·rintro ⟨p,hp,o,ho,hs,⟨h1,h2⟩,k,hk,q,hq,hm⟩
  obtain ⟨u,hu,h3,h4⟩:=G2 k (b+1) _ q hk (by simp only; omega) hq
  simp only at h3 h4
  refine ⟨(o.1,jg w b p u o),gY.2 ⟨o,ho,p,hp,u,hu,iW.2 ⟨by simp only [jg]; omega,?_,rfl⟩⟩,hs,by simp only [jg]; omega,by simp only [jg]; omega⟩
  unfold vY
  rw [h4] at hm
  rw [show c_ (c_ p.1 u.1) (eL o.1)=c_ (c_ p.1 (eL o.1)) u.1 by simp only [c_,ao.mk.injEq]; omega]
  exact hm
end
structure wk (w w':bE) (n:Int) (f:Int→Int):Prop where
 start:w'.Start=w.Start+n
 now:w'.fR=w.fR+n
 wn:w'.n=w.n
 low: ∀ b,0≤bH w b
 least: ∀ b,bH w' b=bH w b
 may: ∀ t,j4 w t=true→j4 w' t=true
 Nu: ∀ s,0≤f s↔0≤s
 opt: ∀ (b:Nat) (p:ao×Int) (o:Int×aa),b<w.n→w.Start≤p.2→zZ w b p→o∈g7 w b→max (p.2+bH w b) o.2.Lo≤min o.2.Hi w.fR→qE w (b+1) (c_ p.1 (eL o.1),max (p.2+bH w b) o.2.Lo)→
  ∃ o'∈g7 w' b,o'.1=f o.1∧ ∀ t,w.Start≤t→t≤w.fR→((o.2.Lo≤t∧t≤o.2.Hi)↔(o'.2.Lo≤t+n∧t+n≤o'.2.Hi))
section
variable {w w':bE} {n:Int} {f g:Int→Int}
theorem wk.one (h:wk w w' n f) (s:Int):eL (f s)=eL s:=by
 unfold eL
 have:=h.Nu s
 by_cases q:s<0
 ·rw [if_pos q,if_pos om]
 ·rw [if_neg q,if_neg om]
theorem wk.step (h:wk w w' n f) {b:Nat} {p q:ao×Int} {o:Int×aa} (hb:b<w.n) (hs:w.Start≤p.2) (hl:zZ w b p) (ho:o∈g7 w b) (e:kh w b p o=some q) (hv:qE w (b+1) q):
 ∃ o'∈g7 w' b,kh w' b (Eo n p) o'=some (Eo n q):=by
 obtain ⟨h1,rfl⟩:=gu.1 e
 obtain ⟨o',ho',e1,h2⟩:=h.opt b p o hb hs hl ho h1 hv
 have hlo:=h.low b
 have c1:=h2 (max (p.2+bH w b) o.2.Lo) om om
 have c2:=h2 (max (p.2+n+bH w b) o'.2.Lo-n) om
 refine ⟨o',ho',gu.2 ?_⟩
 simp only [Eo,h.least,h.now]
 rw [e1,h.one]
 have d1:=c1.1 om
 have d2:=(c2 om).2 om
 refine ⟨om,?_⟩
 simp only [Prod.mk.injEq,true_and]
 omega
theorem wk.reach (h:wk w w' n f): ∀ (k b:Nat) (p q:ao×Int),b+k≤w.n→w.Start≤p.2→zZ w b p→q∈fF w k b p→qE w (b+k) q→Eo n q∈fF w' k b (Eo n p):=by
 intro k
 induction k with
 |zero=>
  intro b p q _ _ _ hq _
  simp only [fF,bU] at hq ⊢
  rw [hq]
 |succ k ih=>
  intro b p q hb hs hl hq hv
  obtain ⟨o,ho,p',e,hq'⟩:=gV.1 hq
  have hv':qE w (b+1) p':=sT hq' (by rw [show b+1+k=b+(k+1) by omega]; exact hv)
  obtain ⟨o',ho',e'⟩:=h.step om hs hl ho e hv'
  have h1:=gu.1 e
  have h2:=h.low b
  exact gV.2 ⟨o',ho',_,e',ih (b+1) p' q om (by rw [h1.2]; simp only; omega) (D8 hl ho e) hq' (by rw [show b+1+k=b+(k+1) by omega]; exact hv)⟩
theorem wk.JY (h:wk w w' n f) {b:Nat} {p:ao×Int} (hs:w.Start≤p.2) (hl:zZ w b p) (hv:qE w b p):qE w' b (Eo n p):=by
 obtain ⟨k,hk,q,hq,hm⟩:=hv
 exact ⟨k,by rw [h.wn]; exact hk,_,h.reach k b p q hk hs hl hq ⟨0,om,q,by simp [fF],hm⟩,h.may _ hm⟩
theorem wk.fwd (h:wk w w' n f) {b:Nat} {q:ao×Int} (hb:b≤w.n) (hq:q∈fwd w b) (hv:qE w b q):Eo n q∈Go.Proofs.YtcoejkiaokbmpaaGreatDoor.fwd w' b:=by
 obtain ⟨p,hp,hr⟩:=(p8 b 0 q).1 (by rw [Nat.zero_add]; exact hq)
 have hr':=h.reach b 0 p q om (wD h.low 0 p hp) (zR hp) hr (by rw [Nat.zero_add]; exact hv)
 have:Eo n p∈Go.Proofs.YtcoejkiaokbmpaaGreatDoor.fwd w' 0:=by
  simp only [Go.Proofs.YtcoejkiaokbmpaaGreatDoor.fwd,bU] at hp ⊢
  subst hp
  rw [h.start]; rfl
 have h2:=(p8 b 0 (Eo n q)).2 ⟨_,this,hr'⟩
 rwa [Nat.zero_add] at h2
theorem wk.any (h:wk w w' n f) {b:Nat} (hb:b≤w.n) (hm:iU w (Go.Proofs.YtcoejkiaokbmpaaGreatDoor.fwd w b)=true):iU w' (Go.Proofs.YtcoejkiaokbmpaaGreatDoor.fwd w' b)=true:=by
 unfold iU at hm ⊢
 obtain ⟨p,hp,h1⟩:=List.any_eq_true.1 hm
 exact List.any_eq_true.2 ⟨_,h.fwd hb hp ⟨0,om,p,by simp [fF],h1⟩,h.may _ h1⟩
theorem wk.pass (h:wk w w' n f) {b:Nat} (hb:b<w.n) {s t:Int} (hp:vz w b s t):vz w' b (f s) (t+n):=by
 obtain ⟨p,hp,o,ho,rfl,⟨h1,h2⟩,hv⟩:=hp
 have hs:=wD h.low b p hp
 have hl:=h.low b
 have hv1:qE w (b+1) (c_ p.1 (eL o.1),max (p.2+bH w b) o.2.Lo):=u9 hv h1
 have e:kh w b p o=some (c_ p.1 (eL o.1),max (p.2+bH w b) o.2.Lo):=gu.2 ⟨om,rfl⟩
 have hvp:qE w b p:=sT (k:=1) (gV.2 ⟨o,ho,_,e,by simp [fF]⟩) hv1
 obtain ⟨o',ho',e1,h3⟩:=h.opt b p o hb hs (zR hp) ho om hv1
 have c:=(h3 t om om).1 om
 refine ⟨Eo n p,h.fwd om hp hvp,o',ho',e1,?_,?_⟩
 ·simp only [Eo,h.least,h.now]; omega
 ·have h4:=h.JY (b:=b+1) (p:=(c_ p.1 (eL o.1),t)) (by simp only; omega) ⟨_,fB.2 ⟨p,hp,o,ho,e⟩,h1⟩ hv
  rw [e1,h.one]; exact h4
theorem FG (h:wk w w' n f) (h':wk w' w (-n) g):gR w'=gR w:=by
 unfold gR
 rw [h.wn]
 unfold jn
 congr 1
 refine List.filter_congr fun b hb=>?_
 have hb:=List.mem_range.1 hb
 rw [Bool.eq_iff_iff]
 exact ⟨h'.any (by rw [h.wn]; omega),h.any om⟩
theorem zY (h:wk w w' n f) (hl': ∀ b,0≤bH w' b) {b:Nat} (hb:b<w.n) {s:Int} (hq: ∃ q∈l4 w b,q.1=s): ∃ q∈l4 w' b,q.1=f s:=by
 obtain ⟨q,hq,e⟩:=hq
 have hle:q.2.Lo≤q.2.Hi:=l5 hq
 obtain ⟨q',hq',e',_⟩:=(xJ hl' (by rw [h.wn]; exact hb)).2 (h.pass hb ((xJ h.low hb).1 ⟨q,hq,e,Int.le_refl _,hle⟩))
 exact ⟨q',hq',e'⟩
theorem Dn (h:wk w w' n f) (h':wk w' w (-n) g) {b:Nat} (hb:b<w.n):ur w' b=ur w b:=by
 rw [Bool.eq_iff_iff]
 unfold ur
 simp only [List.any_eq_true,decide_eq_true_eq]
 constructor
 ·rintro ⟨q,hq,h0⟩
  obtain ⟨q',hq',e⟩:=zY h' h.low (by rw [h.wn]; exact hb) ⟨q,hq,rfl⟩
  exact ⟨q',hq',by rw [e]; exact (h'.Nu _).2 h0⟩
 ·rintro ⟨q,hq,h0⟩
  obtain ⟨q',hq',e⟩:=zY h h'.low hb ⟨q,hq,rfl⟩
  exact ⟨q',hq',by rw [e]; exact (h.Nu _).2 h0⟩
end
section
variable {l l':aV} {r r':cq} {n:Int} {f g:Int→Int}
structure tU (l:aV) (r:cq) (l':aV) (r':cq) (n:Int) (f g:Int→Int):Prop where
 line:dh l=0
 line':dh l'=0
 wu:ed l r
 ride':ed l' r'
 IZ:l'.ab.length=l.ab.length
 to:wk (b_ l r) (b_ l' r') n f
 N6:wk (b_ l' r') (b_ l r) (-n) g
theorem tU.DS (h:tU l r l' r' n f g):gR (b_ l' r')=gR (b_ l r):=FG h.to h.N6
theorem tU.e (h:tU l r l' r' n f g) {me:Int}:dN l' r' me=dN l r me:=by
 by_cases hm:me=0
 ·by_cases q:gR (b_ l r)=[]
  ·rw [fE h.line h.wu hm q,fE h.line' h.ride' hm (h.DS.trans q)]
  ·rw [mo h.line h.wu hm q,mo h.line' h.ride' hm (by rw [h.DS]; exact q)]
 ·rw [gd h.line h.wu hm,gd h.line' h.ride' hm]
theorem tU.yb (h:tU l r l' r' n f g):kI l' r'=kI l r:=by
 by_cases q:dN l r 0=0
 ·rw [kQ q,kQ (h.e.trans q),h.DS]
 ·rw [si q,si (by rw [h.e]; exact q)]
theorem tU.lJ (h:tU l r l' r' n f g) {b:Int}:jf l' b=jf l b:=by unfold jf; rw [h.IZ]
theorem tU.bn (h:tU l r l' r' n f g):(b_ l r).n=l.ab.length:=dQ
theorem tU.dG (h:tU l r l' r' n f g):uy l' r'=uy l r:=by
 by_cases q:dN l r 0=0
 ·rw [vD q,vD (h.e.trans q),h.yb]
  have hb:=Lb q
  unfold x8
  congr 1
  refine List.filter_congr fun b hb2=>?_
  have hb2:=List.mem_range.1 hb2
  rw [Dn h.to h.N6 (by rw [h.bn]; omega)]
 ·rw [uM q,uM (by rw [h.e]; exact q)]
end
end
section
theorem ml {l:aV} (ht:cx l.aH=true) (h:kR l) {i:Nat} (hi:i<l.ab.length):1≤dE l i∧dE l i≤500000000:=by
 have h2:=h.wc i hi
 have h3:=Bz ht h.lJ i
 have hf:=h.head.1
 unfold dE n7
 refine ⟨(Int.le_ediv_iff_mul_le om).2 om,?_⟩
 have:(1000*mh l i+l.lX-1)/l.lX≤1000*mh l i+l.lX-1:=Int.ediv_le_self _ om
 omega
end
section
def cU (good:List Int):ao:=good.foldl (fun t g=>c_ t (eL g)) ⟨0,0⟩
theorem jB {l:List Int} {g:Int}:cU (l++[g])=c_ (cU l) (eL g):=by unfold cU; rw [List.foldl_append]; rfl
def q7 (r:cq) (times:List Int) (b:Nat):Int:=if b=0 then r.Start else (times[b-1]?).getD 0
theorem oz {r:cq} {times:List Int} {b:Nat} {t:Int} (h:times[b]? =some t):q7 r times (b+1)=t:=by unfold q7; rw [if_neg om,Nat.add_sub_cancel,h]; rfl
structure hE (l:aV) (r:cq) (times good:List Int):Prop where
 wu:ed l r
 len:good.length=times.length
 le:times.length≤l.ab.length
 step: ∀ (b:Nat) t,times[b]? =some t→q7 r times b+dE l b≤t∧t≤r.fR
 sig: ∀ (b:Nat) t g,times[b]? =some t→good[b]? =some g→g= -1∨ ∃ (k:Nat) (s:aM),g=(k:Int)∧r.ag[k]? =some s∧s.fO=(b:Int)∧(cH l s).Lo≤t∧t≤(cH l s).Hi
 EG:(cU good).dG≤l.e8
 L7:(r.ag.length:Int)-(cU good).right≤l.iH
section
variable {l:aV} {r:cq} {times good:List Int}
theorem hE.low (h:hE l r times good) (hl:dh l=0): ∀ b,0≤bH (b_ l r) b:=fun b=>by
 obtain ⟨ht,hok⟩:=gr hl
 exact ((nM ht hok h.wu).bH b).1
theorem hE.least (h:hE l r times good) {b:Nat} (hb:b<times.length):bH (b_ l r) b=dE l b:=by
 have:=h.le
 rw [xn,if_pos om]
theorem hE.from_ (h:hE l r times good) (hl:dh l=0): ∀ b:Nat,b≤times.length→r.Start≤q7 r times b∧q7 r times b≤r.fR:=by
 intro b
 induction b with
 |zero=>intro _; have:=h.wu.time; unfold q7; rw [if_pos rfl]; omega
 |succ b ih=>
  intro hb
  have ht:times[b]? =some (times[b]'om):=gv _
  have h1:=ih om
  have h2:=h.step b _ ht
  have h3:=h.low hl b
  rw [h.least om] at h3
  rw [oz ht]
  omega
/-- what comes next, in the truth -/
theorem hE.opt (h:hE l r times good) (hl:dh l=0) {b:Nat} {t g:Int} (ht:times[b]? =some t) (hg:good[b]? =some g): ∃ o∈g7 (b_ l r) b,o.1=g∧o.2.Lo≤t∧t≤o.2.Hi:=by
 have hb:=(List.getElem?_eq_some_iff.1 ht).1
 have h1:=h.le
 have h2:=h.step b t ht
 have h3:=h.from_ hl b om
 have h4:=h.low hl b
 rw [h.least hb] at h4
 rcases h.sig b t g ht hg with rfl|⟨k,s,rfl,hs,hbm,h5,h6⟩
 ·exact ⟨(-1,⟨r.Start,r.fR⟩),(py om).2 (.inl rfl),rfl,by simp only; omega,by simp only; omega⟩
 ·exact ⟨((k:Int),cH l s),(py om).2 (.inr ⟨k,(List.getElem?_eq_some_iff.1 hs).1,s,hs,⟨hbm,om⟩,rfl⟩),rfl,h5,h6⟩
theorem lf {α:Type} {l:List α} {b:Nat} {x:α} (h:l[b]? =some x):l.take (b+1)=l.take b++[x]:=by rw [List.take_add_one,h]; rfl
theorem hE.live (h:hE l r times good) (hl:dh l=0): ∀ b:Nat,b≤times.length→zZ (b_ l r) b (cU (good.take b),q7 r times b):=by
 intro b
 induction b with
 |zero=>intro _; exact ⟨r.Start,by simp [fwd,cU]; rfl,by unfold q7; rw [if_pos rfl]; exact Int.le_refl _⟩
 |succ b ih=>
  intro hb
  have h0:=h.len
  have ht:times[b]? =some (times[b]'om):=gv _
  have hg:good[b]? =some (good[b]'om):=gv _
  obtain ⟨v,hv,hle⟩:=ih om
  obtain ⟨o,ho,e,h1,h2⟩:=h.opt hl ht hg
  have h3:=h.step b _ ht
  have h4:=h.least (b:=b) om
  simp only at hle hv
  rw [oz ht,lf hg,jB,← e]
  refine ⟨max (v+bH (b_ l r) b) o.2.Lo,fB.2 ⟨_,hv,o,ho,gu.2 ⟨?_,rfl⟩⟩,?_⟩
  ·have h5:(b_ l r).fR=r.fR:=rfl
   simp only; omega
  ·simp only; omega
theorem hE.JY (h:hE l r times good) (hl:dh l=0): ∀ (d b:Nat),b+d=times.length→qE (b_ l r) b (cU (good.take b),q7 r times b):=by
 intro d
 induction d with
 |zero=>
  intro b hb
  have hn:(b_ l r).n=l.ab.length:=dQ
  have h0:=h.len
  have h1:=h.le
  refine ⟨0,om,_,by simp [fF]; rfl,?_⟩
  rw [List.take_of_length_le om]
  unfold j4
  have h2:=h.EG
  have h3:=h.L7
  exact bW ⟨h2,h3⟩
 |succ d ih=>
  intro b hb
  have h0:=h.len
  have ht:times[b]? =some (times[b]'om):=gv _
  have hg:good[b]? =some (good[b]'om):=gv _
  obtain ⟨o,ho,e,h1,h2⟩:=h.opt hl ht hg
  have h3:=h.step b _ ht
  have h4:=h.least (b:=b) om
  have h5:(b_ l r).fR=r.fR:=rfl
  have hv:=ih (b+1) om
  rw [oz ht,lf hg,jB,← e] at hv
  exact sT (k:=1) (gV.2 ⟨o,ho,_,gu.2 ⟨by first|omega|(simp only; omega),rfl⟩,by simp [fF]; rfl⟩) (u9 hv (by first|omega|(simp only; omega)))
theorem hE.pass (h:hE l r times good) (hl:dh l=0) {b:Nat} {t g:Int} (ht:times[b]? =some t) (hg:good[b]? =some g):vz (b_ l r) b g t:=by
 have hb:=(List.getElem?_eq_some_iff.1 ht).1
 obtain ⟨v,hv,hle⟩:=h.live hl b om
 obtain ⟨o,ho,e,h1,h2⟩:=h.opt hl ht hg
 have h3:=h.step b _ ht
 have h4:=h.least (b:=b) hb
 have h5:(b_ l r).fR=r.fR:=rfl
 have hw:=h.JY hl (times.length-(b+1)) (b+1) om
 rw [oz ht,lf hg,jB,← e] at hw
 simp only at hle
 exact ⟨_,hv,o,ho,e,⟨by simp only; omega,om⟩,hw⟩
theorem hE.num (h:hE l r times good) (hl:dh l=0):(times.length:Int)∈gR (b_ l r):=by
 obtain ⟨v,hv,_⟩:=h.live hl times.length (Nat.le_refl _)
 have hn:(b_ l r).n=l.ab.length:=dQ
 have h1:=h.le
 refine nI.2 ⟨times.length,rfl,om,?_⟩
 unfold iU
 refine List.any_eq_true.2 ⟨_,hv,?_⟩
 have h0:=h.len
 rw [List.take_of_length_le om]
 unfold j4
 exact bW ⟨h.EG,h.L7⟩
theorem hE.e (h:hE l r times good) (hl:dh l=0):dN l r 0=0:=mo hl h.wu rfl fun e=>by have:=h.num hl; rw [e] at this; cases this
theorem hE.yb (h:hE l r times good) (hl:dh l=0):(times.length:Int)∈kI l r:=by rw [kQ (h.e hl)]; exact h.num hl
theorem hE.clear (h:hE l r times good) (hl:dh l=0):(AI l r=2→l.cz<(times.length:Int))∧(AI l r=0→(times.length:Int)≤l.cz):=by
 have hm:=h.yb hl
 have h1:=(CA (sQ (h.e hl))).2 _ hm
 have h2:=(Iw (sQ (h.e hl))).2 _ hm
 unfold AI
 rw [if_pos (h.e hl)]
 constructor
 ·intro q
  split at q
  ·omega
  ·split at q<;>omega
 ·intro q
  split at q
  ·omega
  ·split at q<;>omega
end
end
section
def gl (hi:Int→Int) (least:Nat→Int) (now:Int):Nat→List Int→List Int×Int
 |_,[]=>([],now)
 |b,x::xs=>((if 0≤x then min (gl hi least now (b+1) xs).2 (hi x) else (gl hi least now (b+1) xs).2)::(gl hi least now (b+1) xs).1,(if 0≤x then min (gl hi least now (b+1) xs).2 (hi x) else (gl hi least now (b+1) xs).2)-least b)
def fy (t:Int):List Int→Int
 |[]=>t
 |x::xs=>fy x xs
def jP (w:bE):Nat→Int→List Int→List Int→Prop
 |_,_,[],[]=>True
 |b,t,x::rs,y::fs=>(∃ o∈g7 w b,o.1=x∧max (t+bH w b) o.2.Lo≤min o.2.Hi w.fR∧y=max (t+bH w b) o.2.Lo)∧jP w (b+1) y rs fs
 |_,_,_,_=>False
section
variable {w:bE} {hi:Int→Int} {least:Nat→Int} {now:Int}
theorem pL: ∀ (b:Nat) (rs:List Int),(gl hi least now b rs).1.length=rs.length
 |_,[]=>rfl
 |b,x::xs=>by simp only [gl,List.length_cons]; rw [pL]
theorem mu: ∀ (t:Int) (fs:List Int) (y:Int),fy t (fs++[y])=y
 |_,[],_=>rfl
 |t,x::fs,y=>mu x fs y
theorem uz: ∀ (t:Int) (fs:List Int) (y:Int),fs[fs.length-1]? =some y→fy t fs=y
 |t,[],y,h=>by simp at h
 |t,[x],y,h=>by simpa [fy] using h
 |t,x::x2::fs,y,h=>by
  show fy x (x2::fs)=y
  exact uz x (x2::fs) y (by simpa using h)
theorem rf: ∀ (b:Nat) (rs:List Int) (x:Int) (ss:List Int),(gl hi least now b (rs++x::ss)).1[rs.length]? =some (if 0≤x then min (gl hi least now (b+rs.length+1) ss).2 (hi x) else (gl hi least now (b+rs.length+1) ss).2)
 |b,[],x,ss=>by simp [gl]
 |b,z::rs,x,ss=>by
  have:=rf (b+1) rs x ss
  simp only [List.cons_append,gl,List.length_cons,List.getElem?_cons_succ]
  rw [this,show b+1+rs.length+1=b+(rs.length+1)+1 by omega]
theorem jV: ∀ (b:Nat) (t:Int) (rs fs:List Int),jP w b t rs fs→fs.length=rs.length
 |_,_,[],[],_=>rfl
 |b,t,x::rs,y::fs,h=>by simp [jV _ _ rs fs h.2]
 |_,_,[],_::_,h=>h.elim
 |_,_,_::_,[],h=>h.elim
theorem pH: ∀ (b:Nat) (t:Int) (rs fs ss gs:List Int),fs.length=rs.length→(jP w b t (rs++ss) (fs++gs)↔jP w b t rs fs∧jP w (b+rs.length) (fy t fs) ss gs)
 |b,t,[],[],ss,gs,_=>by simp [jP,fy]
 |b,t,x::rs,y::fs,ss,gs,h=>by
  have ih:=pH (b+1) y rs fs ss gs (by simpa using h)
  simp only [List.cons_append,jP,List.length_cons,fy]
  rw [ih,show b+1+rs.length=b+(rs.length+1) by omega,and_assoc]
 |_,_,[],_::_,_,_,h=>by simp at h
 |_,_,_::_,[],_,_,h=>by simp at h
theorem Ac (b:List Int): ∀ t:ao,b.foldl (fun t g=>c_ t (eL g)) t=c_ t (cU b):=by
 induction b with
 |nil=>intro t; exact (my t).symm
 |cons x b ih=>
  intro t
  show b.foldl (fun t g=>c_ t (eL g)) (c_ t (eL x))=c_ t (b.foldl (fun t g=>c_ t (eL g)) (c_ ⟨0,0⟩ (eL x)))
  rw [ih,ih]; simp only [c_,ao.mk.injEq]; omega
theorem p9 (a b:List Int):cU (a++b)=c_ (cU a) (cU b):=by
 show (a++b).foldl _ _=_
 rw [List.foldl_append,Ac]; rfl
theorem pZ:cU []=(⟨0,0⟩:ao):=rfl
theorem oF (l:List Int):c_ (⟨0,0⟩:ao) (cU l)=cU l:=by simp [c_]
theorem qD (x:Int) (l:List Int):cU (x::l)=c_ (eL x) (cU l):=by
 rw [show x::l=[x]++l from rfl,p9,show cU [x]=eL x from (jB (l:=[])).trans (by rw [pZ]; simp [c_])]
theorem rO: ∀ l:List Int,0≤(cU l).right∧0≤(cU l).dG∧(cU l).right+(cU l).dG=(l.length:Int)
 |[]=>by rw [pZ]; simp
 |x::l=>by
  rw [qD]
  have:=sN x
  have:=rO l
  simp only [c_,List.length_cons]
  omega
/-- chains are what the watch goes through -/
theorem jD: ∀ (k b:Nat) (p q:ao×Int),q∈fF w k b p↔ ∃ rs fs,rs.length=k∧jP w b p.2 rs fs∧q=(c_ p.1 (cU rs),fy p.2 fs):=by
 intro k
 induction k with
 |zero=>
  intro b p q
  simp only [fF,bU]
  constructor
  ·rintro rfl; exact ⟨[],[],rfl,trivial,by rw [pZ,my]; rfl⟩
  ·rintro ⟨rs,fs,h1,h2,rfl⟩
   have h1:=fX h1
   subst h1
   have:=fX (jV _ _ _ _ h2)
   subst this
   rw [pZ,my]; rfl
 |succ k ih=>
  intro b p q
  rw [gV]
  constructor
  ·rintro ⟨o,ho,p',e,h⟩
   obtain ⟨h1,rfl⟩:=gu.1 e
   obtain ⟨rs,fs,h2,h3,rfl⟩:=(ih _ _ _).1 h
   refine ⟨o.1::rs,max (p.2+bH w b) o.2.Lo::fs,by simp [h2],⟨⟨o,ho,rfl,h1,rfl⟩,h3⟩,?_⟩
   rw [qD]
   simp only [fy,c_,Prod.mk.injEq,ao.mk.injEq,and_true]; omega
  ·rintro ⟨rs,fs,h1,h2,rfl⟩
   cases rs with
   |nil=>simp at h1
   |cons x rs=>
    cases fs with
    |nil=>exact h2.elim
    |cons y fs=>
     obtain ⟨⟨o,ho,rfl,h3,rfl⟩,h4⟩:=h2
     refine ⟨o,ho,_,gu.2 ⟨h3,rfl⟩,(ih _ _ _).2 ⟨rs,fs,by simpa using h1,h4,?_⟩⟩
     rw [qD]
     simp only [fy,c_,Prod.mk.injEq,ao.mk.injEq,and_true]; omega
/-- what the reference's rows of last times know -/
structure EK (w:bE) (hi:Int→Int) (least:Nat→Int) (now:Int):Prop where
 low: ∀ b,0≤bH w b
 least: ∀ b,b<w.n→least b=bH w b
 now:now=w.fR
 hi: ∀ b o,b<w.n→o∈g7 w b→0≤o.1→o.2.Hi=hi o.1
 none_: ∀ b o,b<w.n→o∈g7 w b→ ¬ 0≤o.1→o.2.Hi=w.fR
theorem vO (h:EK w hi least now): ∀ (b:Nat) (rs:List Int),b+rs.length≤w.n→(gl hi least now b rs).2≤w.fR
 |_,[],_=>by simp only [gl]; exact Int.le_of_eq h.now
 |b,x::xs,hb=>by
  simp only [List.length_cons] at hb
  have h1:=vO h (b+1) xs om
  have h2:=h.low b
  rw [← h.least b om] at h2
  simp only [gl]
  split<;>omega
theorem pP (h:EK w hi least now): ∀ (b:Nat) (t:Int) (rs fs:List Int),b+rs.length≤w.n→t≤w.fR→jP w b t rs fs→t≤(gl hi least now b rs).2
 |_,t,[],[],_,ht,_=>by simp only [gl]; rw [h.now]; exact ht
 |b,t,x::rs,y::fs,hb,ht,hc=>by
  simp only [List.length_cons] at hb
  obtain ⟨⟨o,ho,rfl,h3,rfl⟩,h4⟩:=hc
  have h1:=pP h (b+1) _ rs fs om om h4
  have h2:=h.least b om
  simp only [gl]
  split
  ·rename_i q
   have:=h.hi b o om ho q
   omega
  ·omega
 |_,_,[],_::_,_,_,hc=>hc.elim
 |_,_,_::_,[],_,_,hc=>hc.elim
theorem vo (h:EK w hi least now): ∀ (b:Nat) (t t':Int) (rs fs:List Int),b+rs.length≤w.n→t≤t'→t'≤(gl hi least now b rs).2→jP w b t rs fs→ ∃ gs,jP w b t' rs gs
 |_,t,_,[],[],_,_,_,_=>⟨[],trivial⟩
 |b,t,t',x::rs,y::fs,hb,ht,he,hc=>by
  simp only [List.length_cons] at hb
  obtain ⟨⟨o,ho,rfl,h3,rfl⟩,h4⟩:=hc
  have h1:=pP h (b+1) _ rs fs om om h4
  have h2:=h.least b om
  have h5:=vO h (b+1) rs om
  simp only [gl] at he
  have h6:max (t'+bH w b) o.2.Lo≤min o.2.Hi w.fR∧max (t'+bH w b) o.2.Lo≤(gl hi least now (b+1) rs).2:=by
   split at he
   ·rename_i q
    have:=h.hi b o om ho q
    omega
   ·rename_i q
    have:=h.none_ b o om ho q
    omega
  obtain ⟨gs,hg⟩:=vo h (b+1) _ (max (t'+bH w b) o.2.Lo) rs fs om om h6.2 h4
  exact ⟨_::gs,⟨o,ho,rfl,h6.1,rfl⟩,hg⟩
 |_,_,_,[],_::_,_,_,_,hc=>hc.elim
 |_,_,_,_::_,[],_,_,_,hc=>hc.elim
theorem zX (b:Nat) (t t':Int) (rs fs:List Int) (ht:t'≤t) (hc:jP w b t rs fs): ∃ gs,jP w b t' rs gs:=by
 have h1:(c_ ⟨0,0⟩ (cU rs),fy t fs)∈fF w rs.length b (⟨0,0⟩,t):=(jD _ _ _ _).2 ⟨rs,fs,rfl,hc,rfl⟩
 clear h1
 induction rs generalizing b t t' fs with
 |nil=>exact ⟨[],trivial⟩
 |cons x rs ih=>
  cases fs with
  |nil=>exact hc.elim
  |cons y fs=>
   obtain ⟨⟨o,ho,rfl,h3,rfl⟩,h4⟩:=hc
   obtain ⟨gs,hg⟩:=ih (b+1) _ (max (t'+bH w b) o.2.Lo) fs om h4
   exact ⟨_::gs,⟨o,ho,rfl,om,rfl⟩,hg⟩
/-- a way, as it is asked for -/
structure IV (w:bE) (hi:Int→Int) (least:Nat→Int) (now:Int) (y:cT):Prop where
 chain:jP w 0 w.Start y.fW y.ic
 len:y.fW.length≤w.n
 last:y.lq=(gl hi least now 0 y.fW).1
 may:j4 w (cU y.fW)=true
theorem zQ {k:Nat}:iU w (fwd w k)=true↔ ∃ rs fs,rs.length=k∧jP w 0 w.Start rs fs∧j4 w (cU rs)=true:=by
 unfold iU
 rw [List.any_eq_true]
 have e:=fun q=>(p8 (w:=w) k 0 q)
 rw [Nat.zero_add] at e
 constructor
 ·rintro ⟨q,hq,hm⟩
  obtain ⟨p,hp,h⟩:=(e q).1 hq
  simp only [fwd,bU] at hp
  subst hp
  obtain ⟨rs,fs,h1,h2,rfl⟩:=(jD _ _ _ _).1 h
  refine ⟨rs,fs,h1,h2,?_⟩
  rwa [oF] at hm
 ·rintro ⟨rs,fs,h1,h2,h3⟩
  refine ⟨_,(e _).2 ⟨((⟨0,0⟩:ao),w.Start),List.mem_singleton.2 rfl,(jD _ _ _ _).2 ⟨rs,fs,h1,h2,rfl⟩⟩,?_⟩
  simp only [oF]; exact h3
theorem Er (h:EK w hi least now) (hs:w.Start≤w.fR) {b:Nat} (hb:b<w.n) {s t:Int}:vz w b s t↔ ∃ y,IV w hi least now y∧ ∃ f e,y.fW[b]? =some s∧y.ic[b]? =some f∧y.lq[b]? =some e∧f≤t∧t≤e:=by
 have ef:=fun q=>(p8 (w:=w) b 0 q)
 rw [Nat.zero_add] at ef
 constructor
 ·rintro ⟨p,hp,o,ho,rfl,⟨h1,h2⟩,k,hk,q,hq,hm⟩
  obtain ⟨p0,hp0,hp⟩:=(ef p).1 hp
  simp only [fwd,bU] at hp0
  subst hp0
  obtain ⟨rs,fs,e1,c1,rfl⟩:=(jD _ _ _ _).1 hp
  obtain ⟨ss,gs,e2,c2,rfl⟩:=(jD _ _ _ _).1 hq
  simp only at h1 h2 c1 c2 hm
  obtain ⟨gs',c3⟩:=zX (b+1) t (max (fy w.Start fs+bH w b) o.2.Lo) ss gs h1 c2
  have hlf:=jV _ _ _ _ c1
  have hfn:=jV _ _ _ _ c3
  have hc:jP w 0 w.Start (rs++o.1::ss) (fs++max (fy w.Start fs+bH w b) o.2.Lo::gs'):=(pH _ _ _ _ _ _ hlf).2 ⟨c1,by rw [Nat.zero_add,e1]; exact ⟨⟨o,ho,rfl,om,rfl⟩,c3⟩⟩
  have he:=pP h (b+1) t ss gs om om c2
  have hla:=rf (hi:=hi) (least:=least) (now:=now) 0 rs o.1 ss
  rw [Nat.zero_add,e1] at hla
  refine ⟨⟨rs++o.1::ss,fs++max (fy w.Start fs+bH w b) o.2.Lo::gs',(gl hi least now 0 (rs++o.1::ss)).1⟩,⟨hc,by simp; omega,rfl,?_⟩,max (fy w.Start fs+bH w b) o.2.Lo,_,?_,?_,hla,h1,?_⟩
  ·show j4 w (cU (rs++o.1::ss))=true
   rw [show rs++o.1::ss=(rs++[o.1])++ss by simp,p9,jB]
   rwa [oF] at hm
  ·show (rs++o.1::ss)[b]? =some o.1
   rw [List.getElem?_append_right om,e1,Nat.sub_self]; rfl
  ·show (fs++_::gs')[b]? =_
   rw [List.getElem?_append_right om,hlf,e1,Nat.sub_self]; rfl
  ·split
   ·rename_i q
    have:=h.hi b o hb ho q
    omega
   ·exact he
 ·rintro ⟨y,hy,f,e,h1,h2,h3,h4,h5⟩
  obtain ⟨R,F,La⟩:=y
  obtain ⟨hc,hn,hla,hm⟩:=hy
  simp only at h1 h2 h3 hc hn hla hm
  have hbR:=(List.getElem?_eq_some_iff.1 h1).1
  have hFl:=jV _ _ _ _ hc
  have eR:R=R.take b++s::R.drop (b+1):=by rw [← (List.getElem?_eq_some_iff.1 h1).2]; exact (List.take_append_drop b R).symm.trans (by rw [List.drop_eq_getElem_cons hbR])
  have hbF:b<F.length:=by omega
  have eF:F=F.take b++f::F.drop (b+1):=by rw [← (List.getElem?_eq_some_iff.1 h2).2]; exact (List.take_append_drop b F).symm.trans (by rw [List.drop_eq_getElem_cons hbF])
  rw [eR,eF,pH _ _ _ _ _ _ (by simp only [List.length_take]; omega)] at hc
  have l1:(R.take b).length=b:=by rw [List.length_take]; omega
  rw [l1,Nat.zero_add] at hc
  obtain ⟨c1,⟨o,ho,rfl,h6,rfl⟩,c2⟩:=hc
  have hat:=rf (hi:=hi) (least:=least) (now:=now) 0 (R.take b) o.1 (R.drop (b+1))
  rw [← eR,l1,Nat.zero_add,← hla,h3] at hat
  have hat:=Option.some.inj hat
  have hen:t≤(gl hi least now (b+1) (R.drop (b+1))).2∧t≤min o.2.Hi w.fR:=by
   have h7:=vO h (b+1) (R.drop (b+1)) (by rw [List.length_drop]; omega)
   split at hat
   ·rename_i q
    have:=h.hi b o hb ho q
    omega
   ·rename_i q
    have:=h.none_ b o hb ho q
    omega
  obtain ⟨gs,c3⟩:=vo h (b+1) _ t (R.drop (b+1)) (F.drop (b+1)) (by rw [List.length_drop]; omega) h4 hen.1 c2
  refine ⟨(c_ ⟨0,0⟩ (cU (R.take b)),fy w.Start (F.take b)),(ef _).2 ⟨((⟨0,0⟩:ao),w.Start),List.mem_singleton.2 rfl,(jD _ _ _ _).2 ⟨_,_,l1,c1,rfl⟩⟩,o,ho,rfl,⟨h4,hen.2⟩,(R.drop (b+1)).length,by rw [List.length_drop]; omega,_,(jD _ _ _ _).2 ⟨_,gs,rfl,c3,rfl⟩,?_⟩
  show j4 w (c_ (c_ (c_ ⟨0,0⟩ (cU (R.take b))) (eL o.1)) (cU (R.drop (b+1))))=true
  rw [oF,← jB,← p9,show R.take b++[o.1]++R.drop (b+1)=R from by rw [List.append_assoc]; exact eR.symm]
  exact hm
end
noncomputable def G1 (l:aV) (r:cq) (x:Int):Int:=match r.ag[x.toNat]? with
 |some s=>(cH l s).Hi
 |none=>0
theorem Bu {l:aV} {r:cq} {x:Int} {s:aM} (h:r.ag[x.toNat]? =some s):G1 l r x=(cH l s).Hi:=by unfold G1; rw [h]
noncomputable def iF (l:aV) (r:cq) (rs:List Int):List Int:=(gl (G1 l r) (dE l) r.fR 0 rs).1
noncomputable def nQ (l:aV) (r:cq) (n:Nat) (t i:Int):Option Int:=
 if i<0 then (if t≤r.fR then some t else none) else match r.ag[i.toNat]? with
  |some s=>if (s.fO=(n:Int)∧(cH l s).Lo≤(cH l s).Hi)∧max t (cH l s).Lo≤min r.fR (cH l s).Hi then some (max t (cH l s).Lo) else none
  |none=>none
noncomputable def fJ (l:aV) (r:cq) (rs fs:List Int):List cT:=if (r.ag.length:Int)-(cU rs).right≤l.iH then [⟨rs,fs,iF l r rs⟩] else []
noncomputable def gS (l:aV) (r:cq):Nat→List Int→List Int→List cT
 |0,rs,fs=>if l.e8<(cU rs).dG then [] else fJ l r rs fs
 |k+1,rs,fs=>if l.e8<(cU rs).dG then [] else fJ l r rs fs++(List.range (r.ag.length+1)).flatMap fun (j:Nat)=>match nQ l r rs.length (fy r.Start fs+dE l rs.length) ((j:Int)-1) with
  |some t=>gS l r k (rs++[(j:Int)-1]) (fs++[t])
  |none=>[]
noncomputable def Bl (l:aV) (r:cq) (k:Nat) (rs fs:List Int) (j:Nat):List cT:=fJ l r rs fs++(List.range j).flatMap fun (j:Nat)=>match nQ l r rs.length (fy r.Start fs+dE l rs.length) ((j:Int)-1) with
 |some t=>gS l r k (rs++[(j:Int)-1]) (fs++[t])
 |none=>[]
noncomputable def gA (l:aV) (r:cq) (k:Nat) (rs fs:List Int) (j:Nat):List cT:=(List.range j).flatMap fun (j:Nat)=>match nQ l r rs.length (fy r.Start fs+dE l rs.length) ((j:Int)-1) with
 |some t=>gS l r k (rs++[(j:Int)-1]) (fs++[t])
 |none=>[]
section
variable {l:aV} {r:cq} {k j:Nat} {rs fs:List Int} {t:Int}
theorem nF:Bl l r k rs fs j=fJ l r rs fs++gA l r k rs fs j:=rfl
theorem jQ (h:nQ l r rs.length (fy r.Start fs+dE l rs.length) ((j:Int)-1)=some t):gA l r k rs fs (j+1)=gA l r k rs fs j++gS l r k (rs++[(j:Int)-1]) (fs++[t]):=by
 unfold gA; rw [List.range_succ,List.flatMap_append]; simp [h]
theorem jI (h:nQ l r rs.length (fy r.Start fs+dE l rs.length) ((j:Int)-1)=none):gA l r k rs fs (j+1)=gA l r k rs fs j:=by
 unfold gA; rw [List.range_succ,List.flatMap_append]; simp [h]
theorem mC (h:l.e8<(cU rs).dG):gS l r k rs fs=[]:=by cases k<;>exact if_pos h
theorem k8 (h: ¬ l.e8<(cU rs).dG):gS l r 0 rs fs=fJ l r rs fs:=if_neg h
theorem kX (h: ¬ l.e8<(cU rs).dG):gS l r (k+1) rs fs=Bl l r k rs fs (r.ag.length+1):=if_neg h
theorem zM {n:Nat} (hn:n<l.ab.length) (hl:0≤dE l n) (ht:r.Start≤t) {i y:Int} (hi: -1≤i):nQ l r n (t+dE l n) i=some y↔ ∃ o∈g7 (b_ l r) n,o.1=i∧max (t+bH (b_ l r) n) o.2.Lo≤min o.2.Hi (b_ l r).fR∧y=max (t+bH (b_ l r) n) o.2.Lo:=by
 rw [oH hn]
 have hw:(b_ l r).fR=r.fR:=rfl
 unfold nQ
 constructor
 ·intro h
  split at h
  ·rename_i h0
   split at h
   ·cases h
    exact ⟨(-1,⟨r.Start,r.fR⟩),(py hn).2 (.inl rfl),by simp only; omega,by simp only; omega,by simp only; omega⟩
   ·cases h
  ·rename_i h0
   split at h
   ·rename_i s hs
    split at h
    ·rename_i q
     cases h
     exact ⟨((i.toNat:Nat),cH l s),(py hn).2 (.inr ⟨i.toNat,(List.getElem?_eq_some_iff.1 hs).1,s,hs,q.1,rfl⟩),by simp only; omega,by simp only; omega,rfl⟩
    ·cases h
   ·cases h
 ·rintro ⟨o,ho,rfl,h1,rfl⟩
  rcases (py hn).1 ho with rfl|⟨k,hk,s,hs,q,rfl⟩
  ·simp only at h1 ⊢
   rw [if_pos om,if_pos om]
   congr 1; omega
  ·simp only at h1 ⊢
   rw [if_neg om,Int.toNat_natCast,hs]
   simp only
   rw [if_pos ⟨q,om⟩]
theorem Em (hl: ∀ n,n<l.ab.length→0≤dE l n): ∀ (k:Nat) (rs fs:List Int) (y:cT),rs.length+k=l.ab.length→fs.length=rs.length→r.Start≤fy r.Start fs→
 (y∈gS l r k rs fs↔ ∃ ss gs,jP (b_ l r) rs.length (fy r.Start fs) ss gs∧ss.length≤k∧y=⟨rs++ss,fs++gs,iF l r (rs++ss)⟩∧j4 (b_ l r) (cU (rs++ss))=true):=by
 have head: ∀ (rs fs:List Int) (y:cT),¬ l.e8<(cU rs).dG→(y∈fJ l r rs fs↔y=⟨rs++[],fs++[],iF l r (rs++[])⟩∧j4 (b_ l r) (cU (rs++[]))=true):=by
  intro rs fs y hm
  unfold fJ
  rw [List.append_nil,List.append_nil]
  have e:j4 (b_ l r) (cU rs)=true↔(r.ag.length:Int)-(cU rs).right≤l.iH:=by
   unfold j4
   rw [decide_eq_true_eq]
   exact ⟨fun q=>q.2,fun q=>⟨by have:(b_ l r).e8=l.e8:=rfl; omega,q⟩⟩
  split
  ·rename_i q
   rw [bU]
   exact ⟨fun h=>⟨h,e.2 q⟩,fun h=>h.1⟩
  ·rename_i q
   exact ⟨fun h=>(by cases h),fun h=>absurd (e.1 h.2) q⟩
 have EG: ∀ (rs ss:List Int),l.e8<(cU rs).dG→ ¬ j4 (b_ l r) (cU (rs++ss))=true:=by
  intro rs ss h q
  unfold j4 at q
  have:=(of_decide_eq_true q).1
  rw [p9] at this
  have h2:=rO ss
  simp only [c_] at this
  have:(b_ l r).e8=l.e8:=rfl
  omega
 intro k
 induction k with
 |zero=>
  intro rs fs y hn hf hs
  by_cases hm:l.e8<(cU rs).dG
  ·rw [mC hm]
   exact ⟨fun h=>(by cases h),fun ⟨ss,gs,_,_,_,q⟩=>absurd q (EG rs ss hm)⟩
  ·rw [k8 hm,head _ _ _ hm]
   constructor
   ·rintro ⟨h1,h2⟩; exact ⟨[],[],trivial,sm,h1,h2⟩
   ·rintro ⟨ss,gs,h1,h2,h3,h4⟩
    have e:=fX (Nat.le_zero.1 h2)
    subst e
    have e:=fX (jV _ _ _ _ h1)
    subst e
    exact ⟨h3,h4⟩
 |succ k ih=>
  intro rs fs y hn hf hs
  by_cases hm:l.e8<(cU rs).dG
  ·rw [mC hm]
   exact ⟨fun h=>(by cases h),fun ⟨ss,gs,_,_,_,q⟩=>absurd q (EG rs ss hm)⟩
  ·rw [kX hm]
   unfold Bl
   rw [g4,head _ _ _ hm,List.mem_flatMap]
   have hlen: ∀ (x y:Int),(rs++[x]).length+k=l.ab.length∧(fs++[y]).length=(rs++[x]).length:=fun x y=>by simp; omega
   constructor
   ·rintro (⟨h1,h2⟩|⟨j,hj,h⟩)
    ·exact ⟨[],[],trivial,sm,h1,h2⟩
    ·cases e:nQ l r rs.length (fy r.Start fs+dE l rs.length) ((j:Int)-1) with
     |none=>rw [e] at h; cases h
     |some t=>
      rw [e] at h
      simp only at h
      obtain ⟨o,ho,h1,h2,h3⟩:=(zM om (hl _ om) hs om).1 e
      have hst:r.Start≤t:=by
       have:=hl rs.length om
       rw [oH om] at h3
       omega
      obtain ⟨ss,gs,h4,h5,h6,h7⟩:=(ih _ _ y (hlen _ t).1 (hlen _ t).2 (by rw [mu]; exact hst)).1 h
      rw [mu,List.length_append] at h4
      refine ⟨((j:Int)-1)::ss,t::gs,⟨⟨o,ho,h1,h2,h3⟩,h4⟩,by simp; omega,by simpa using h6,by simpa using h7⟩
   ·rintro ⟨ss,gs,h1,h2,h3,h4⟩
    cases ss with
    |nil=>
     have e:=fX (jV _ _ _ _ h1)
     subst e
     exact .inl ⟨h3,h4⟩
    |cons x ss=>
     cases gs with
     |nil=>exact h1.elim
     |cons t gs=>
      obtain ⟨⟨o,ho,rfl,h5,h6⟩,h7⟩:=h1
      right
      have hx: -1≤o.1∧o.1<(r.ag.length:Int):=by
       rcases (py om).1 ho with rfl|⟨k,hk,s,hs,q,rfl⟩
       ·simp only; omega
       ·simp only; omega
      have hst:r.Start≤t:=by
       have:=hl rs.length om
       rw [oH om] at h6
       omega
      have e1:((o.1+1).toNat:Int)-1=o.1:=by omega
      refine ⟨(o.1+1).toNat,List.mem_range.2 om,?_⟩
      rw [e1,(zM om (hl _ om) hs om).2 ⟨o,ho,rfl,h5,h6⟩]
      simp only
      refine (ih _ _ y (hlen _ t).1 (hlen _ t).2 (by rw [mu]; exact hst)).2 ⟨ss,gs,?_,?_,?_,?_⟩
      ·rw [mu,List.length_append]; exact h7
      ·simp only [List.length_cons] at h2; omega
      ·simpa using h3
      ·simpa using h4
end
theorem wI {l:aV} {r:cq} {rs fs:List Int} (h:(r.ag.length:Int)-(cU rs).right≤l.iH):fJ l r rs fs=[⟨rs,fs,iF l r rs⟩]:=if_pos h
theorem uE {l:aV} {r:cq} {rs fs:List Int} (h: ¬ (r.ag.length:Int)-(cU rs).right≤l.iH):fJ l r rs fs=[]:=if_neg h
noncomputable def cW (l:aV) (r:cq) (i:Nat):List aa:=(r.ag.take i).map (cH l)
noncomputable def de (l:aV) (r:cq) (i:Nat):List Bool:=(r.ag.take i).map fun s=>decide ((cH l s).Lo≤(cH l s).Hi)
section
variable {l:aV} {r:cq} {i n:Nat} {s:aM} {rs:List Int}
theorem Ai (h:r.ag[i]? =some s):cW l r (i+1)=cW l r i++[cH l s]:=by unfold cW; rw [List.take_add_one,h,List.map_append]; rfl
theorem Bf (h:r.ag[i]? =some s):de l r (i+1)=de l r i++[decide ((cH l s).Lo≤(cH l s).Hi)]:=by unfold de; rw [List.take_add_one,h,List.map_append]; rfl
theorem pO (h:i≤r.ag.length):(cW l r i).length=i:=by unfold cW; rw [List.length_map,List.length_take]; omega
theorem sY (h:i≤r.ag.length):(de l r i).length=i:=by unfold de; rw [List.length_map,List.length_take]; omega
theorem El {k:Nat} {z:aa} (hs:r.ag[k]? =some s) (hz:(cW l r r.ag.length)[k]? =some z):z=cH l s:=by
 unfold cW at hz
 rw [List.take_length,fq,hs] at hz
 exact (Option.some.inj hz).symm
theorem GA {k:Nat} {z:aa} (hz:(cW l r r.ag.length)[k]? =some z): ∃ s,r.ag[k]? =some s∧z=cH l s:=by
 unfold cW at hz
 rw [List.take_length,fq] at hz
 cases h:r.ag[k]? with
 |none=>rw [h] at hz; cases hz
 |some s=>rw [h] at hz; exact ⟨s,rfl,(Option.some.inj hz).symm⟩
theorem qR {k:Nat} {z:Bool} (hs:r.ag[k]? =some s) (hz:(de l r r.ag.length)[k]? =some z):z=true↔(cH l s).Lo≤(cH l s).Hi:=by
 unfold de at hz
 rw [List.take_length,fq,hs] at hz
 rw [← Option.some.inj hz]
 exact decide_eq_true_iff
theorem vx (l:aV) (s:aM):(0≤(cH l s).Lo∧(cH l s).Lo≤86400001)∧ -1≤(cH l s).Hi∧(cH l s).Hi≤86400000:=by
 have h1:=hP (p:=gj (oN l s) s.Read) (n:=86400001)
 have h2:=hP (p:=gi (oN l s) s.Read) (n:=86400001)
 unfold cH yR
 simp only
 omega
/-- the last times from a beam on -/
noncomputable def jv (l:aV) (r:cq) (rs:List Int) (j:Nat):List Int×Int:=gl (G1 l r) (dE l) r.fR j (rs.drop j)
noncomputable def jy (l:aV) (r:cq) (rs:List Int) (j:Nat):List Int:=List.replicate j 0++(jv l r rs j).1
noncomputable def qU (l:aV) (r:cq) (rs:List Int) (j:Nat) (x:Int):Int:=if 0≤x then min (jv l r rs j).2 (G1 l r x) else (jv l r rs j).2
theorem sx:jv l r rs rs.length=([],r.fR):=by unfold jv; rw [List.drop_length]; rfl
theorem CO:jy l r rs rs.length=List.replicate rs.length 0:=by unfold jy; rw [sx]; simp
theorem Br:jy l r rs 0=iF l r rs:=by unfold jy jv iF; simp
theorem oL {j:Nat} {x:Int} (hj:0<j) (hx:rs[j-1]? =some x):jv l r rs (j-1)=(qU l r rs j x::(jv l r rs j).1,qU l r rs j x-dE l (j-1)):=by
 unfold jv qU
 have hb:=(List.getElem?_eq_some_iff.1 hx).1
 rw [List.drop_eq_getElem_cons hb,(List.getElem?_eq_some_iff.1 hx).2,show j-1+1=j by omega]
 simp only [gl]
 rw [show j-1+1=j by omega]
 rfl
theorem Dj {j:Nat} (h:j≤rs.length):(jy l r rs j).length=rs.length:=by unfold jy jv; rw [List.length_append,List.length_replicate,pL,List.length_drop]; omega
theorem wQ {j:Nat} {x:Int} (hj:0<j) (hx:rs[j-1]? =some x):(jy l r rs j).set (j-1) (qU l r rs j x)=jy l r rs (j-1):=by
 unfold jy
 rw [oL hj hx]
 simp only
 obtain ⟨k,rfl⟩: ∃ k,j=k+1:=⟨j-1,om⟩
 rw [Nat.add_sub_cancel,List.replicate_succ',List.append_assoc,List.set_append_right _ _ sm,List.length_replicate,Nat.sub_self]
 rfl
theorem Cg (hr:0≤r.fR∧r.fR≤86400000) (hl: ∀ b,b<rs.length→0≤dE l b∧dE l b≤500000000) (hrs: ∀ x∈rs,0≤x→x<(r.ag.length:Int)): ∀ (d j:Nat),j+d=rs.length→(-1-500000000*(d:Int))≤(jv l r rs j).2∧(jv l r rs j).2≤86400000
 |0,j,h=>by
  obtain rfl:j=rs.length:=by omega
  rw [sx]; simp only; omega
 |d+1,j,h=>by
  have ih:=Cg hr hl hrs d (j+1) om
  have hx:rs[j+1-1]? =some (rs[j]'om):=by rw [Nat.add_sub_cancel]; exact gv _
  have e:=oL (l:=l) (r:=r) (j:=j+1) om hx
  rw [Nat.add_sub_cancel] at e
  rw [e]
  simp only
  have h2:=hl j om
  unfold qU
  split
  ·rename_i q
   have h3:=hrs _ (List.getElem_mem (by omega:j<rs.length)) q
   obtain ⟨s,hs⟩: ∃ s,r.ag[(rs[j]'om).toNat]? =some s:=⟨r.ag[(rs[j]'om).toNat]'om,gv _⟩
   rw [Bu hs]
   have h4:=vx l s
   omega
  ·omega
theorem y_ {t i:Int} (hi:i<0):(t≤r.fR→nQ l r n t i=some t)∧(¬ t≤r.fR→nQ l r n t i=none):=by
 unfold nQ; rw [if_pos hi]; exact ⟨fun h=>if_pos h,fun h=>if_neg h⟩
theorem zE {t i:Int} (hi: ¬ i<0) (hs:r.ag[i.toNat]? =some s) (hb:s.fO=(n:Int)) (hw:(cH l s).Lo≤(cH l s).Hi):(max t (cH l s).Lo≤min r.fR (cH l s).Hi→nQ l r n t i=some (max t (cH l s).Lo))∧(¬ max t (cH l s).Lo≤min r.fR (cH l s).Hi→nQ l r n t i=none):=by
 unfold nQ; rw [if_neg hi,hs]
 exact ⟨fun h=>if_pos ⟨⟨hb,hw⟩,h⟩,fun h=>if_neg fun q=>h q.2⟩
theorem kT {t i:Int} (hi: ¬ i<0) (hs:r.ag[i.toNat]? =some s) (hb: ¬ (s.fO=(n:Int)∧(cH l s).Lo≤(cH l s).Hi)):nQ l r n t i=none:=by
 unfold nQ; rw [if_neg hi,hs]
 exact if_neg fun q=>hb q.1
theorem rD {x:Int} (hx:rs[i]? =some x):(cU (rs.take (i+1))).right=(cU (rs.take i)).right+(if 0≤x then 1 else 0):=by
 rw [lf hx,jB]
 unfold eL
 simp only [c_]
 by_cases h:x<0
 ·rw [if_pos h,if_neg om]
 ·rw [if_neg h,if_pos om]
end
theorem v7 {l:aV} {r:cq} {rs fs:List Int}:(fJ l r rs fs).length≤1:=by unfold fJ; split<;>simp
theorem uK {l:aV} {r:cq} (hr:r.ag.length≤10): ∀ (k:Nat) (rs fs:List Int),(gS l r k rs fs).length≤12^(k+1)
 |0,rs,fs=>by
  unfold gS
  split
  ·simp
  ·have:=v7 (l:=l) (r:=r) (rs:=rs) (fs:=fs); omega
 |k+1,rs,fs=>by
  unfold gS
  split
  ·simp
  ·rw [List.length_append]
   have h1:=v7 (l:=l) (r:=r) (rs:=rs) (fs:=fs)
   have h2: ∀ j,(gA l r k rs fs j).length≤j*12^(k+1):=by
    intro j
    induction j with
    |zero=>simp [gA]
    |succ j ih=>
     cases e:nQ l r rs.length (fy r.Start fs+dE l rs.length) ((j:Int)-1) with
     |none=>rw [jI e,Nat.succ_mul]; exact Nat.le_trans ih (Nat.le_add_right _ _)
     |some t=>rw [jQ e,List.length_append,Nat.succ_mul]; exact Nat.add_le_add ih (uK hr k (rs++[(j:Int)-1]) (fs++[t]))
   have h3:=h2 (r.ag.length+1)
   have h4:(r.ag.length+1)*12^(k+1)≤11*12^(k+1):=Nat.mul_le_mul_right _ om
   have h5:0<12^(k+1):=Nat.pow_pos dc
   have h6:12^(k+1+1)=12*12^(k+1):=by rw [Nat.pow_succ,Nat.mul_comm]
   show (fJ l r rs fs).length+(gA l r k rs fs (r.ag.length+1)).length≤_
   omega
theorem F2 {l:aV} {r:cq} (hr:r.ag.length≤10) {k j:Nat} {rs fs:List Int} (hk:k≤5) (hj:j≤11):(gA l r k rs fs j).length≤40000000:=by
 have h2: ∀ j,(gA l r k rs fs j).length≤j*12^(k+1):=by
  intro j
  induction j with
  |zero=>simp [gA]
  |succ j ih=>
   cases e:nQ l r rs.length (fy r.Start fs+dE l rs.length) ((j:Int)-1) with
   |none=>rw [jI e,Nat.succ_mul]; exact Nat.le_trans ih (Nat.le_add_right _ _)
   |some t=>rw [jQ e,List.length_append,Nat.succ_mul]; exact Nat.add_le_add ih (uK hr k (rs++[(j:Int)-1]) (fs++[t]))
 have h3:=h2 j
 have h4:12^(k+1)≤12^6:=Nat.pow_le_pow_right dc om
 have h5:j*12^(k+1)≤11*12^6:=Nat.mul_le_mul hj h4
 omega
theorem sJ {l:aV} {r:cq} (hr:r.ag.length≤10) {k:Nat} {rs fs:List Int} (hk:k≤6):(gS l r k rs fs).length≤40000000:=by
 have h3:=uK hr k rs fs (l:=l)
 have h4:12^(k+1)≤12^7:=Nat.pow_le_pow_right dc om
 omega
noncomputable def nE (l:aV) (r:cq):List cT:=gS l r l.ab.length [] []
section
variable {l:aV} {r:cq}
theorem ly:(b_ l r).n=l.ab.length:=dQ
theorem IS (hle:dh l=0) (hr:ed l r):EK (b_ l r) (G1 l r) (dE l) r.fR:=by
 obtain ⟨ht,hok⟩:=gr hle
 refine ⟨fun b=>((nM ht hok hr).bH b).1,fun b hb=>(oH (by rw [ly] at hb; exact hb)).symm,rfl,fun b o hb ho h0=>?_,fun b o hb ho h0=>?_⟩
 ·rw [ly] at hb
  rcases (py hb).1 ho with rfl|⟨k,hk,s,hs,q,rfl⟩
  ·simp only at h0; omega
  ·exact (Bu (by simpa using hs)).symm
 ·rw [ly] at hb
  rcases (py hb).1 ho with rfl|⟨k,hk,s,hs,q,rfl⟩
  ·rfl
  ·simp only at h0; omega
theorem od (hle:dh l=0) (hr:ed l r) {y:cT}:y∈nE l r↔IV (b_ l r) (G1 l r) (dE l) r.fR y:=by
 obtain ⟨ht,hok⟩:=gr hle
 have hl: ∀ n,n<l.ab.length→0≤dE l n:=fun n hn=>by have:=ml ht hok (i:=n) hn; omega
 unfold nE
 rw [Em hl _ _ _ _ sm rfl (Int.le_refl _)]
 constructor
 ·rintro ⟨ss,gs,h1,h2,rfl,h4⟩
  exact ⟨h1,by rw [ly]; exact h2,rfl,h4⟩
 ·rintro ⟨h1,h2,h3,h4⟩
  rw [ly] at h2
  exact ⟨y.fW,y.ic,h1,h2,by rw [List.nil_append,List.nil_append]; unfold iF; rw [← h3],h4⟩
theorem ES (hle:dh l=0) (hr:ed l r) {k:Nat} (hk:k≤l.ab.length):((nE l r).any fun y=>decide (y.fW.length=k))=iU (b_ l r) (fwd (b_ l r) k):=by
 rw [Bool.eq_iff_iff,zQ,List.any_eq_true]
 constructor
 ·rintro ⟨y,hy,e⟩
  have h:=(od hle hr).1 hy
  exact ⟨y.fW,y.ic,of_decide_eq_true e,h.chain,h.may⟩
 ·rintro ⟨rs,fs,e,h1,h2⟩
  exact ⟨⟨rs,fs,(gl (G1 l r) (dE l) r.fR 0 rs).1⟩,(od hle hr).2 ⟨h1,by rw [ly]; simp only; omega,rfl,h2⟩,bW e⟩
theorem cd (hle:dh l=0) (hr:ed l r):nE l r=[]↔gR (b_ l r)=[]:=by
 constructor
 ·intro h
  apply List.eq_nil_iff_forall_not_mem.2
  intro x hx
  obtain ⟨k,rfl,hk,hm⟩:=nI.1 hx
  rw [ly] at hk
  rw [← ES hle hr hk,h] at hm
  cases hm
 ·intro h
  apply List.eq_nil_iff_forall_not_mem.2
  intro y hy
  have hw:=(od hle hr).1 hy
  have:((y.fW.length:Nat):Int)∈gR (b_ l r):=nI.2 ⟨y.fW.length,rfl,hw.len,zQ.2 ⟨_,_,rfl,hw.chain,hw.may⟩⟩
  rw [h] at this; cases this
/-- the times at a beam, by all ways -/
def iv (b:Nat) (ws:List cT):List (Int×aa):=ws.filterMap fun y=>match y.fW[b]?,y.ic[b]?,y.lq[b]? with
 |some s,some f,some e=>some (s,⟨f,e⟩)
 |_,_,_=>none
theorem mO {b:Nat} {ws:List cT} {q:Int×aa}:q∈iv b ws↔ ∃ y∈ws,y.fW[b]? =some q.1∧y.ic[b]? =some q.2.Lo∧y.lq[b]? =some q.2.Hi:=by
 unfold iv
 rw [List.mem_filterMap]
 constructor
 ·rintro ⟨y,hy,h⟩
  cases e1:y.fW[b]? with
  |none=>rw [e1] at h; cases h
  |some s=>
   cases e2:y.ic[b]? with
   |none=>rw [e1,e2] at h; cases h
   |some f=>
    cases e3:y.lq[b]? with
    |none=>rw [e1,e2,e3] at h; cases h
    |some e=>
     rw [e1,e2,e3] at h; cases h
     exact ⟨y,hy,e1,e2,e3⟩
 ·rintro ⟨y,hy,h1,h2,h3⟩
  exact ⟨y,hy,by rw [h1,h2,h3]⟩
theorem uZ {b:Nat} {ws:List cT} {y:cT} (h:y.fW.length≤b):iv b (ws++[y])=iv b ws:=by
 unfold iv; rw [List.filterMap_append]; simp [List.getElem?_eq_none h]
theorem oS {b:Nat} {ws:List cT} {y:cT} {s f e:Int} (h1:y.fW[b]? =some s) (h2:y.ic[b]? =some f) (h3:y.lq[b]? =some e):iv b (ws++[y])=iv b ws++[(s,⟨f,e⟩)]:=by
 unfold iv; rw [List.filterMap_append]; simp [h1,h2,h3]
theorem EC (hle:dh l=0) (hr:ed l r) {y:cT} (hy:y∈nE l r):y.ic.length=y.fW.length∧y.lq.length=y.fW.length∧y.fW.length≤l.ab.length:=by
 have h:=(od hle hr).1 hy
 exact ⟨jV _ _ _ _ h.chain,by rw [h.last,pL],by have:=h.len; rwa [ly] at this⟩
theorem rX (hle:dh l=0) (hr:ed l r) {b:Nat} (hb:b<l.ab.length) {s t:Int}:(∃ q∈l4 (b_ l r) b,q.1=s∧q.2.Lo≤t∧t≤q.2.Hi)↔ ∃ q∈iv b (nE l r),q.1=s∧q.2.Lo≤t∧t≤q.2.Hi:=by
 have hh:=IS hle hr
 rw [xJ hh.low (by rw [ly]; exact hb),Er hh hr.time.2.1 (by rw [ly]; exact hb)]
 constructor
 ·rintro ⟨y,hy,f,e,h1,h2,h3,h4,h5⟩
  exact ⟨(s,⟨f,e⟩),mO.2 ⟨y,(od hle hr).2 hy,h1,h2,h3⟩,rfl,h4,h5⟩
 ·rintro ⟨q,hq,rfl,h4,h5⟩
  obtain ⟨y,hy,h1,h2,h3⟩:=mO.1 hq
  exact ⟨y,(od hle hr).1 hy,_,_,h1,h2,h3,h4,h5⟩
/-- a way's span is none that is empty -/
theorem vr (hle:dh l=0) (hr:ed l r) {b:Nat} {q:Int×aa} (hq:q∈iv b (nE l r)):q.2.Lo≤q.2.Hi:=by
 have hh:=IS hle hr
 obtain ⟨y,hy,h1,h2,h3⟩:=mO.1 hq
 obtain ⟨hc,hn,hla,hm⟩:=(od hle hr).1 hy
 obtain ⟨R,F,La⟩:=y
 simp only at h1 h2 h3 hc hn hla
 have hbR:=(List.getElem?_eq_some_iff.1 h1).1
 have hbF:=(List.getElem?_eq_some_iff.1 h2).1
 have hFl:=jV _ _ _ _ hc
 have eR:R=R.take b++q.1::R.drop (b+1):=by rw [← (List.getElem?_eq_some_iff.1 h1).2]; exact (List.take_append_drop b R).symm.trans (by rw [List.drop_eq_getElem_cons hbR])
 have eF:F=F.take b++q.2.Lo::F.drop (b+1):=by rw [← (List.getElem?_eq_some_iff.1 h2).2]; exact (List.take_append_drop b F).symm.trans (by rw [List.drop_eq_getElem_cons hbF])
 rw [eR,eF,pH _ _ _ _ _ _ (by simp only [List.length_take]; omega)] at hc
 have l1:(R.take b).length=b:=by rw [List.length_take]; omega
 rw [l1,Nat.zero_add] at hc
 obtain ⟨c1,⟨o,ho,h5,h6,h7⟩,c2⟩:=hc
 have hat:=rf (hi:=G1 l r) (least:=dE l) (now:=r.fR) 0 (R.take b) q.1 (R.drop (b+1))
 rw [← eR,l1,Nat.zero_add,← hla,h3] at hat
 have hat:=Option.some.inj hat
 have he:=pP hh (b+1) q.2.Lo (R.drop (b+1)) (F.drop (b+1)) (by rw [List.length_drop]; omega) om c2
 rw [← h5] at hat
 split at hat
 ·rename_i z
  have:=hh.hi b o om ho z
  omega
 ·omega
theorem zt {a b:List (Int×aa)} {h k:aa} (ha:jX a h) (hb:jX b k) (hab: ∀ x∈b,(∃ y∈a,y.2.Lo≤x.2.Lo)∧ ∃ y∈a,x.2.Hi≤y.2.Hi) (hba: ∀ x∈a,(∃ y∈b,y.2.Lo≤x.2.Lo)∧ ∃ y∈b,x.2.Hi≤y.2.Hi):h=k:=by
 rcases ha with ⟨rfl,rfl⟩|ha
 ·rcases hb with ⟨rfl,rfl⟩|hb
  ·rfl
  ·obtain ⟨x,hx,_⟩:=hb.lo
   obtain ⟨⟨y,hy,_⟩,_⟩:=hab x hx
   cases hy
 ·rcases hb with ⟨rfl,rfl⟩|hb
  ·obtain ⟨x,hx,_⟩:=ha.lo
   obtain ⟨⟨y,hy,_⟩,_⟩:=hba x hx
   cases hy
  ·obtain ⟨x1,hx1,e1⟩:=ha.lo
   obtain ⟨x2,hx2,e2⟩:=ha.hi
   obtain ⟨y1,hy1,f1⟩:=hb.lo
   obtain ⟨y2,hy2,f2⟩:=hb.hi
   obtain ⟨⟨p1,hp1,q1⟩,_⟩:=hba x1 hx1
   obtain ⟨_,p2,hp2,q2⟩:=hba x2 hx2
   obtain ⟨⟨p3,hp3,q3⟩,_⟩:=hab y1 hy1
   obtain ⟨_,p4,hp4,q4⟩:=hab y2 hy2
   have a1:=hb.all p1 hp1
   have a2:=hb.all p2 hp2
   have a3:=ha.all p3 hp3
   have a4:=ha.all p4 hp4
   apply aa.ext
   ·omega
   ·omega
theorem EI (hle:dh l=0) (hr:ed l r) {b:Nat} (hb:b<l.ab.length) {h:aa} (hh:jX (iv b (nE l r)) h):h=l0 l r b:=by
 have hk:=s8 (l:=l4 (b_ l r) b) (fun q hq=>l5 hq)
 refine zt hh hk (fun x hx=>?_) (fun x hx=>?_)
 ·have hle':=l5 hx
  obtain ⟨y,hy,_,h1,h2⟩:=(rX hle hr hb (s:=x.1) (t:=x.2.Lo)).1 ⟨x,hx,rfl,Int.le_refl _,hle'⟩
  obtain ⟨z,hz,_,h3,h4⟩:=(rX hle hr hb (s:=x.1) (t:=x.2.Hi)).1 ⟨x,hx,rfl,hle',Int.le_refl _⟩
  exact ⟨⟨y,hy,h1⟩,z,hz,h4⟩
 ·have hle':=vr hle hr hx
  obtain ⟨y,hy,_,h1,h2⟩:=(rX hle hr hb (s:=x.1) (t:=x.2.Lo)).2 ⟨x,hx,rfl,Int.le_refl _,hle'⟩
  obtain ⟨z,hz,_,h3,h4⟩:=(rX hle hr hb (s:=x.1) (t:=x.2.Hi)).2 ⟨x,hx,rfl,hle',Int.le_refl _⟩
  exact ⟨⟨y,hy,h1⟩,z,hz,h4⟩
end
def lp (ws:List cT) (b:Nat):Int:=if vV (iv b ws)=l3 then 6 else 0
def mH (ws:List cT) (b:Nat):aa:=if vV (iv b ws)=l3 then ⟨0,0⟩ else vV (iv b ws)
theorem Il {l:List (Int×aa)} {h:aa} (hh:jX l h) (hl: ∀ q∈l,q.2.Lo≤q.2.Hi):vV l=h:=
 zt (s8 hl) hh (fun x hx=>⟨⟨x,hx,Int.le_refl _⟩,x,hx,Int.le_refl _⟩) (fun x hx=>⟨⟨x,hx,Int.le_refl _⟩,x,hx,Int.le_refl _⟩)
theorem AA {ws:List cT} {b:Nat} (h:iv b ws=[]):lp ws b=6∧mH ws b=⟨0,0⟩:=by
 unfold lp mH; rw [h]; exact ⟨if_pos rfl,if_pos rfl⟩
theorem z9 {ws:List cT} {b:Nat} {o:aa} (hl: ∀ q∈iv b ws,q.2.Lo≤q.2.Hi) (h:nm (iv b ws) o):lp ws b=0∧mH ws b=o:=by
 have e:=Il (.inr h) hl
 unfold lp mH; rw [e]; exact ⟨if_neg h.ne,if_neg h.ne⟩
/-- what was found until now -/
def mL (b:Nat) (ws:List cT) (fd:Bool) (o:aa):Prop:=(fd=false∧iv b ws=[])∨(fd=true∧nm (iv b ws) o)
theorem CR {b:Nat} {o:aa}:mL b [] false o:= .inl ⟨rfl,rfl⟩
theorem zN {q:Int×aa} (hq:q.2.Lo≤q.2.Hi):nm [q] q.2:=⟨hq,⟨q,sm,rfl⟩,⟨q,sm,rfl⟩,fun x hx=>by simp at hx; subst hx; exact ⟨Int.le_refl _,Int.le_refl _⟩⟩
theorem xR {l:List (Int×aa)} {h:aa} {q:Int×aa} (hh:nm l h) (hq:q.2.Lo≤q.2.Hi):nm (l++[q]) ⟨min q.2.Lo h.Lo,max q.2.Hi h.Hi⟩:=by
 have:=sf (.inr hh) hq
 unfold lM at this
 rw [if_neg hh.ne] at this
 rcases this with ⟨e,_⟩|this
 ·simp at e
 ·exact this
theorem qA {b:Nat} {ws:List cT} {fd:Bool} {o:aa} {y:cT} (h:mL b ws fd o) (hy:y.fW.length≤b):mL b (ws++[y]) fd o:=by
 unfold mL; rw [uZ hy]; exact h
theorem pk {b:Nat} {ws:List cT} {fd:Bool} {o:aa} {y:cT} {s f e:Int} (h:mL b ws fd o) (hf:fd=false) (h1:y.fW[b]? =some s) (h2:y.ic[b]? =some f) (h3:y.lq[b]? =some e) (hle:f≤e):mL b (ws++[y]) true ⟨f,e⟩:=by
 rcases h with ⟨_,q⟩|⟨q,_⟩
 ·right
  rw [oS h1 h2 h3,q]
  exact ⟨rfl,zN hle⟩
 ·rw [q] at hf; cases hf
theorem qG {b:Nat} {ws:List cT} {fd:Bool} {o:aa} {y:cT} {s f e:Int} (h:mL b ws fd o) (hf:fd=true) (h1:y.fW[b]? =some s) (h2:y.ic[b]? =some f) (h3:y.lq[b]? =some e) (hle:f≤e):mL b (ws++[y]) true ⟨min f o.Lo,max e o.Hi⟩:=by
 rcases h with ⟨q,_⟩|⟨_,q⟩
 ·rw [q] at hf; cases hf
 ·right
  rw [oS h1 h2 h3]
  exact ⟨rfl,xR q hle⟩
theorem w7 {b:Nat} {ws:List cT} {fd:Bool} {o:aa} (h:mL b ws fd o) (hl: ∀ q∈iv b ws,q.2.Lo≤q.2.Hi):(fd=false→lp ws b=6∧mH ws b=⟨0,0⟩)∧(fd=true→lp ws b=0∧mH ws b=o):=by
 rcases h with ⟨q,h⟩|⟨q,h⟩
 ·exact ⟨fun _=>AA h,fun e=>(by rw [q] at e; cases e)⟩
 ·exact ⟨fun e=>(by rw [q] at e; cases e),fun _=>z9 hl h⟩
section
variable {l:aV} {r:cq}
theorem Gw (he:dN l r 0=0) {b:Nat} (hb:b<l.ab.length):lp (nE l r) b=dv l r b∧mH (nE l r) b=dw l r b:=by
 obtain ⟨hle,hr,_,_⟩:=jM he
 have h:=EI hle hr hb (s8 fun q hq=>vr hle hr hq)
 have ho:dN l r (jf l b)=0:=by rw [C_ hb]; exact he
 unfold lp mH
 rw [h]
 by_cases e:l0 l r b=l3
 ·rw [if_pos e,if_pos e,(lR ho e).1,(lR ho e).2]; exact ⟨rfl,rfl⟩
 ·rw [if_neg e,if_neg e,(lS ho e).1,(lS ho e).2]; exact ⟨rfl,rfl⟩
theorem Jx (hle:dh l=0) (hr:ed l r) {y:cT} (hy:y∈nE l r) {b:Nat} {f e:Int} (hb:b<y.fW.length) (h2:y.ic[b]? =some f) (h3:y.lq[b]? =some e):f≤e:=
 vr hle hr (q:=(y.fW[b],⟨f,e⟩)) (mO.2 ⟨y,hy,gv _,h2,h3⟩)
theorem zW:dN l r (jf l l.cz)=dN l r 0:=by
 by_cases h:dh l=0
 ·obtain ⟨_,hok⟩:=gr h
  have hh:=hok.head
  unfold dU at hh
  rw [zk om]
 ·rw [eQ h,eQ h]
theorem ks (h: ¬ dN l r 0=0):dv l r l.cz=dN l r 0:=by
 have:=(kg (b:=l.cz) (by rw [zW]; exact h)).1
 rw [this,zW]
/-- rows of times that are those of ways -/
structure HT (ws:List cT):Prop where
 lens: ∀ y∈ws,y.ic.length=y.fW.length∧y.lq.length=y.fW.length∧y.fW.length≤6
 le: ∀ y∈ws,∀ (b:Nat) f e,b<y.fW.length→y.ic[b]? =some f→y.lq[b]? =some e→f≤e
 num:ws.length≤40000000
theorem HT.BL {ws:List cT} (h:HT ws) {b:Nat}: ∀ q∈iv b ws,q.2.Lo≤q.2.Hi:=fun q hq=>by
 obtain ⟨y,hy,h1,h2,h3⟩:=mO.1 hq
 exact h.le y hy b _ _ (List.getElem?_eq_some_iff.1 h1).1 h2 h3
theorem Jn (hle:dh l=0) (hr:ed l r):HT (nE l r):=by
 obtain ⟨ht,hok⟩:=gr hle
 have hh:=hok.head
 unfold dU at hh
 refine ⟨fun y hy=>?_,fun y hy b f e hb h2 h3=>Jx hle hr hy hb h2 h3,sJ hr.len om⟩
 obtain ⟨h1,h2,h3⟩:=EC hle hr hy
 exact ⟨h1,h2,om⟩
end
end
section
open Go.RowKit
/-- a row is taken that was made before; an operation -/
inductive fh where
 |take (i:Nat)
 |op (j:Nat)
def fh.ix:fh→Nat
 | .take i=>i
 | .op j=>j
def yn (dO:Nat→Nat):List fh→List Nat
 |[]=>[]
 | .take i::s=>dO i::yn dO s
 | .op _::s=>yn dO s
theorem qN {dO:Nat→Nat} {i:Nat}: ∀ {s:List fh},fh.take i∈s→dO i∈yn dO s
 | .take k::s,h=>by
  rcases List.mem_cons.1 h with e|h
  ·cases e; exact cZ ..
  ·exact dY _ (qN h)
 | .op k::s,h=>by
  rcases List.mem_cons.1 h with e|h
  ·cases e
  ·exact qN (s:=s) h
def rB (m:Array Nat) (dO:Nat→Nat) (x y:fh):Bool:=x.ix != y.ix&&(match y with | .op j=>g9 m x.ix j| .take i=>match x with | .take k=>dO k != dO i| .op _=>true)
def MO (m:Array Nat) (dO:Nat→Nat):List fh→Bool
 |[]=>true
 |x::s=>s.all (rB m dO x)&&MO m dO s
theorem BD {m:Array Nat} {dO:Nat→Nat}: ∀ {s:List fh},MO m dO s=true→s.Pairwise fun x y=>rB m dO x y=true
 |[],_=>List.Pairwise.nil
 |x::s,h=>by
  simp only [MO,cS] at h
  exact List.Pairwise.cons (fun y hy=>List.all_eq_true.1 h.1 y hy) (BD h.2)
/-- what is known of the slots B is known in L -/
def yH (B L:List (Nat×Value)):Prop:= ∀ t v,B.lookup t=some v→L.lookup t=some v
theorem xy {B L:List (Nat×Value)} (h:B.map (fun p=>L.lookup p.1)=B.map (fun p=>some p.2)):yH B L:=by
 induction B with
 |nil=>intro t v h; simp at h
 |cons p B ih=>
  obtain ⟨k,u⟩:=p
  simp only [List.map_cons,List.cons.injEq] at h
  intro t v hl
  by_cases e:t=k
  ·subst e
   simp only [List.lookup,beq_self_eq_true,Option.some.injEq] at hl
   rw [h.1,hl]
  ·have:(t==k)=false:=by simpa using e
   simp only [List.lookup,this] at hl
   exact ih h.2 t v hl
theorem mQ {L Y:List (Nat×Value)} {t:Nat}:(L++Y).lookup t=match L.lookup t with |some v=>some v|none=>Y.lookup t:=by
 induction L with
 |nil=>rfl
 |cons p L ih=>
  obtain ⟨k,u⟩:=p
  by_cases e:t==k
  ·simp [List.lookup,e]
  ·have:(t==k)=false:=by simpa using e
   simp only [List.cons_append,List.lookup,this,ih]
theorem yH.app {B L Y:List (Nat×Value)} (h:yH B L):yH B (L++Y):=fun t v ht=>by rw [mQ,h t v ht]
theorem JB {B L:List (Nat×Value)} (h:yH B L) {x:Operand} {v:Value} (hv:ev B x=some v):ev L x=some v:=by
 cases x<;>simp only [ev] at hv ⊢ <;>first|exact h _ _ hv|exact hv
theorem BR {B L:List (Nat×Value)} (h:yH B L): ∀ {xs:List Operand} {vs:List Value},evs B xs=some vs→evs L xs=some vs
 |[],vs,hv=>hv
 |x::xs,vs,hv=>by
  simp only [evs] at hv ⊢
  cases e1:ev B x with
  |none=>rw [e1] at hv; simp at hv
  |some v=>
   cases e2:evs B xs with
   |none=>rw [e1,e2] at hv; simp at hv
   |some us=>
    rw [e1,e2] at hv
    rw [JB h e1,BR h e2]; exact hv
section
variable (E:e9) (ops:Array Oper) (D:List Deferred) (C':List aq) (K0:Act→World→Prop) (B:List (Nat×Value)) (dO:Nat→Nat) (VO:Nat→Nat→Value) (AO:Nat→Nat→aq)
def CH:List fh→List (Nat×Value)→List aq→Prop
 |[],L,C=>KJ E K0 D L C
 | .take i::s,L,C=> ∀ b,CH s ((dO i,VO i b)::L) (AO i b::C)
 | .op j::s,L,C=> ∀ o,ops[j]? =some o→ ∀ (Y:List (Nat×Value)) (X:List aq) (K:Act→World→Prop),(∀ L' C'',(∀ w,St E.S E.w0 C'' w→St E.S E.w0 C' w)→((yn dO s).all fun d=>(L'.lookup d).isNone)=true→B.map (fun p=>L'.lookup p.1)=B.map (fun p=>some p.2)→CH s L' C''→KJ E K D (L'++Y) (C''++X))→RJ E ops (NQ K) [o] D (L++Y) (C++X)
/-- a row that is made at any time -/
def Lz (i:Nat):Prop:= ∀ o,ops[i]? =some o→ ∀ (L:List (Nat×Value)) (C:List aq) (K:Act→World→Prop),yH B L→(∀ b,KJ E K D ((dO i,VO i b)::L) (AO i b::C))→RJ E ops (NQ K) [o] D L C
end
section
variable {E:e9} {ops:Array Oper} {D:List Deferred} {C' C1:List aq} {K0:Act→World→Prop} {B:List (Nat×Value)} {dO:Nat→Nat} {VO:Nat→Nat→Value} {AO:Nat→Nat→aq}
theorem HM {Q:dj} {rest:List Oper} {L L2:List (Nat×Value)} {C C2:List aq} (hL: ∀ a,Fr E.n D L a→Fr E.n D L2 a) (hC: ∀ w,St E.S E.w0 C w→St E.S E.w0 C2 w) (h:RJ E ops Q rest D L2 C2):RJ E ops Q rest D L C:=fun a w hf hs=>h a w (hL a hf) (hC w hs)
theorem BC {K:Act→World→Prop} {L L2:List (Nat×Value)} {C C2:List aq} (hL: ∀ a,Fr E.n D L a→Fr E.n D L2 a) (hC: ∀ w,St E.S E.w0 C w→St E.S E.w0 C2 w) (h:KJ E K D L2 C2):KJ E K D L C:=fun a w hf hs=>h a w (hL a hf) (hC w hs)
theorem BA {n:Nat} {L L2:List (Nat×Value)} (h: ∀ t v,L2.lookup t=some v→L.lookup t=some v) (a:Act) (hf:Fr n D L a):Fr n D L2 a:=⟨hf.defers,hf.size,fun t v ht=>hf.at_ t v (h t v ht)⟩
theorem AJ: ∀ (T0 s':List fh) (dn:List (Nat×Nat)) (L Y:List (Nat×Value)) (C:List aq),(∀ x∈T0,∃ i b,x= .take i∧(i,b)∈dn)→(T0++s').Pairwise (fun x y=>rB (oW ops) dO x y=true)→(dn.map (·.1)).Nodup→(∀ p∈dn,fh.take p.1∈T0++s')→(∀ p∈dn,Y.lookup (dO p.1)=some (VO p.1 p.2))→(∀ i,fh.take i∈T0++s'→L.lookup (dO i)=none)→
 CH E ops D C' K0 B dO VO AO (T0++s') L C→ ∃ (dn':List (Nat×Nat)) (L':List (Nat×Value)) (C2:List aq),CH E ops D C' K0 B dO VO AO s' L' C2∧(dn'.map (·.1)).Nodup∧(∀ p,p∈dn'↔p∈dn∧fh.take p.1∈s')∧(∀ t v,(L'++Y).lookup t=some v→(L++Y).lookup t=some v)∧(∀ i,fh.take i∈s'→L'.lookup (dO i)=none)∧(∀ w,St E.S E.w0 (C++dn.map fun p=>AO p.1 p.2) w→St E.S E.w0 (C2++dn'.map fun p=>AO p.1 p.2) w)
 |[],s',dn,L,Y,C,_,_,hn,hm,_,hl,h=>⟨dn,L,C,h,hn,fun p=>⟨fun q=>⟨q,hm p q⟩,fun q=>q.1⟩,fun t v q=>q,hl,fun w q=>q⟩
 |x::T0,s',dn,L,Y,C,ht,hp,hn,hm,hy,hl,h=>by
  obtain ⟨i,b,rfl,hb⟩:=ht x (cZ ..)
  obtain ⟨hp1,hp2⟩:=List.pairwise_cons.1 hp
  have hne: ∀ y∈T0++s',i≠y.ix:=fun y hy e=>by
   have:=hp1 y hy
   simp only [rB,cS,bne_iff_ne,fh.ix] at this
   exact this.1 e
  have hdd: ∀ k,fh.take k∈T0++s'→dO k≠dO i:=fun k hk e=>by
   have:=hp1 _ hk
   simp only [rB,cS,bne_iff_ne] at this
   exact this.2 e.symm
  have hpe:dn.Perm ((i,b)::dn.erase (i,b)):=List.perm_cons_erase hb
  have hn2:((dn.erase (i,b)).map (·.1)).Nodup∧i ∉ (dn.erase (i,b)).map (·.1):=by
   have:=(hpe.map (·.1)).nodup_iff.1 hn
   exact ⟨(List.nodup_cons.1 this).2,(List.nodup_cons.1 this).1⟩
  have hsub: ∀ p∈dn.erase (i,b),p∈dn∧p.1≠i:=fun p hp=>⟨List.mem_of_mem_erase hp,fun e=>by have q:=List.mem_map_of_mem (f:=fun p:Nat×Nat=>p.1) hp; simp only [e] at q; exact hn2.2 q⟩
  have hdi:L.lookup (dO i)=none:=hl i (cZ ..)
  obtain ⟨dn',L',C2,h1,h2,h3,h4,h5,h6⟩:=AJ T0 s' (dn.erase (i,b)) ((dO i,VO i b)::L) Y (AO i b::C) (fun x hx=>by
   obtain ⟨k,c,rfl,hk⟩:=ht x (dY _ hx)
   refine ⟨k,c,rfl,?_⟩
   have hki:k≠i:=fun e=>hne _ (List.mem_append_left _ hx) e.symm
   exact (List.mem_erase_of_ne (fun e=>hki (congrArg Prod.fst e))).2 hk) hp2 hn2.1 (fun p hp=>by
   obtain ⟨q1,q2⟩:=hsub p hp
   rcases List.mem_cons.1 (hm p q1) with e|e
   ·injection e with e; exact absurd e q2
   ·exact e) (fun p hp=>hy p (hsub p hp).1) (fun k hk=>by
   have:(dO k==dO i)=false:=by simpa using hdd k hk
   simp only [List.lookup,this]
   exact hl k (dY _ hk)) (h b)
  refine ⟨dn',L',C2,h1,h2,fun p=>?_,fun t v hv=>?_,h5,fun w hw=>h6 w ?_⟩
  ·rw [h3]
   constructor
   ·rintro ⟨q1,q2⟩; exact ⟨(hsub p q1).1,q2⟩
   ·rintro ⟨q1,q2⟩
    have hki:p.1≠i:=fun e=>hne _ (List.mem_append_right _ q2) e.symm
    exact ⟨(List.mem_erase_of_ne (fun e=>hki (congrArg Prod.fst e))).2 q1,q2⟩
  ·have:=h4 t v hv
   rw [mQ] at this ⊢
   by_cases e:t=dO i
   ·subst e
    simp only [List.lookup,beq_self_eq_true] at this
    rw [hdi]; simp only
    rw [hy _ hb]; exact this
   ·have e2:(t==dO i)=false:=by simpa using e
    simp only [List.lookup,e2] at this
    exact this
  ·refine hw.perm ?_
   show (C++dn.map fun p=>AO p.1 p.2).Perm (AO i b::(C++(dn.erase (i,b)).map fun p=>AO p.1 p.2))
   refine ((hpe.map fun p:Nat×Nat=>AO p.1 p.2).append_left C).trans ?_
   exact List.perm_middle
theorem zO: ∀ (s:List fh) (j:Nat),fh.op j∈s→ ∃ T0 k s',s=T0++fh.op k::s'∧ ∀ x∈T0,∃ i,x=fh.take i
 | .take i::s,j,h=>by
  rcases List.mem_cons.1 h with e|h
  ·cases e
  ·obtain ⟨T0,k,s',rfl,h2⟩:=zO s j h
   exact ⟨.take i::T0,k,s',rfl,fun x hx=>by
    rcases List.mem_cons.1 hx with rfl|hx
    ·exact ⟨i,rfl⟩
    ·exact h2 x hx⟩
 | .op k::s,j,_=>⟨[],k,s,rfl,fun x hx=>by cases hx⟩
def j0 (s:List fh) (dn:List (Nat×Nat)):List Nat:=(s.map fh.ix).filter fun i=> !(dn.map (·.1)).contains i
theorem p5 {s:List fh} {dn:List (Nat×Nat)} {i:Nat}:i∈j0 s dn↔(∃ x∈s,x.ix=i)∧ ∀ p∈dn,p.1≠i:=by
 unfold j0
 rw [List.mem_filter,rR]
 refine and_congr Iff.rfl ?_
 rw [Bool.not_eq_true',← Bool.not_eq_true,List.contains_iff_mem,rR]
 constructor
 ·intro h p hp e; exact h ⟨p,hp,e⟩
 ·rintro h ⟨p,hp,e⟩; exact h p hp e
theorem pg (hal: ∀ i,Lz E ops D B dO VO AO i∨True): ∀ (n:Nat) (s:List fh) (dn:List (Nat×Nat)) (L Y:List (Nat×Value)) (C:List aq),(∀ i,fh.take i∈s→Lz E ops D B dO VO AO i)→s.Pairwise (fun x y=>rB (oW ops) dO x y=true)→(j0 s dn).length=n→(dn.map (·.1)).Nodup→(∀ p∈dn,fh.take p.1∈s)→(∀ p∈dn,Y.lookup (dO p.1)=some (VO p.1 p.2))→(∀ i,fh.take i∈s→L.lookup (dO i)=none)→yH B L→
 (∀ w,St E.S E.w0 C w→St E.S E.w0 C' w)→CH E ops D C' K0 B dO VO AO s L C→TN E ops D C' C1 (fun L C=>KJ E K0 D L C) [] n (j0 s dn) (L++Y) (C++dn.map fun p=>AO p.1 p.2)
 |0,s,dn,L,Y,C,_,hp,hlen,hn,hm,hy,hl,hB,hC,h=>by
  have hr:j0 s dn=[]:=fX hlen
  have hall: ∀ x∈s,∃ i b,x=fh.take i∧(i,b)∈dn:=fun x hx=>by
   have hx':x.ix ∉ j0 s dn:=by rw [hr]; exact List.not_mem_nil
   rw [p5] at hx'
   have: ∃ p∈dn,p.1=x.ix:=by
    apply Classical.byContradiction
    intro q
    exact hx' ⟨⟨x,hx,rfl⟩,fun p hp e=>q ⟨p,hp,e⟩⟩
   obtain ⟨p,hp1,hp2⟩:=this
   have ht:=hm p hp1
   rcases List.mem_iff_getElem.1 hx with ⟨a,ha,ea⟩
   rcases List.mem_iff_getElem.1 ht with ⟨c,hc,ec⟩
   have hac:a=c:=by
    rcases Nat.lt_trichotomy a c with q|q|q
    ·have:=List.pairwise_iff_getElem.1 hp a c ha hc q
     simp only [rB,cS,bne_iff_ne,ea,ec] at this
     exact absurd hp2.symm this.1
    ·exact q
    ·have:=List.pairwise_iff_getElem.1 hp c a hc ha q
     simp only [rB,cS,bne_iff_ne,ea,ec] at this
     exact absurd hp2 this.1
   subst hac
   exact ⟨p.1,p.2,by rw [← ea,ec],hp1⟩
  obtain ⟨dn',L',C2,h1,h2,h3,h4,h5,h6⟩:=AJ s [] dn L Y C hall (by simpa using hp) hn (by simpa using hm) hy (by simpa using hl) (by simpa using h)
  show KJ E K0 D _ _
  have hd:dn'=[]:=List.eq_nil_iff_forall_not_mem.2 fun p hp=>by have:=((h3 p).1 hp).2; cases this
  subst hd
  refine BC (L2:=L') (C2:=C2) (fun a hf=>BA (fun t v ht=>h4 t v (by rw [mQ,ht])) a hf) (fun w hw=>by have:=h6 w hw; simpa using this) h1
 |n+1,s,dn,L,Y,C,hal',hp,hlen,hn,hm,hy,hl,hB,hC,h=>by
  intro i hi o ho K hK
  obtain ⟨hi1,hi2⟩:=List.mem_filter.1 hi
  obtain ⟨⟨x,hx,rfl⟩,hni⟩:=p5.1 hi1
  have hmin: ∀ k∈j0 s dn,g9 (oW ops) k x.ix=false:=fun k hk=>by
   have:=List.all_eq_true.1 hi2 k hk
   simpa using this
  cases x with
  |take i=>
   simp only [fh.ix] at hni hmin ho hK hi1 ⊢
   refine hal' i hx o ho _ _ K hB.app fun b=>?_
   have hdi:=hl i hx
   have hre:(j0 s dn).filter (· != i)=j0 s ((i,b)::dn):=by
    unfold j0
    rw [List.filter_filter]
    apply List.filter_congr
    intro k _
    simp only [List.map_cons,List.contains_cons,Bool.not_or]
    rfl
   have hnd:(j0 s dn).Nodup:=by
    unfold j0
    refine List.Nodup.sublist List.filter_sublist ?_
    refine List.pairwise_map.2 (hp.imp fun {a c} q=>?_)
    simp only [rB,cS,bne_iff_ne] at q
    exact q.1
   have hdist: ∀ k,fh.take k∈s→k≠i→dO k≠dO i:=fun k hk hki e=>by
    rcases List.mem_iff_getElem.1 hx with ⟨a,ha,ea⟩
    rcases List.mem_iff_getElem.1 hk with ⟨c,hc,ec⟩
    rcases Nat.lt_trichotomy a c with q|q|q
    ·have:=List.pairwise_iff_getElem.1 hp a c ha hc q
     simp only [rB,cS,bne_iff_ne,ea,ec] at this
     exact this.2 e.symm
    ·subst q; rw [ea] at ec; cases ec; exact hki rfl
    ·have:=List.pairwise_iff_getElem.1 hp c a hc ha q
     simp only [rB,cS,bne_iff_ne,ea,ec] at this
     exact this.2 e
   refine BC (L2:=L++((dO i,VO i b)::Y)) (C2:=C++((i,b)::dn).map fun p=>AO p.1 p.2) (fun a hf=>BA (fun t v ht=>?_) a hf) (fun w hw=>hw.perm (List.perm_middle).symm) (hK _ _ (fun w hw=>hC w (hw.take (List.sublist_append_left _ _))) (fun q=>by cases q) ?_)
   ·rw [mQ] at ht
    by_cases e:t=dO i
    ·subst e
     rw [hdi] at ht
     simp only [List.lookup,beq_self_eq_true] at ht ⊢
     exact ht
    ·have e2:(t==dO i)=false:=by simpa using e
     simp only [List.lookup,e2] at ht ⊢
     rw [mQ]; exact ht
   ·rw [hre]
    refine pg hal n s ((i,b)::dn) L ((dO i,VO i b)::Y) C hal' hp ?_ (List.nodup_cons.2 ⟨fun q=>?_,hn⟩) (fun p hp'=>?_) (fun p hp'=>?_) hl hB hC h
    ·rw [← hre,← List.Nodup.erase_eq_filter hnd,List.length_erase_of_mem hi1,hlen]; rfl
    ·obtain ⟨p,hp',e⟩:=List.mem_map.1 q
     exact hni p hp' e
    ·rcases List.mem_cons.1 hp' with rfl|hp'
     ·exact hx
     ·exact hm p hp'
    ·rcases List.mem_cons.1 hp' with rfl|hp'
     ·simp [List.lookup]
     ·have:(dO p.1==dO i)=false:=by simpa using hdist p.1 (hm p hp') (hni p hp')
      simp only [List.lookup,this]
      exact hy p hp'
  |op j=>
   simp only [fh.ix] at hni hmin ho hK hi1 ⊢
   obtain ⟨T0,k,s',rfl,hT⟩:=zO s j hx
   obtain ⟨q1,q2,q3⟩:=List.pairwise_append.1 hp
   obtain ⟨q4,q5⟩:=List.pairwise_cons.1 q2
   have hopn: ∀ k',fh.op k'∈T0++fh.op k::s'→k'∈j0 (T0++fh.op k::s') dn:=fun k' hk'=>by
    refine p5.2 ⟨⟨_,hk',rfl⟩,fun p hp' e=>?_⟩
    have ht:=hm p hp'
    rcases List.mem_iff_getElem.1 hk' with ⟨a,ha,ea⟩
    rcases List.mem_iff_getElem.1 ht with ⟨c,hc,ec⟩
    rcases Nat.lt_trichotomy a c with q|q|q
    ·have:=List.pairwise_iff_getElem.1 hp a c ha hc q
     simp only [rB,cS,bne_iff_ne,ea,ec,fh.ix] at this
     exact this.1 e.symm
    ·subst q; rw [ea] at ec; cases ec
    ·have:=List.pairwise_iff_getElem.1 hp c a hc ha q
     simp only [rB,cS,bne_iff_ne,ea,ec,fh.ix] at this
     exact this.1 e
   have hkj:k=j:=by
    apply Classical.byContradiction
    intro hne
    have hj':fh.op j∈s':=by
     rcases List.mem_append.1 hx with q|q
     ·obtain ⟨i,e⟩:=hT _ q; cases e
     ·rcases List.mem_cons.1 q with e|q
      ·injection e with e; exact absurd e.symm hne
      ·exact q
    have:=q4 _ hj'
    simp only [rB,cS,fh.ix] at this
    have h2:=hmin k (hopn k sm)
    rw [this.2] at h2; cases h2
   subst hkj
   have hdone: ∀ x∈T0,∃ i b,x=fh.take i∧(i,b)∈dn:=fun x hx'=>by
    obtain ⟨i,rfl⟩:=hT x hx'
    apply Classical.byContradiction
    intro q
    have hir:i∈j0 (T0++fh.op k::s') dn:=p5.2 ⟨⟨_,List.mem_append_left _ hx',rfl⟩,fun p hp' e=>q ⟨i,p.2,rfl,by rw [← e]; exact hp'⟩⟩
    have:=q3 _ hx' _ (cZ ..)
    simp only [rB,cS,fh.ix] at this
    have h2:=hmin i hir
    rw [this.2] at h2; cases h2
   obtain ⟨dn',L',C2,h1,h2,h3,h4,h5,h6⟩:=AJ T0 (fh.op k::s') dn L Y C hdone hp hn hm hy hl h
   refine HM (fun a hf=>BA h4 a hf) h6 (h1 o ho Y (dn'.map fun p=>AO p.1 p.2) K fun L3 C3 hC3 hpn hB3 hch=>?_)
   have hre:(j0 (T0++fh.op k::s') dn).filter (· != k)=j0 s' dn':=by
    unfold j0
    rw [List.map_append,List.filter_append,List.map_cons,List.filter_append]
    have e1:(List.map fh.ix T0).filter (fun i=> !(dn.map (·.1)).contains i)=[]:=by
     apply List.filter_eq_nil_iff.2
     intro z hz
     obtain ⟨x,hx',rfl⟩:=List.mem_map.1 hz
     obtain ⟨i,b,rfl,hb⟩:=hdone x hx'
     simp only [fh.ix,Bool.not_eq_true',Bool.not_eq_false,List.contains_iff_mem]
     exact List.mem_map_of_mem (f:=(·.1)) hb
    rw [e1]
    simp only [List.filter_nil,List.nil_append]
    have hk0:k ∉ dn.map (·.1):=fun q=>by
     obtain ⟨p,hp',e⟩:=List.mem_map.1 q
     exact hni p hp' e
    rw [List.filter_cons_of_pos (by simpa [fh.ix] using hk0),List.filter_cons_of_neg (by simp [fh.ix]),List.filter_filter]
    apply List.filter_congr
    intro z hz
    obtain ⟨y,hy',rfl⟩:=List.mem_map.1 hz
    have hz1:y.ix≠k:=fun e=>by
     have:=q4 y hy'
     simp only [rB,cS,bne_iff_ne,fh.ix] at this
     exact this.1 e.symm
    rw [Bool.eq_iff_iff]
    simp only [cS,bne_iff_ne,Bool.not_eq_true',← Bool.not_eq_true,List.contains_iff_mem]
    constructor
    ·rintro ⟨_,hq⟩ hc
     obtain ⟨p,hp',e⟩:=List.mem_map.1 hc
     exact hq (by rw [← e]; exact List.mem_map_of_mem (f:=(·.1)) ((h3 p).1 hp').1)
    ·intro hq
     refine ⟨hz1,fun hc=>?_⟩
     obtain ⟨p,hp',e⟩:=List.mem_map.1 hc
     apply hq
     rw [← e]
     refine List.mem_map_of_mem (f:=(·.1)) ((h3 p).2 ⟨hp',?_⟩)
     have ht:=hm p hp'
     rcases List.mem_append.1 ht with ht|ht
     ·exfalso
      have:=q3 _ ht _ (dY _ hy')
      simp only [rB,cS,bne_iff_ne,fh.ix] at this
      exact this.1 e
     ·exact ht
   have hnd:(j0 (T0++fh.op k::s') dn).Nodup:=by
    unfold j0
    refine List.Nodup.sublist List.filter_sublist ?_
    refine List.pairwise_map.2 (hp.imp fun {a c} q=>?_)
    simp only [rB,cS,bne_iff_ne] at q
    exact q.1
   refine hK _ _ (fun w hw=>hC3 w (hw.take (List.sublist_append_left _ _))) (fun q=>by cases q) ?_
   rw [hre]
   have hdn': ∀ p∈dn',fh.take p.1∈s':=fun p hp'=>by
    rcases List.mem_cons.1 ((h3 p).1 hp').2 with e|e
    ·cases e
    ·exact e
   refine pg hal n s' dn' L3 Y C3 (fun i hi=>hal' i (by simp [hi])) q5 ?_ h2 hdn' (fun p hp'=>hy p ((h3 p).1 hp').1) (fun i hi=>?_) (xy hB3) hC3 hch
   ·rw [← hre,← List.Nodup.erase_eq_filter hnd,List.length_erase_of_mem hi1,hlen]; rfl
   ·have:=List.all_eq_true.1 hpn _ (qN hi)
    simpa using this
/-- the rows, at any time; the others, one after the other -/
theorem H9 {tb rem:List Nat} {L:List (Nat×Value)} {C:List aq} (s:List fh) (B:List (Nat×Value)) (dO:Nat→Nat) (VO:Nat→Nat→Value) (AO:Nat→Nat→aq) {n:Nat} (htb:tb=[]) (hr:s.map fh.ix=rem) (hn:rem.length=n) (hp:MO (oW ops) dO s=true) (hl:((yn dO s).all fun d=>(L.lookup d).isNone)=true) (hB:B.map (fun p=>L.lookup p.1)=B.map (fun p=>some p.2)) (hC: ∀ w,St E.S E.w0 C w→St E.S E.w0 C' w)
 (hal: ∀ i,fh.take i∈s→Lz E ops D B dO VO AO i) (h:CH E ops D C' K0 B dO VO AO s L C):TN E ops D C' C1 (fun L C=>KJ E K0 D L C) tb n rem L C:=by
 subst htb hr
 have e:j0 s []=s.map fh.ix:=by unfold j0; simp
 have:=pg (C1:=C1) (fun i=> .inr trivial) n s [] L [] C hal (BD hp) (by rw [e]; exact hn) List.nodup_nil (fun p hp=>by cases hp) (fun p hp=>by cases hp) (fun i hi=>by
  have:=List.all_eq_true.1 hl _ (qN hi)
  simpa using this) (xy hB) hC h
 simpa [e] using this
theorem Kg {p:Nat→Prop}: ∀ i,fh.take i∈([]:List fh)→p i:=fun i h=>by cases h
theorem uH {p:Nat→Prop} {j:Nat} {s:List fh} (h: ∀ i,fh.take i∈s→p i): ∀ i,fh.take i∈fh.op j::s→p i:=fun i hi=>by
 rcases List.mem_cons.1 hi with e|hi
 ·cases e
 ·exact h i hi
theorem um {p:Nat→Prop} {j:Nat} {s:List fh} (hj:p j) (h: ∀ i,fh.take i∈s→p i): ∀ i,fh.take i∈fh.take j::s→p i:=fun i hi=>by
 rcases List.mem_cons.1 hi with e|hi
 ·cases e; exact hj
 ·exact h i hi
end
section
variable {E:e9} {ops:Array Oper} {D:List Deferred} {B:List (Nat×Value)} {dO:Nat→Nat} {VO:Nat→Nat→Value} {AO:Nat→Nat→aq}
variable {d:Nat} {ty:TypeId} {ps:String} {af:Array Edge}
theorem FP {i t e sz:Nat} (ho:ops[i]? =some ⟨some d,.buildSlice t 0 #[],ty,ps,af,none⟩) (ht:tE E.P t=some (e,sz)) (hd:Nat.blt d E.n=true) (h1:dO i=d) (h2: ∀ b,VO i b= .slice (some ⟨b,0,none⟩) 0 0) (h3: ∀ b,AO i b=br b e []):Lz E ops D B dO VO AO i:=fun o ho' L C K hB hk=>by
 rw [ho] at ho'; cases ho'
 exact Mh rfl ht hd fun b=>aB (by have:=hk b; rw [h1,h2,h3] at this; exact this)
theorem IW {i t e sz n:Nat} {xs:List Operand} {vs:List Value} {cs zs:List Value} (ho:ops[i]? =some ⟨some d,.buildSlice t n ((xs.zipIdx.map fun p=>(p.2,p.1)).toArray),ty,ps,af,none⟩) (ht:tE E.P t=some (e,sz)) (hz:tZ E.P e=some zs) (hx:evs B xs=some vs) (hn:xs.length=n) (hp:Nat.blt 0 (n*sz)=true) (hb:Nat.ble (n*sz) 16777216=true) (hv: ∀ v∈vs,v.cells.size=sz)
 (hc:(vs.map (·.cells.toList)).flatten=cs) (hd:Nat.blt d E.n=true) (h1:dO i=d) (h2: ∀ b,VO i b= .slice (some ⟨b,0,none⟩) n n) (h3: ∀ b,AO i b=br b e cs):Lz E ops D B dO VO AO i:=fun o ho' L C K hB hk=>by
 rw [ho] at ho'; cases ho'
 exact fc rfl ht hz (BR hB hx) hn hp hb hv hc hd fun b=>aB (by have:=hk b; rw [h1,h2,h3] at this; exact this)
end
section
variable {E:e9} {ops:Array Oper} {D:List Deferred} {C':List aq} {K0:Act→World→Prop} {B:List (Nat×Value)} {dO:Nat→Nat} {VO:Nat→Nat→Value} {AO:Nat→Nat→aq}
theorem v9 {j:Nat} {s:List fh} {L:List (Nat×Value)} {C:List aq} {o:Oper} (ho:ops[j]? =some o)
 (h: ∀ (Y:List (Nat×Value)) (X:List aq) (K:Act→World→Prop),(∀ L' C'',(∀ w,St E.S E.w0 C'' w→St E.S E.w0 C' w)→((yn dO s).all fun d=>(L'.lookup d).isNone)=true→B.map (fun p=>L'.lookup p.1)=B.map (fun p=>some p.2)→CH E ops D C' K0 B dO VO AO s L' C''→KJ E K D (L'++Y) (C''++X))→RJ E ops (NQ K) [o] D (L++Y) (C++X)):CH E ops D C' K0 B dO VO AO (.op j::s) L C:=fun o' ho'=>by
 rw [ho] at ho'; cases ho'
 exact h
theorem qt {s:List fh} {L Y:List (Nat×Value)} {C X:List aq} {K:Act→World→Prop} (hT: ∀ L' C'',(∀ w,St E.S E.w0 C'' w→St E.S E.w0 C' w)→((yn dO s).all fun d=>(L'.lookup d).isNone)=true→B.map (fun p=>L'.lookup p.1)=B.map (fun p=>some p.2)→CH E ops D C' K0 B dO VO AO s L' C''→KJ E K D (L'++Y) (C''++X)) (nL nC:Nat)
 (hL:L.take nL++Y=L) (hC:C.take nC++X=C) (h1: ∀ w,St E.S E.w0 (C.take nC) w→St E.S E.w0 C' w) (h2:((yn dO s).all fun d=>((L.take nL).lookup d).isNone)=true) (h3:B.map (fun p=>(L.take nL).lookup p.1)=B.map (fun p=>some p.2)) (h:CH E ops D C' K0 B dO VO AO s (L.take nL) (C.take nC)):RJ E ops (NQ K) [] D L C:=by
 have:=hT _ _ h1 h2 h3 h
 rw [hL,hC] at this
 exact aB this
theorem Ms {c:Code} {Q:dj} {L L':List (Nat×Value)} {C:List aq} (h:L'.map (fun p=>L.lookup p.1)=L'.map (fun p=>some p.2)) (k:WJ E c Q D L' C):WJ E c Q D L C:=fun a w hf hs=>k a w (BA (xy h) a hf) hs
theorem vJ: ∀ {C:List aq} {i:Nat} {A:aq},C[i]? =some A→C.Perm (A::C.eraseIdx i)
 |[],i,A,h=>by simp at h
 |x::C,0,A,h=>by
  simp at h; subst h
  exact List.Perm.refl _
 |x::C,i+1,A,h=>((vJ (C:=C) (i:=i) (by simpa using h)).cons x).trans (List.Perm.swap _ _ _)
theorem St.front {S:BS} {w0 w:World} {C:List aq} {A:aq} (i:Nat) (hi:C[i]? =some A) (h:St S w0 C w):St S w0 (A::C.eraseIdx i) w:=h.perm (vJ hi)
theorem BG {K:Act→World→Prop} {L:List (Nat×Value)} {C:List aq} {A:aq} (i:Nat) (hi:C[i]? =some A) (h:KJ E K D L (A::C.eraseIdx i)):KJ E K D L C:=fun a w hf hs=>h a w hf (hs.front i hi)
theorem qb {Q:dj} {rest:List Oper} {L:List (Nat×Value)} {C:List aq} {A:aq} (i:Nat) (hi:C[i]? =some A) (h:RJ E ops Q rest D L (A::C.eraseIdx i)):RJ E ops Q rest D L C:=fun a w hf hs=>h a w hf (hs.front i hi)
end
end
section
open Go.RowKit
theorem zz (l:List cT) (az:List j8): ∀ v∈(List.zipWith cT.cells l az).flatten,v.oneCell'=true:=by
 induction l generalizing az with
 |nil=>intro v hv; simp at hv
 |cons x l ih=>
  cases az with
  |nil=>intro v hv; simp at hv
  |cons a az=>
   intro v hv
   simp only [List.zipWith_cons_cons,List.flatten_cons,g4] at hv
   rcases hv with hv|hv
   ·simp only [cT.cells,vi.cells,dZ,List.not_mem_nil,or_false] at hv
    rcases hv with rfl|rfl|rfl<;>rfl
   ·exact ih az v hv
theorem HJ: ∀ (m:cT) (a:j8) (w:World),(∀ X∈cT.owns m a,X.holds w)→ ∀ X∈cT.fK m a,X.holds w:=fun m a w h X hX=>by
 simp only [cT.fK,dZ,List.not_mem_nil,or_false] at hX
 have h1:=qq (h (own a.1.1 a.1.2 lu 1 (m.fW.map iC)) (by simp [cT.owns]))
 have h2:=qq (h (own a.2.1.1 a.2.1.2 lu 1 (m.ic.map iC)) (by simp [cT.owns]))
 have h3:=qq (h (own a.2.2.1 a.2.2.2 lu 1 (m.lq.map iC)) (by simp [cT.owns]))
 rcases hX with rfl|rfl|rfl
 ·simpa using h1
 ·simpa using h2
 ·simpa using h3
theorem oj: ∀ (l:List cT) (az:List j8),(aU cT.owns l az).all (·.wr)=true
 |[],_=>rfl
 |_::_,[]=>rfl
 |x::l,a::az=>by
  simp only [aU,List.all_append,cS]
  exact ⟨rfl,oj l az⟩
theorem rj (l:List cT) (az:List j8):(bV (aU cT.owns l az)).wr=true:=oj l az
theorem FJ {l m:List cT} {az bz:List j8} (h:az.length=l.length):List.zipWith cT.cells (l++m) (az++bz)=List.zipWith cT.cells l az++List.zipWith cT.cells m bz:=List.zipWith_append h.symm
theorem rI {l:List cT} {az:List j8} (h:az.length=l.length):(List.zipWith cT.cells l az).length=l.length:=by rw [List.length_zipWith]; omega
/-- what is read of a thing that is tied, and frozen -/
theorem oI {C L:List aq} {a:OA} {c e sz n:Nat} {es:List (List Value)} (i:Nat) (hC:C[i]? =some (bV L).ro) (hm:own a c e sz es∈L) (hn:es.length=n):ji C (rd a n sz es).holds:=fun w hw=>by
 subst hn
 exact qq ((show (bV L).holds w from (hw _ (aw hC):(bV L).ro.holds w)).1 _ hm)
section
variable {E:e9} {ops:Array Oper} {Q:dj} {rest:List Oper} {D:List Deferred} {L:List (Nat×Value)} {C C1:List aq}
theorem St.JM {S:BS} {w0 w:World} {X C:List aq} {A:aq} (h:St S w0 (bV (X++[A])::C) w):St S w0 (A::bV X::C) w:=by
 have h1:=h.jr
 have h2:St S w0 (X++(A::C)) w:=by simpa using h1
 exact h2.tied.perm (List.Perm.swap _ _ _)
theorem St.merge {S:BS} {w0 w:World} {X Y C:List aq} (h:St S w0 (bV X::bV Y::C) w):St S w0 (bV (X++Y)::C) w:=by
 have h1:St S w0 (bV Y::(X++C)) w:=(h.jr).perm (List.perm_middle (a:=bV Y) (l₁:=X) (l₂:=C))
 have h2:St S w0 (Y++(X++C)) w:=h1.jr
 have h3:St S w0 ((X++Y)++C) w:=h2.perm (by rw [← List.append_assoc]; exact List.perm_append_comm.append_right _)
 exact h3.tied
end
section
variable {E:e9} {ops:Array Oper} {Q:dj} {rest:List Oper} {D:List Deferred} {L:List (Nat×Value)} {C:List aq}
theorem xE {A:aq} {X X':List aq} (e:X++[A]=X') (h:RJ E ops Q rest D L (bV X'::C)):RJ E ops Q rest D L (A::bV X::C):=fun a w hf hs=>h a w hf (hs.tie e)
theorem w4 {X:List aq} {A:aq} (h:RJ E ops Q rest D L (A::bV X::C)):RJ E ops Q rest D L (bV (X++[A])::C):=fun a w hf hs=>h a w hf hs.JM
theorem Fm {K:Act→World→Prop} {ms ns:List cT} {az bz:List j8} (hl:az.length=ms.length) (h:KJ E K D L (bV (aU cT.owns (ms++ns) (az++bz))::C)):KJ E K D L (bV (aU cT.owns ms az)::bV (aU cT.owns ns bz)::C):=fun a w hf hs=>h a w hf (by rw [lP hl.symm]; exact hs.merge)
end
/-- the head of the ways: the way that ends here, if it may -/
def vE (l:aV) (r:cq) (rs fs:List Int) (ra fa:RA) (hz:List j8) (LA:List aq):Prop:=
 ((r.ag.length:Int)-(cU rs).right≤l.iH∧ ∃ la:RA,hz=[(ra,fa,la)]∧LA=[own la.1 la.2 lu 1 ((iF l r rs).map iC)])∨(¬ (r.ag.length:Int)-(cU rs).right≤l.iH∧hz=[]∧LA=[])
theorem vE.len {l:aV} {r:cq} {rs fs:List Int} {ra fa:RA} {hz:List j8} {LA:List aq} (h:vE l r rs fs ra fa hz LA):hz.length=(fJ l r rs fs).length:=by
 unfold fJ
 rcases h with ⟨q,la,rfl,rfl⟩|⟨q,rfl,rfl⟩
 ·rw [if_pos q]; rfl
 ·rw [if_neg q]; rfl
theorem vE.wr {l:aV} {r:cq} {rs fs:List Int} {ra fa:RA} {hz:List j8} {LA:List aq} (h:vE l r rs fs ra fa hz LA):LA.all (·.wr)=true:=by
 rcases h with ⟨q,la,rfl,rfl⟩|⟨q,rfl,rfl⟩<;>rfl
theorem FH {S:BS} {w0 w:World} {l:aV} {r:cq} {rs fs:List Int} {ra fa:RA} {hz az:List j8} {LA:List aq} {R:List cT} {A:aq} (hh:vE l r rs fs ra fa hz LA)
 (h:St S w0 [bV [own ra.1 ra.2 lu 1 (rs.map iC),own fa.1 fa.2 lu 1 (fs.map iC)],A,bV LA,bV (aU cT.owns R az)] w):St S w0 [bV (aU cT.owns (fJ l r rs fs++R) (hz++az)++[A])] w:=by
 rw [lP hh.len.symm]
 have h0:St S w0 [own ra.1 ra.2 lu 1 (rs.map iC),own fa.1 fa.2 lu 1 (fs.map iC),A,bV LA,bV (aU cT.owns R az)] w:=h.jr
 rcases hh with ⟨q,la,rfl,rfl⟩|⟨q,rfl,rfl⟩
 ·unfold fJ
  rw [if_pos q]
  have h1:=(St.lH [3,0,1,2,4] rfl rfl h0).jr
  have h2:=(St.lH [4,1,2,0,3] rfl rfl h1).jr
  have h3:St S w0 (((aU cT.owns [(⟨rs,fs,iF l r rs⟩:cT)] [(ra,fa,la)]++aU cT.owns R az)++[A])++[]) w:=by
   rw [List.append_nil]
   refine h2.perm ?_
   show (aU cT.owns R az++(aU cT.owns [(⟨rs,fs,iF l r rs⟩:cT)] [(ra,fa,la)]++[A])).Perm _
   rw [← List.append_assoc]
   exact List.perm_append_comm.append_right _
  exact h3.tied
 ·unfold fJ
  rw [if_neg q]
  have h1:=(St.lH [4,2] rfl rfl h0).jr
  have h3:St S w0 (((aU cT.owns [] []++aU cT.owns R az)++[A])++[]) w:=by
   rw [List.append_nil]; exact h1
  exact h3.tied
theorem Fp {E:e9} {K:Act→World→Prop} {D:List Deferred} {L:List (Nat×Value)} {l:aV} {r:cq} {rs fs:List Int} {ra fa:RA} {hz az z:List j8} {LA:List aq} {R W:List cT} {A A':aq} (hh:vE l r rs fs ra fa hz LA) (hW:fJ l r rs fs++R=W) (hz':hz++az=z) (hA:A=A')
 (h:KJ E K D L [bV (aU cT.owns W z++[A'])]):KJ E K D L [bV [own ra.1 ra.2 lu 1 (rs.map iC),own fa.1 fa.2 lu 1 (fs.map iC)],A,bV LA,bV (aU cT.owns R az)]:=fun a w hf hs=>h a w hf (by subst hW hz' hA; exact FH hh hs)
theorem Jw {E:e9} {K:Act→World→Prop} {D:List Deferred} {L:List (Nat×Value)} {X A:aq} {W:List cT} (h:KJ E K D L [bV (aU cT.owns W []++[A])]):KJ E K D L [X,A]:=fun a w hf hs=>h a w hf (by
 have h1:St E.S E.w0 [A] w:=St.lH [1] rfl rfl hs
 have h2:St E.S E.w0 (([]++[A])++[]) w:=h1
 have e:aU cT.owns W []=[]:=by cases W<;>rfl
 rw [e]
 exact h2.tied)
theorem C7 {E:e9} {K:Act→World→Prop} {D:List Deferred} {L:List (Nat×Value)} {C:List aq} (e sz:Nat) (k:KJ E K D L (own none 0 e sz []::C)):KJ E K D L C:=fun a w hf hs=>k a w hf (hs.rq e sz)
end
section
theorem TN.sub {E:e9} {ops:Array Oper} {Q:dj} {D:List Deferred} {C' C1 C:List aq} {tb rem:List Nat}: ∀ {n:Nat} {L L':List (Nat×Value)},dK L L'→TN E ops D C' C1 (fun L C=>KJ E (Q .normal) D L C) tb n rem L' C→TN E ops D C' C1 (fun L C=>KJ E (Q .normal) D L C) tb n rem L C:=by
 intro n
 cases n with
 |zero=>intro L L' hs h; exact jz hs (fun _ h=>h) h
 |succ n=>intro L L' hs h i hi o ho K hK; exact I8 hs (fun _ h=>h) (h i hi o ho K hK)
theorem HS {E:e9} {ops:Array Oper} {Q:dj} {D:List Deferred} {C' C1 C:List aq} {bs:List Bool} {os:List Oper} {L:List (Nat×Value)} {tb rem:List Nat} {n:Nat} {t:Nat} {b:Bool} (h:L.lookup t=some (.bool b))
 (h1:b=true→o0 E ops D C' C1 (fun L'=>TN E ops D C' C1 (fun L C=>KJ E (Q .normal) D L C) tb n rem L' C) bs os ((t,.bool true)::L)) (h2:b=false→o0 E ops D C' C1 (fun L'=>TN E ops D C' C1 (fun L C=>KJ E (Q .normal) D L C) tb n rem L' C) bs os ((t,.bool false)::L)):
 o0 E ops D C' C1 (fun L'=>TN E ops D C' C1 (fun L C=>KJ E (Q .normal) D L C) tb n rem L' C) bs os L:=by
 have hsub: ∀ v:Bool,b=v→dK L ((t,.bool v)::L):=fun v hv=>dK.cons (hv▸h) (fun _ _ h=>h)
 cases b
 ·exact o0.mono (fun _ _=>TN.sub) (hsub _ rfl) (h2 rfl)
 ·exact o0.mono (fun _ _=>TN.sub) (hsub _ rfl) (h1 rfl)
theorem K6 {E:e9} {ops:Array Oper} {Q:dj} {D:List Deferred} {L:List (Nat×Value)} {C1 C2 C:List aq} {t n:Nat} {b:Bool} {bs:List Bool} {os:List Oper} {tb rem:List Nat} (h:L.lookup t=some (.bool b)) (h2:b=false→o0 E ops D C2 C1 (fun L2=>TN E ops D C2 C1 (fun L C=>KJ E (Q .normal) D L C) tb n rem L2 C) bs os ((t,.bool false)::L)) (h1:b=true→o0 E ops D C2 C1 (fun L2=>TN E ops D C2 C1 (fun L C=>KJ E (Q .normal) D L C) tb n rem L2 C) bs os ((t,.bool true)::L)):o0 E ops D C2 C1 (fun L2=>TN E ops D C2 C1 (fun L C=>KJ E (Q .normal) D L C) tb n rem L2 C) bs os L:=HS h h1 h2
end
section
open Go.RowKit
theorem Hs (l:aV) (kA:OA) (kC:Nat) (az:List RA) (cA:OA) (cC:Nat) (bA:OA) (bC:Nat) (r:cq) (sgA:OA) (sgC:Nat) (hin:eN l az) (hsl:r.ag.length≤1000000):
 eu Tryz.prog 166 [(vA (cE.cells (jx l kA kC cA cC bA bC))),(vA (eE.cells (ke r sgA sgC)))] [(rd kA l.aH.length 9 (l.aH.map ah.cells)),(rd cA l.aj.length 2 (List.zipWith al.cells l.aj az)),(du (aU al.fK l.aj az)),(rd bA l.ab.length 4 (l.ab.map bx.cells)),(rd sgA r.ag.length 2 (r.ag.map aM.cells))] (vB (decide (ed l r))):=by
 have htk:=hin.r_
 have hck:=hin.se
 have has:=hin.qa
 have hbm:=hin.sb
 refine bu kr Tryz.func166 rfl rfl fun w0 Q hQ hN=>?_
 try dsimp only
 refine WS fun _ hK1=>fP rfl fun b2=>fP rfl fun b3=>rP 1 [] mn ?_
 refine RK hK1<|ai fun _ hK4=>WS fun _ hK5=>rP 2 [] (mc 0 rfl mn) ?_
 refine rS (CL (ij r.Start 0 86400000) (aT) rfl)<|rP 2 [] mn ?_
 refine c8 (t:=11) rfl (bk fun h11=>?_) (bj fun h11=>?_)
 ·refine rP 13 [] mn ?_
  refine RK hK5<|aI rfl<|WS fun _ hK6=>rP 1 [] mn ?_
  refine RK hK6<|an<|Q1 hQ rfl rfl rfl ?_
  first|exact cB (a7 fun q=>by have q1:=q.time; have q2:=q.len; omega).symm|exact cB (bW (kB om om hl4_1 om)).symm|exact cB (a7 fun q=>by have q1:=q.sig i x hx; unfold ib iN at q1; first|omega|(rw [iK om hy] at q1; omega)).symm
 refine rP 4 [] (mc 0 rfl mn) ?_
 refine rS (CL (ij r.fR r.Start 86400000) (aT) rfl)<|rP 3 [] mn ?_
 refine c8 (t:=19) rfl (bk fun h19=>?_) (bj fun h19=>?_)
 ·refine rP 5 [] mn ?_
  refine RK hK5<|aI rfl<|WS fun _ hK7=>rP 1 [] mn ?_
  refine RK hK7<|an<|Q1 hQ rfl rfl rfl ?_
  first|exact cB (a7 fun q=>by have q1:=q.time; have q2:=q.len; omega).symm|exact cB (bW (kB om om hl4_1 om)).symm|exact cB (a7 fun q=>by have q1:=q.sig i x hx; unfold ib iN at q1; first|omega|(rw [iK om hy] at q1; omega)).symm
 refine rP 5 [] (mc 0 rfl mn) ?_
 refine RK hK5 ?_
 refine cP rfl (aP fun h24=>?_) (aQ fun h24=>?_)
 ·refine WS fun _ hK8=>?_
  refine rP 1 [] mn ?_
  refine RK hK8<|an<|Q1 hQ rfl rfl rfl ?_
  first|exact cB (a7 fun q=>by have q1:=q.time; have q2:=q.len; omega).symm|exact cB (bW (kB om om hl4_1 om)).symm|exact cB (a7 fun q=>by have q1:=q.sig i x hx; unfold ib iN at q1; first|omega|(rw [iK om hy] at q1; omega)).symm
 refine WK hK4<|ai fun _ hK9=>WS fun _ hK10=>rP 1 [] mn ?_
 refine RK hK10<|av ?_
 have hinit:(0≤r.ag.length)∧(pq l r.ag 0):=by exact ⟨Nat.zero_le _,w6⟩
 refine cp (ι:={z:Nat // (z≤r.ag.length)∧(pq l r.ag z)}) (fun z=>[(2,(vP b2)),(3,(vP b3)),(5,(vI ((z.1:Nat):Int)))]) (fun z=>[(br b3 74 (eE.cells (ke r sgA sgC))),(br b2 28 (cE.cells (jx l kA kC cA cC bA bC))),(rd kA l.aH.length 9 (l.aH.map ah.cells)).ro,(rd cA l.aj.length 2 (List.zipWith al.cells l.aj az)).ro,(du (aU al.fK l.aj az)).ro,(rd bA l.ab.length 4 (l.ab.map bx.cells)).ro,(rd sgA r.ag.length 2 (r.ag.map aM.cells)).ro]) (fun z=>r.ag.length-z.1) ⟨0,hinit⟩ (aL rfl) (aG [0,1,2,3,4,5,6]) ?_
 clear hinit
 rintro ⟨i,⟨hl4_0,hl4_1⟩⟩ J11 hJ11
 try dsimp only
 refine ai fun _ hK12=>WS fun _ hK13=>rP 5 [] (mc 0 rfl mn) ?_
 refine RK hK13 ?_
 refine bM rfl (aQ fun h14=>?_) (aP fun h14=>?_)
 ·refine bp ?_
  refine ae<|ae<|au<|KK hK9<|WS fun _ hK28=>rP 1 [] mn ?_
  refine RK hK28<|an<|Q1 hQ rfl rfl rfl ?_
  first|exact cB (a7 fun q=>by have q1:=q.time; have q2:=q.len; omega).symm|exact cB (bW (kB om om hl4_1 om)).symm|exact cB (a7 fun q=>by have q1:=q.sig i x hx; unfold ib iN at q1; first|omega|(rw [iK om hy] at q1; omega)).symm
 refine WK hK12<|ai fun _ hK15=>av<|WS fun _ hK16=>rP 3 [] (mc 0 rfl mn) ?_
 obtain ⟨x,hx⟩:=aO r.ag i om
 have hxm:=bI aM.cells hx
 refine rS (IA i rfl (aA 6 rfl) A_ dc om om)<|rS (n9 i 0 (aM.cells x) rfl bJ (aA 6 rfl) hxm rfl dc rfl rfl)<|AL rfl EU fun b17=>f_ rfl uU rfl<|RK hK16<|ai fun _ hK18=>WS fun _ hK19=>rP 6 [0,1] (mc 0 rfl (mc 2 rfl mn)) ?_
 refine rS (CL (ij x.fO 0 (((l.ab.length:Nat):Int)-1)) (aT) rfl)<|rP 2 [] mn ?_
 refine c8 (t:=45) rfl (bk fun h45=>?_) (bj fun h45=>?_)
 ·refine rP 5 [] mn ?_
  refine RK hK19<|aI rfl<|WS fun _ hK20=>rP 1 [] mn ?_
  refine RK hK20<|an<|Q1 hQ rfl rfl rfl ?_
  first|exact cB (a7 fun q=>by have q1:=q.time; have q2:=q.len; omega).symm|exact cB (bW (kB om om hl4_1 om)).symm|exact cB (a7 fun q=>by have q1:=q.sig i x hx; unfold ib iN at q1; first|omega|(rw [iK om hy] at q1; omega)).symm
 refine rP 2 [] (mc 0 rfl mn) ?_
 refine rS (CL (ij x.Read 0 86400000) (aT) rfl)<|rP 2 [] mn ?_
 refine RK hK19 ?_
 refine cP rfl (bk fun h50=>?_) (bj fun h50=>?_)
 ·refine WS fun _ hK21=>?_
  refine rP 1 [] mn ?_
  refine RK hK21<|an<|Q1 hQ rfl rfl rfl ?_
  first|exact cB (a7 fun q=>by have q1:=q.time; have q2:=q.len; omega).symm|exact cB (bW (kB om om hl4_1 om)).symm|exact cB (a7 fun q=>by have q1:=q.sig i x hx; unfold ib iN at q1; first|omega|(rw [iK om hy] at q1; omega)).symm
 refine WK hK18<|ai fun _ hK22=>dC cD 38 kr<|dP 3 [] mn ?_
 refine jT (t:=53) rfl (aQ fun h53=>?_) (aP fun h53=>?_)
 ·refine dP 35 [] mn ?_
  refine cO<|RK hK22<|aW rfl<|bZ<|ax<|KK hK15<|ak<|rP 3 [] mn ?_
  refine aB ?_
  have hb27:(vI (((i+1):Nat):Int))=(vI (((i:Nat):Int)+1)):=by exact cI om
  refine aN (hJ11 ⟨(i+1),⟨om,k6 hl4_1 hx (by unfold ib iN; first|(rw [sP om]; simp only; omega)|(rw [iK om hy]; omega))⟩⟩ _ _ _ rfl os (dK.cons rfl<|dK.cons rfl<|aY rfl hb27<|dK.nil _) (aG [1,2,3,4,5,6,7]))
 refine dP 6 [0,1] (mc 0 rfl (mc 1 rfl mn)) ?_
 obtain ⟨y,hy⟩:=aO r.ag (i-1) om
 have hym:=bI aM.cells hy
 refine dS (IA (i-1) rfl (aA 7 rfl) A_ dc om om)<|dS (mT ((i-1)*2) rfl (aA 7 rfl) (Nat.mul_pos om dc) gp rfl)<|dS (gU (i-1) 0 (vI y.fO) rfl bJ (aA 7 rfl) hym rfl dc rfl)<|dP 2 [] mn ?_
 refine iL (t:=64) rfl (aP fun h64=>?_) (aQ fun h64=>?_)
 ·refine dP 24 [] mn ?_
  refine cO<|RK hK22<|aI rfl<|WS fun _ hK23=>rP 1 [] mn ?_
  refine RK hK23<|an<|Q1 hQ rfl rfl rfl ?_
  first|exact cB (a7 fun q=>by have q1:=q.time; have q2:=q.len; omega).symm|exact cB (bW (kB om om hl4_1 om)).symm|exact cB (a7 fun q=>by have q1:=q.sig i x hx; unfold ib iN at q1; first|omega|(rw [iK om hy] at q1; omega)).symm
 refine dP 6 [0,1] (mc 0 rfl (mc 1 rfl mn)) ?_
 refine dS (IA (i-1) rfl (aA 7 rfl) A_ dc om om)<|dS (mT ((i-1)*2) rfl (aA 7 rfl) (Nat.mul_pos om dc) gp rfl)<|dS (gU (i-1) 0 (vI y.fO) rfl bJ (aA 7 rfl) hym rfl dc rfl)<|dP 2 [] mn ?_
 refine jT (t:=75) rfl (aQ fun h75=>?_) (aP fun h75=>?_)
 ·refine dP 13 [] mn ?_
  refine cO<|RK hK22<|aW rfl<|bZ<|ax<|KK hK15<|ak<|rP 3 [] mn ?_
  refine aB ?_
  have hb26:(vI (((i+1):Nat):Int))=(vI (((i:Nat):Int)+1)):=by exact cI om
  refine aN (hJ11 ⟨(i+1),⟨om,k6 hl4_1 hx (by unfold ib iN; first|(rw [sP om]; simp only; omega)|(rw [iK om hy]; omega))⟩⟩ _ _ _ rfl os (dK.cons rfl<|dK.cons rfl<|aY rfl hb26<|dK.nil _) (aG [1,2,3,4,5,6,7]))
 refine dP 6 [0,1] (mc 0 rfl (mc 1 rfl mn)) ?_
 refine dS (IA (i-1) rfl (aA 7 rfl) A_ dc om om)<|dS (mT (((i-1)*2)+1) rfl (aA 7 rfl) (Nat.mul_pos om dc) gp rfl)<|dS (gU (i-1) 1 (vI y.Read) rfl bJ (aA 7 rfl) hym rfl dc rfl)<|dP 4 [] mn ?_
 refine cO<|RK hK22 ?_
 refine cP rfl (aP fun h88=>?_) (aQ fun h88=>?_)
 ·refine WS fun _ hK24=>?_
  refine rP 1 [] mn ?_
  refine RK hK24<|an<|Q1 hQ rfl rfl rfl ?_
  first|exact cB (a7 fun q=>by have q1:=q.time; have q2:=q.len; omega).symm|exact cB (bW (kB om om hl4_1 om)).symm|exact cB (a7 fun q=>by have q1:=q.sig i x hx; unfold ib iN at q1; first|omega|(rw [iK om hy] at q1; omega)).symm
 refine bZ<|ax<|KK hK15<|ak<|rP 3 [] mn ?_
 refine aB ?_
 have hb25:(vI (((i+1):Nat):Int))=(vI (((i:Nat):Int)+1)):=by exact cI om
 refine aN (hJ11 ⟨(i+1),⟨om,k6 hl4_1 hx (by unfold ib iN; first|(rw [sP om]; simp only; omega)|(rw [iK om hy]; omega))⟩⟩ _ _ _ rfl os (dK.cons rfl<|dK.cons rfl<|aY rfl hb25<|dK.nil _) (aG [1,2,3,4,5,6,7]))
end
section
open Go.RowKit
theorem HO (l:aV) (kA:OA) (kC:Nat) (az:List RA) (cA:OA) (cC:Nat) (bA:OA) (bC:Nat) (r:cq) (sgA:OA) (sgC:Nat) (hin:eN l az) (hle:dh l=0) (hr:ed l r):
 oY Tryz.prog 168 [(vA (cE.cells (jx l kA kC cA cC bA bC))),(vA (eE.cells (ke r sgA sgC)))] [(rd kA l.aH.length 9 (l.aH.map ah.cells)),(rd cA l.aj.length 2 (List.zipWith al.cells l.aj az)),(du (aU al.fK l.aj az)),(rd bA l.ab.length 4 (l.ab.map bx.cells)),(rd sgA r.ag.length 2 (r.ag.map aM.cells))] (fun (x:(OA)×Nat×(OA)×Nat×(OA)×Nat)=>(vA (eY.cells (eY.mk (bB.mk x.1 ((bS l l.ab.length).length) x.2.1) (bB.mk x.2.2.1 ((cW l r r.ag.length).length) x.2.2.2.1) (bB.mk x.2.2.2.2.1 ((de l r r.ag.length).length) x.2.2.2.2.2))))) (fun (x:(OA)×Nat×(OA)×Nat×(OA)×Nat)=>True) (fun (x:(OA)×Nat×(OA)×Nat×(OA)×Nat)=>[(own x.1 x.2.1 3 1 ((bS l l.ab.length).map iC)),(own x.2.2.1 x.2.2.2.1 47 2 ((cW l r r.ag.length).map aa.cells)),(own x.2.2.2.2.1 x.2.2.2.2.2 4 1 ((de l r r.ag.length).map iw))]):=by
 have htk:=hin.r_
 have hck:=hin.se
 have has:=hin.qa
 have hbm:=hin.sb
 obtain ⟨htr,hok⟩:=gr hle
 have hhd:=hok.head
 unfold dU at hhd
 have hrl:=hr.len
 have hrt:=hr.time
 refine ff kr Tryz.func168 rfl rfl fun w0 Q hQ hN=>?_
 try dsimp only
 refine WS fun _ hK1=>fP rfl fun b2=>fP rfl fun b3=>AL rfl IU fun b4=>RK hK1<|WS fun _ hK5=>AL rfl IU fun b6=>RK hK5<|ai fun _ hK7=>WS fun _ hK8=>?_
 refine rP 1 [] mn ?_
 refine RK hK8<|av<|fI 3 1 ?_
 have hinit:(0≤l.ab.length):=by exact Nat.zero_le _
 refine cp (ι:={z:Nat×(OA)×Nat // (z.1≤l.ab.length)}) (fun z=>[(2,(vP b2)),(3,(vP b3)),(4,(vP b4)),(5,(vP b6)),(6,(vI ((z.1.1:Nat):Int)))]) (fun z=>[(own z.1.2.1 z.1.2.2 3 1 ((bS l z.1.1).map iC)),(br b6 232 (eY.cells (eY.mk (bB.mk z.1.2.1 ((bS l z.1.1).length) z.1.2.2) (bB.mk none 0 0) (bB.mk none 0 0)))),(br b4 232 (eY.cells (eY.mk (bB.mk none 0 0) (bB.mk none 0 0) (bB.mk none 0 0)))),(br b3 74 (eE.cells (ke r sgA sgC))),(br b2 28 (cE.cells (jx l kA kC cA cC bA bC))),(rd kA l.aH.length 9 (l.aH.map ah.cells)).ro,(rd cA l.aj.length 2 (List.zipWith al.cells l.aj az)).ro,(du (aU al.fK l.aj az)).ro,(rd bA l.ab.length 4 (l.ab.map bx.cells)).ro,(rd sgA r.ag.length 2 (r.ag.map aM.cells)).ro]) (fun z=>l.ab.length-z.1.1) ⟨(0,none,0),hinit⟩ (aL rfl) (aG [0,1,2,3,4,5,6,7,8,9]) ?_
 clear hinit
 rintro ⟨⟨b,a,c⟩,hl3_0⟩ J9 hJ9
 try dsimp only at hl3_0
 try dsimp only
 refine ai fun _ hK10=>WS fun _ hK11=>rP 5 [] (mc 4 rfl mn) ?_
 refine RK hK11 ?_
 refine cP rfl (aP fun h12=>?_) (aQ fun h12=>?_)
 ·refine WK hK10 ?_
  refine ai fun _ hK13=>av<|ep cD [5,6,8] [1] [0] [2,3,4,5,6,7,8,9] [0,1,2,3,4,5,6,7,8,9] rfl rfl rfl rfl rfl<|eS rfl (FA 0 rfl gp rfl)<|fS rfl (L1 (vS a ((bS l b).length) c) 1 rfl bJ rfl rfl)<|eS rfl (LW 2 rfl bJ rfl rfl)<|eS rfl (MV rfl) ?_
  have hlb:=ml htr hok (i:=b) om
  refine eS rfl (CL (F3 l kA kC az cA cC bA bC ((b:Nat):Int) hin sd sd sd) (bh [3,4,5,6]) rfl)<|eS rfl (FA 0 rfl gp rfl)<|fp rfl<|l8 rfl fun T14 hT14=>fc (xs:=[.tmp 21]) (cs:=[(vI (dE l ((b:Nat):Int).toNat))]) rfl dB lT rfl rfl rfl rfl (by simp [Value.cells]) rfl rfl fun b15=>?_
  refine aB (hT14 _ _ (aG [3,4,5,6,7,8,9,10]) (aG [1,2,3,4,5,6,7,8,9,10]) ?_)
  refine cr rfl fun T16 hT16=>er (es2:=(List.map iC (bS l (b+1)))) (m':=(bS l (b+1)).length) 1 rfl rfl rfl qe rfl rfl sm (a_ (es:=List.map iC [(dE l ((b:Nat):Int).toNat)]) 0 rfl rfl (by simp [bT]) rfl) (kK _) (by simp only [dQ]; omega) (by simp only [maxLen,dQ]; omega) (by rw [tD]; simp) sm rfl fun a17 c18=>?_
  try dsimp only
  refine aB (hT16 _ _ (aG [3,4,5,6,7,8,9,10]) ?_)
  refine cr rfl fun T19 hT19=>N2 (eY.cells (eY.mk (bB.mk a17 ((bS l (b+1)).length) c18) (bB.mk none 0 0) (bB.mk none 0 0))) rfl Ho rfl rfl ?_
  refine aB (hT19 _ _ (aG [3,4,5,6,7,8,9,10]) ?_)
  refine gh rfl<|ax<|KK hK13<|ak<|rP 3 [] mn ?_
  refine aB ?_
  have hb20:(vI (((b+1):Nat):Int))=(vI (((b:Nat):Int)+1)):=by exact cI om
  refine aN (hJ9 ⟨((b+1),a17,c18),(by first|omega|(simp only []; omega))⟩ _ _ _ rfl os (cv 4<|aY rfl hb20<|dK.nil _) (aG [1,2,3,4,5,6,7,8,9,10]))
 refine bp<|ae<|ae<|au<|KK hK7<|ai fun _ hK21=>WS fun _ hK22=>?_
 rw [show bS l b=(bS l l.ab.length) from by rw [show b=l.ab.length by omega]]
 refine rP 1 [] mn ?_
 refine RK hK22<|av<|fI 47 2<|fI 4 1 ?_
 have hinit:(0≤r.ag.length):=by exact Nat.zero_le _
 refine cp (ι:={z:Nat×(OA)×Nat×(OA)×Nat // (z.1≤r.ag.length)}) (fun z=>[(2,(vP b2)),(3,(vP b3)),(4,(vP b4)),(5,(vP b6)),(7,(vI ((z.1.1:Nat):Int)))]) (fun z=>[(own z.1.2.2.2.1 z.1.2.2.2.2 4 1 ((de l r z.1.1).map iw)),(own z.1.2.1 z.1.2.2.1 47 2 ((cW l r z.1.1).map aa.cells)),(own a c 3 1 ((bS l l.ab.length).map iC)),(br b6 232 (eY.cells (eY.mk (bB.mk a ((bS l l.ab.length).length) c) (bB.mk z.1.2.1 ((cW l r z.1.1).length) z.1.2.2.1) (bB.mk z.1.2.2.2.1 ((de l r z.1.1).length) z.1.2.2.2.2)))),(br b4 232 (eY.cells (eY.mk (bB.mk none 0 0) (bB.mk none 0 0) (bB.mk none 0 0)))),(br b3 74 (eE.cells (ke r sgA sgC))),(br b2 28 (cE.cells (jx l kA kC cA cC bA bC))),(rd kA l.aH.length 9 (l.aH.map ah.cells)).ro,(rd cA l.aj.length 2 (List.zipWith al.cells l.aj az)).ro,(du (aU al.fK l.aj az)).ro,(rd bA l.ab.length 4 (l.ab.map bx.cells)).ro,(rd sgA r.ag.length 2 (r.ag.map aM.cells)).ro]) (fun z=>r.ag.length-z.1.1) ⟨(0,none,0,none,0),hinit⟩ (aL rfl) (aG [0,1,2,3,4,5,6,7,8,9,10,11]) ?_
 clear hinit
 rintro ⟨⟨i,ta,tc,sa,sc⟩,hl7_0⟩ J23 hJ23
 try dsimp only at hl7_0
 try dsimp only
 refine ai fun _ hK24=>WS fun _ hK25=>rP 5 [] (mc 5 rfl mn) ?_
 refine RK hK25 ?_
 refine bM rfl (aQ fun h26=>?_) (aP fun h26=>?_)
 ·refine bp ?_
  refine ae<|ae<|au<|KK hK21<|WS fun _ hK40=>?_
  rw [show cW l r i=(cW l r r.ag.length) from by rw [show i=r.ag.length by omega]]
  rw [show de l r i=(de l r r.ag.length) from by rw [show i=r.ag.length by omega]]
  refine rP 1 [] (mc 3 rfl mn) ?_
  refine Kw rfl L_ rfl<|RK hK40<|an ?_
  refine hQ _ _ _ (aZ (vs:=[(vA (eY.cells (eY.mk (bB.mk a ((bS l l.ab.length).length) c) (bB.mk ta ((cW l r r.ag.length).length) tc) (bB.mk sa ((de l r r.ag.length).length) sc))))]) ⟨⟨_,rfl,.inl ⟨_,_,bJ,bQ (vs:=(eY.cells (eY.mk (bB.mk a ((bS l l.ab.length).length) c) (bB.mk ta ((cW l r r.ag.length).length) tc) (bB.mk sa ((de l r r.ag.length).length) sc)))) 4 rfl rfl,rfl,rfl⟩⟩,trivial⟩ fun w hs=>ej (a,c,ta,tc,sa,sc) [2,1,0] ?_ ?_ rfl rfl rfl hs)
  ·rfl
  ·trivial
 refine WK hK24<|ai fun _ hK27=>av<|ai fun _ hK28=>ep cD [10,11] [] [] [0,1,2,3,4,5,6,7,8,9,10,11] [] rfl rfl rfl rfl rfl<|eS rfl (LW 6 rfl bJ rfl rfl)<|eS rfl (FA 2 rfl gp rfl)<|eS rfl (L1 (vS sgA r.ag.length sgC) 5 rfl bJ rfl rfl)<|eS rfl (MV rfl) ?_
 obtain ⟨s,hs⟩:=aO r.ag i om
 have hsm:=bI aM.cells hs
 refine eS rfl (IA i rfl (aA 11 rfl) A_ dc om om)<|eS rfl (n9 i 0 (aM.cells s) rfl bJ (aA 11 rfl) hsm rfl dc rfl rfl) ?_
 have hsg:=(hr.sig i s hs).1
 refine eS rfl (CL (Hy l kA kC az cA cC bA bC s hin sd (by exact hsg)) (bh [7,8,9,10]) rfl)<|eS rfl (MV rfl)<|eS rfl (EX rfl)<|eS rfl (EX rfl)<|eS rfl (AG rfl)<|fp rfl<|cr rfl fun T29 hT29=>AL rfl cV fun b30=>?_
 refine aB (hT29 _ _ (aG [1,2,3,4,5,6,7,8,9,10,11,12]) ?_)
 refine cr rfl fun T31 hT31=>f_ rfl bY rfl ?_
 refine aB (hT31 _ _ (aG [1,2,3,4,5,6,7,8,9,10,11,12]) ?_)
 refine gh rfl<|KK hK28<|WS fun _ hK32=>rP 3 [0,1] (mc 4 rfl (mc 0 rfl mn)) ?_
 refine fc (xs:=[.tmp 44]) (cs:=(aa.cells (cH l s))) rfl jF cV rfl rfl rfl rfl (by simp [Value.cells,aa.aX]) rfl rfl fun b33=>er (es2:=(List.map aa.cells (cW l r (i+1)))) (m':=(cW l r (i+1)).length) 3 rfl rfl rfl Ar rfl rfl sm (a_ (es:=List.map aa.cells [(cH l s)]) 0 rfl rfl (by simp [aa.aX]) rfl) (gM _) (by rw [pO om]; omega) (by rw [pO om]; simp only [maxLen]; omega) (by rw [Ai hs]; simp) sm rfl fun a34 c35=>?_
 try dsimp only
 refine rP 1 [] mn ?_
 refine Of (eY.cells (eY.mk (bB.mk a ((bS l l.ab.length).length) c) (bB.mk a34 ((cW l r (i+1)).length) c35) (bB.mk sa ((de l r i).length) sc))) rfl NN rfl rfl<|RK hK32<|ak<|rP 3 [] (mc 5 rfl mn) ?_
 refine fc (xs:=[.tmp 50]) (cs:=[(vB (decide ((cH l s).Lo≤(cH l s).Hi)))]) rfl Cm N_ rfl rfl rfl rfl (by simp [Value.cells]) rfl rfl fun b36=>er (es2:=(List.map iw (de l r (i+1)))) (m':=(de l r (i+1)).length) 3 rfl rfl rfl I1 rfl rfl sm (a_ (es:=List.map iw [(decide ((cH l s).Lo≤(cH l s).Hi))]) 0 rfl rfl (by simp [xX]) rfl) (CF _) (by rw [sY om]; omega) (by rw [sY om]; simp only [maxLen]; omega) (by rw [Bf hs]; simp) sm rfl fun a37 c38=>?_
 try dsimp only
 refine rP 1 [] mn ?_
 refine Oj (eY.cells (eY.mk (bB.mk a ((bS l l.ab.length).length) c) (bB.mk a34 ((cW l r (i+1)).length) c35) (bB.mk a37 ((de l r (i+1)).length) c38))) rfl Ma rfl rfl<|aB<|ax<|KK hK27<|ak<|rP 2 [] mn ?_
 refine rP 1 [] mn ?_
 refine aB ?_
 have hb39:(vI (((i+1):Nat):Int))=(vI (((i:Nat):Int)+1)):=by exact cI om
 refine aN (hJ23 ⟨((i+1),a34,c35,a37,c38),(by first|omega|(simp only []; omega))⟩ _ _ _ rfl os (cv 4<|aY rfl hb39<|dK.nil _) (aG [3,4,5,6,7,8,9,10,11,12,13,14]))
theorem Eh (r:cq) (sgA:OA) (sgC:Nat) (l:aV) (wA:OA) (wC:Nat) (tA:OA) (tC:Nat) (bA:OA) (bC:Nat) (rs:List Int) (rsA:OA) (rsC:Nat) (hle:dh l=0) (hr:ed l r) (hn:rs.length≤l.ab.length) (hrs: ∀ x∈rs,0≤x→x<(r.ag.length:Int)):
 oY Tryz.prog 174 [(vA (eE.cells (ke r sgA sgC))),(vA (eY.cells (eY.mk (bB.mk wA ((bS l l.ab.length).length) wC) (bB.mk tA ((cW l r r.ag.length).length) tC) (bB.mk bA ((de l r r.ag.length).length) bC)))),(vS rsA rs.length rsC)] [(rd sgA r.ag.length 2 (r.ag.map aM.cells)),(rd wA ((bS l l.ab.length).length) 1 ((bS l l.ab.length).map iC)),(rd tA ((cW l r r.ag.length).length) 2 ((cW l r r.ag.length).map aa.cells)),(rd bA ((de l r r.ag.length).length) 1 ((de l r r.ag.length).map iw)),(rd rsA rs.length 1 (rs.map iC))] (fun (x:(OA)×Nat)=>(vS x.1 ((iF l r rs).length) x.2)) (fun (x:(OA)×Nat)=>True) (fun (x:(OA)×Nat)=>[(own x.1 x.2 3 1 ((iF l r rs).map iC))]):=by
 obtain ⟨htr,hok⟩:=gr hle
 have hhd:=hok.head
 unfold dU at hhd
 have hrl:=hr.len
 have hrt:=hr.time
 have hkb:=Cg (l:=l) (rs:=rs) ⟨om,om⟩ (fun b hb=>by have:=ml htr hok (i:=b) om; omega) hrs
 have hll:=dQ (l:=l) (n:=l.ab.length)
 have htl:=pO (l:=l) (Nat.le_refl r.ag.length)
 refine ff kr Tryz.func174 rfl rfl fun w0 Q hQ hN=>?_
 try dsimp only
 refine WS fun _ hK1=>fP rfl fun b2=>fP rfl fun b3=>rP 1 [] mn ?_
 refine RK hK1<|WS fun _ hK4=>rP 2 [] mn ?_
 refine tR (n:=rs.length) (es:=(List.map iC (List.replicate rs.length 0))) rfl rfl rfl qe om om (by simp only [maxLen]; omega) (by rw [List.map_replicate]; rfl) rfl fun b5=>?_
 try dsimp only
 refine rP 1 [] mn ?_
 refine RK hK4<|WS fun _ hK6=>rP 3 [] (mc 2 rfl mn) ?_
 refine RK hK6<|ai fun _ hK7=>WS fun _ hK8=>rP 4 [] mn ?_
 refine RK hK8<|av ?_
 rw [show (own (some ⟨b5,0,none⟩) rs.length 3 1 (List.map iC (List.replicate rs.length 0)))=(own (some ⟨b5,0,none⟩) rs.length 3 1 ((jy l r rs rs.length).map iC)) from by rw [CO]]
 have hinit:(rs.length≤rs.length):=by exact Nat.le_refl _
 have hb9:(vI ((jv l r rs rs.length).2))=(vI r.fR):=by rw [sx]
 refine cp (ι:={z:Nat // (z≤rs.length)}) (fun z=>[(2,(vS rsA rs.length rsC)),(3,(vP b2)),(4,(vP b3)),(7,(vS (some ⟨b5,0,none⟩) rs.length rs.length)),(8,(vI ((jv l r rs z.1).2))),(9,(vI (((z.1:Nat):Int)-1)))]) (fun z=>[(own (some ⟨b5,0,none⟩) rs.length 3 1 ((jy l r rs z.1).map iC)),(br b3 232 (eY.cells (eY.mk (bB.mk wA ((bS l l.ab.length).length) wC) (bB.mk tA ((cW l r r.ag.length).length) tC) (bB.mk bA ((de l r r.ag.length).length) bC)))),(br b2 74 (eE.cells (ke r sgA sgC))),(rd sgA r.ag.length 2 (r.ag.map aM.cells)).ro,(rd wA ((bS l l.ab.length).length) 1 ((bS l l.ab.length).map iC)).ro,(rd tA ((cW l r r.ag.length).length) 2 ((cW l r r.ag.length).map aa.cells)).ro,(rd bA ((de l r r.ag.length).length) 1 ((de l r r.ag.length).map iw)).ro,(rd rsA rs.length 1 (rs.map iC)).ro]) (fun z=>z.1) ⟨rs.length,hinit⟩ (cv 4<|aY rfl hb9<|aL rfl) (aG [0,1,2,3,4,5,6,7]) ?_
 clear hinit
 rintro ⟨j,hl4_0⟩ J10 hJ10
 try dsimp only
 have hlr:=Dj (l:=l) (r:=r) (rs:=rs) (j:=j) om
 refine ai fun _ hK11=>WS fun _ hK12=>rP 2 [] mn ?_
 refine RK hK12 ?_
 refine bM rfl (aQ fun h13=>?_) (aP fun h13=>?_)
 ·refine bp ?_
  refine ae<|ae<|au<|KK hK7<|WS fun _ hK29=>rP 1 [] mn ?_
  rw [show (vS (some ⟨b5,0,none⟩) rs.length rs.length)=(vS (some ⟨b5,0,none⟩) ((iF l r rs).length) rs.length) from by rw [show (iF l r rs).length=rs.length from pL _ _]]
  rw [show jy l r rs j=iF l r rs from by rw [show j=0 by omega]; exact Br]
  refine rP 1 [] mn ?_
  refine RK hK29<|an ?_
  refine hQ _ _ _ (aZ (vs:=[(vS (some ⟨b5,0,none⟩) ((iF l r rs).length) rs.length)]) ⟨rfl,trivial⟩ fun w hs=>ej ((some ⟨b5,0,none⟩),rs.length) [0] ?_ ?_ rfl rfl rfl hs)
  ·rfl
  ·trivial
 refine WK hK11<|ai fun _ hK14=>av<|ai fun _ hK15=>WS fun _ hK16=>rP 2 [] mn ?_
 have hkj:=hkb (rs.length-j) j om
 obtain ⟨x,hx⟩:=aO rs (j-1) om
 have hxm:=bI iC hx
 refine rS (IA (j-1) rfl (aA 7 rfl) dB dc om om)<|rS (gU (j-1) 0 (vI x) rfl bJ (aA 7 rfl) hxm rfl dc rfl)<|rP 1 [] mn ?_
 refine RK hK16 ?_
 refine bM rfl (aQ fun h26=>?_) (aP fun h26=>?_)
 ·refine WK hK15 ?_
  refine WS fun _ hK23=>rP 3 [] mn ?_
  obtain ⟨x24,hx25⟩:=aO (jy l r rs j) (j-1) om
  have hx25m:=bI iC hx25
  refine rS (IA (j-1) rfl (aK (n:=rs.length) 0 rfl sq) dB dc om om) ?_
  have hb26:((jy l r rs j).set (j-1) ((jv l r rs j).2))=(jy l r rs (j-1)):=by (rw [← wQ om hx]; congr 1; unfold qU; first|(rw [if_pos h26,hhi]; done)|(rw [if_neg h26]; done))
  refine hZ (k:=(j-1)) (o:=0) (vs:=[(vI ((jv l r rs j).2))]) (es':=(List.map iC (jy l r rs (j-1)))) (C':=[(own (some ⟨b5,0,none⟩) rs.length 3 1 (List.map iC (jy l r rs (j-1)))),_,_,_,_,_,_,_]) 0 rfl rfl rfl DI rfl rfl rfl rfl hx25m rfl dc (by exact (List.map_set (f:=iC) (l:=(jy l r rs j)) (i:=(j-1)) (a:=(jv l r rs j).2)).symm.trans (congrArg _ hb26)) rfl<|RK hK23<|ak<|rP 4 [] (mc 1 rfl mn) ?_
  obtain ⟨y,hy⟩:=aO (bS l l.ab.length) (j-1) om
  have hym:=bI iC hy
  refine rS (IA (j-1) rfl (aA 4 rfl) dB dc om om)<|rS (gU (j-1) 0 (vI y) rfl bJ (aA 4 rfl) hym rfl dc rfl) ?_
  have hyl:=s7 hy
  have hlb:=ml htr hok (i:=j-1) om
  rw [← hyl] at hlb
  refine rP 2 [] mn ?_
  refine aB<|ax<|KK hK14<|ak<|rP 3 [] mn ?_
  refine aB ?_
  have hb27:(vI ((jv l r rs (j-1)).2))=(vI (((jv l r rs j).2)-y)):=by exact cI (by rw [oL om hx]; simp only; unfold qU; rw [hyl]; first|(rw [if_pos h26,hhi]; done)|(rw [if_neg h26]; done))
  have hb28:(vI ((((j-1):Nat):Int)-1))=(vI ((((j:Nat):Int)-1)-1)):=by exact cI om
  refine aN (hJ10 ⟨(j-1),(by first|omega|(simp only []; omega))⟩ _ _ _ rfl os (cv 4<|aY rfl hb27<|aY rfl hb28<|dK.nil _) (aG [0,1,2,3,4,5,6,7]))
 refine dC cD 12 kr<|dP 5 [] (mc 1 rfl mn) ?_
 refine dS (IA (j-1) rfl (aA 7 rfl) dB dc om om)<|dS (gU (j-1) 0 (vI x) rfl bJ (aA 7 rfl) hxm rfl dc rfl) ?_
 have hxs:=hrs x (aw hx) h26
 obtain ⟨z,hz⟩:=aO (cW l r r.ag.length) ((x).toNat) om
 have hzm:=bI aa.cells hz
 refine dS (IA ((x).toNat) rfl (aA 5 rfl) jF dc om om)<|dS (mT ((((x).toNat)*2)+1) rfl (aA 5 rfl) (Nat.mul_pos om dc) gp rfl) ?_
 obtain ⟨s,hs,hzw⟩:=GA hz
 have hzb:=vx l s
 rw [← hzw] at hzb
 have hhi:G1 l r x=z.Hi:=by rw [Bu hs,hzw]
 refine dS (gU ((x).toNat) 1 (vI z.Hi) rfl bJ (aA 5 rfl) hzm rfl dc rfl)<|dS (MN rfl)<|dP 1 [] mn ?_
 refine cO<|RK hK15<|WS fun _ hK17=>rP 3 [] mn ?_
 obtain ⟨x18,hx19⟩:=aO (jy l r rs j) (j-1) om
 have hx19m:=bI iC hx19
 refine rS (IA (j-1) rfl (aK (n:=rs.length) 0 rfl sq) dB dc om om) ?_
 have hb20:((jy l r rs j).set (j-1) (min ((jv l r rs j).2) z.Hi))=(jy l r rs (j-1)):=by (rw [← wQ om hx]; congr 1; unfold qU; first|(rw [if_pos h26,hhi]; done)|(rw [if_neg h26]; done))
 refine hZ (k:=(j-1)) (o:=0) (vs:=[(vI (min ((jv l r rs j).2) z.Hi))]) (es':=(List.map iC (jy l r rs (j-1)))) (C':=[(own (some ⟨b5,0,none⟩) rs.length 3 1 (List.map iC (jy l r rs (j-1)))),_,_,_,_,_,_,_]) 0 rfl rfl rfl DI rfl rfl rfl rfl hx19m rfl dc (by exact (List.map_set (f:=iC) (l:=(jy l r rs j)) (i:=(j-1)) (a:=(min ((jv l r rs j).2) z.Hi))).symm.trans (congrArg _ hb20)) rfl<|RK hK17<|ak<|rP 4 [] (mc 1 rfl mn) ?_
 obtain ⟨y,hy⟩:=aO (bS l l.ab.length) (j-1) om
 have hym:=bI iC hy
 refine rS (IA (j-1) rfl (aA 4 rfl) dB dc om om)<|rS (gU (j-1) 0 (vI y) rfl bJ (aA 4 rfl) hym rfl dc rfl) ?_
 have hyl:=s7 hy
 have hlb:=ml htr hok (i:=j-1) om
 rw [← hyl] at hlb
 refine rP 2 [] mn ?_
 refine aB<|ax<|KK hK14<|ak<|rP 3 [] mn ?_
 refine aB ?_
 have hb21:(vI ((jv l r rs (j-1)).2))=(vI ((min ((jv l r rs j).2) z.Hi)-y)):=by exact cI (by rw [oL om hx]; simp only; unfold qU; rw [hyl]; first|(rw [if_pos h26,hhi]; done)|(rw [if_neg h26]; done))
 have hb22:(vI ((((j-1):Nat):Int)-1))=(vI ((((j:Nat):Int)-1)-1)):=by exact cI om
 refine aN (hJ10 ⟨(j-1),(by first|omega|(simp only []; omega))⟩ _ _ _ rfl os (cv 4<|aY rfl hb21<|aY rfl hb22<|dK.nil _) (aG [0,1,2,3,4,5,6,7]))
end
section
open Go.RowKit
theorem Dz (l:aV) (kA:OA) (kC:Nat) (az:List RA) (cA:OA) (cC:Nat) (bA:OA) (bC:Nat) (r:cq) (sgA:OA) (sgC:Nat) (vwA:OA) (vwC:Nat) (vtA:OA) (vtC:Nat) (vbA:OA) (vbC k:Nat) (rs:List Int) (rA:OA) (rC:Nat) (fs:List Int) (fA:OA) (fC:Nat) (hin:eN l az) (hle:dh l=0) (hr:ed l r) (hk:rs.length+k=l.ab.length) (hfl:fs.length=rs.length) (hst:r.Start≤fy r.Start fs∧fy r.Start fs≤r.fR) (hrs: ∀ x∈rs,-1≤x∧x<(r.ag.length:Int)) (hrec: ∀ (k2:Nat) (rs2:List Int) (rA2:OA) (rC2:Nat) (fs2:List Int) (fA2:OA) (fC2:Nat),(k2<k)→(rs2.length+k2=l.ab.length)→(fs2.length=rs2.length)→(r.Start≤fy r.Start fs2∧fy r.Start fs2≤r.fR)→(∀ x∈rs2,-1≤x∧x<(r.ag.length:Int))→Ee Tryz.prog 167 [(vA (cE.cells (jx l kA kC cA cC bA bC))),(vA (eE.cells (ke r sgA sgC))),(vA (eY.cells (eY.mk (bB.mk vwA ((bS l l.ab.length).length) vwC) (bB.mk vtA ((cW l r r.ag.length).length) vtC) (bB.mk vbA ((de l r r.ag.length).length) vbC)))),(vS rA2 rs2.length rC2),(vS fA2 fs2.length fC2)] [(rd kA l.aH.length 9 (l.aH.map ah.cells)),(rd cA l.aj.length 2 (List.zipWith al.cells l.aj az)),(du (aU al.fK l.aj az)),(rd bA l.ab.length 4 (l.ab.map bx.cells)),(rd sgA r.ag.length 2 (r.ag.map aM.cells)),(rd vwA ((bS l l.ab.length).length) 1 ((bS l l.ab.length).map iC)),(rd vtA ((cW l r r.ag.length).length) 2 ((cW l r r.ag.length).map aa.cells)),(rd vbA ((de l r r.ag.length).length) 1 ((de l r r.ag.length).map iw))] (bV [own rA2 rC2 3 1 (rs2.map iC),own fA2 fC2 3 1 (fs2.map iC)]) (fun (x:(OA)×Nat×(List j8))=>(vS x.1 ((gS l r k2 rs2 fs2).length) x.2.1)) (fun (x:(OA)×Nat×(List j8))=>x.2.2.length=(gS l r k2 rs2 fs2).length) (fun (x:(OA)×Nat×(List j8))=>(bV (aU cT.owns (gS l r k2 rs2 fs2) x.2.2++[own x.1 x.2.1 235 3 (List.zipWith cT.cells (gS l r k2 rs2 fs2) x.2.2)])))):
 Ee Tryz.prog 167 [(vA (cE.cells (jx l kA kC cA cC bA bC))),(vA (eE.cells (ke r sgA sgC))),(vA (eY.cells (eY.mk (bB.mk vwA ((bS l l.ab.length).length) vwC) (bB.mk vtA ((cW l r r.ag.length).length) vtC) (bB.mk vbA ((de l r r.ag.length).length) vbC)))),(vS rA rs.length rC),(vS fA fs.length fC)] [(rd kA l.aH.length 9 (l.aH.map ah.cells)),(rd cA l.aj.length 2 (List.zipWith al.cells l.aj az)),(du (aU al.fK l.aj az)),(rd bA l.ab.length 4 (l.ab.map bx.cells)),(rd sgA r.ag.length 2 (r.ag.map aM.cells)),(rd vwA ((bS l l.ab.length).length) 1 ((bS l l.ab.length).map iC)),(rd vtA ((cW l r r.ag.length).length) 2 ((cW l r r.ag.length).map aa.cells)),(rd vbA ((de l r r.ag.length).length) 1 ((de l r r.ag.length).map iw))] (bV [own rA rC 3 1 (rs.map iC),own fA fC 3 1 (fs.map iC)]) (fun (x:(OA)×Nat×(List j8))=>(vS x.1 ((gS l r k rs fs).length) x.2.1)) (fun (x:(OA)×Nat×(List j8))=>x.2.2.length=(gS l r k rs fs).length) (fun (x:(OA)×Nat×(List j8))=>(bV (aU cT.owns (gS l r k rs fs) x.2.2++[own x.1 x.2.1 235 3 (List.zipWith cT.cells (gS l r k rs fs) x.2.2)]))):=by
 have htk:=hin.r_
 have hck:=hin.se
 have has:=hin.qa
 have hbm:=hin.sb
 obtain ⟨htr,hok⟩:=gr hle
 have hhd:=hok.head
 unfold dU at hhd
 have hrl:=hr.len
 have hrt:=hr.time
 have hll:=dQ (l:=l) (n:=l.ab.length)
 have htl:=pO (l:=l) (Nat.le_refl r.ag.length)
 have hsl:=sY (l:=l) (Nat.le_refl r.ag.length)
 have htn:=rO rs
 refine o5 kr Tryz.func167 rfl rfl fun w0 Q hQ hN=>?_
 try dsimp only
 refine zi 0 rfl rfl fun wz Sz hz=>?_
 try dsimp only
 refine WS fun _ hK1=>fP rfl fun b2=>fP rfl fun b3=>fP rfl fun b4=>rP 1 [] mn ?_
 refine RK hK1<|WS fun _ hK5=>rP 1 [] mn ?_
 refine RK hK5<|WS fun _ hK6=>rP 4 [] mn ?_
 refine RK hK6<|ai fun _ hK7=>WS fun _ hK8=>rP 1 [] mn ?_
 refine RK hK8<|av ?_
 have hinit:(0≤rs.length):=by exact Nat.zero_le _
 have hb9:(vI ((cU (rs.take 0)).right))=(vI 0):=by rfl
 refine cp (ι:={z:Nat // (z≤rs.length)}) (fun z=>[(3,(vS rA rs.length rC)),(4,(vS fA fs.length fC)),(5,(vP b2)),(6,(vP b3)),(7,(vP b4)),(11,(vS none 0 0)),(12,(vI ((rs.length:Nat):Int))),(13,(vI ((cU (rs.take z.1)).right))),(14,(vI ((z.1:Nat):Int)))]) (fun z=>[(br b4 232 (eY.cells (eY.mk (bB.mk vwA ((bS l l.ab.length).length) vwC) (bB.mk vtA ((cW l r r.ag.length).length) vtC) (bB.mk vbA ((de l r r.ag.length).length) vbC)))),(br b3 74 (eE.cells (ke r sgA sgC))),(br b2 28 (cE.cells (jx l kA kC cA cC bA bC))),(bV [own rA rC 3 1 (rs.map iC),own fA fC 3 1 (fs.map iC)]).ro,(rd kA l.aH.length 9 (l.aH.map ah.cells)).ro,(rd cA l.aj.length 2 (List.zipWith al.cells l.aj az)).ro,(du (aU al.fK l.aj az)).ro,(rd bA l.ab.length 4 (l.ab.map bx.cells)).ro,(rd sgA r.ag.length 2 (r.ag.map aM.cells)).ro,(rd vwA ((bS l l.ab.length).length) 1 ((bS l l.ab.length).map iC)).ro,(rd vtA ((cW l r r.ag.length).length) 2 ((cW l r r.ag.length).map aa.cells)).ro,(rd vbA ((de l r r.ag.length).length) 1 ((de l r r.ag.length).map iw)).ro]) (fun z=>rs.length-z.1) ⟨0,hinit⟩ (cv 7<|aY rfl hb9<|aL rfl) (aG [0,1,2,3,4,5,6,7,8,9,10,11]) ?_
 clear hinit
 rintro ⟨i,hl4_0⟩ J10 hJ10
 try dsimp only
 have hti:=rO (rs.take i)
 rw [List.length_take] at hti
 refine ai fun _ hK11=>WS fun _ hK12=>rP 3 [] mn ?_
 refine RK hK12 ?_
 refine cP rfl (aP fun h13=>?_) (aQ fun h13=>?_)
 ·refine WK hK11 ?_
  refine ai fun _ hK14=>av<|WS fun _ hK15=>rP 2 [] mn ?_
  obtain ⟨x,hx⟩:=aO rs i om
  have hxm:=bI iC hx
  refine rS (IA i rfl (show ji _ (rd rA rs.length 1 (rs.map iC)).holds from (oI (c:=rC) (e:=3) 3 rfl sm sm)) dB dc om om)<|rS (gU i 0 (vI x) rfl bJ (show ji _ (rd rA rs.length 1 (rs.map iC)).holds from (oI (c:=rC) (e:=3) 3 rfl sm sm)) hxm rfl dc rfl)<|rP 1 [] mn ?_
  refine RK hK15 ?_
  refine bM rfl (aQ fun h30=>?_) (aP fun h30=>?_)
  ·refine bZ ?_
   refine ax<|KK hK14<|ak<|rP 3 [] mn ?_
   refine aB ?_
   have hb18:(vI ((cU (rs.take (i+1))).right))=(vI ((cU (rs.take i)).right)):=by exact cI (by rw [rD hx]; first|(rw [if_pos h30]; done)|(rw [if_neg h30]; exact Int.add_zero _))
   have hb19:(vI (((i+1):Nat):Int))=(vI (((i:Nat):Int)+1)):=by exact cI om
   refine aN (hJ10 ⟨(i+1),(by first|omega|(simp only []; omega))⟩ _ _ _ rfl os (cv 7<|aY rfl hb18<|aY rfl hb19<|dK.nil _) (aG [0,1,2,3,4,5,6,7,8,9,10,11]))
  refine ak<|rP 3 [] mn ?_
  refine aB<|ax<|KK hK14<|ak<|rP 3 [] mn ?_
  refine aB ?_
  have hb16:(vI ((cU (rs.take (i+1))).right))=(vI (((cU (rs.take i)).right)+1)):=by exact cI (by rw [rD hx]; first|(rw [if_pos h30]; done)|(rw [if_neg h30]; exact Int.add_zero _))
  have hb17:(vI (((i+1):Nat):Int))=(vI (((i:Nat):Int)+1)):=by exact cI om
  refine aN (hJ10 ⟨(i+1),(by first|omega|(simp only []; omega))⟩ _ _ _ rfl os (cv 7<|aY rfl hb16<|aY rfl hb17<|dK.nil _) (aG [0,1,2,3,4,5,6,7,8,9,10,11]))
 refine bp<|ae<|ae<|au<|KK hK7<|ai fun _ hK20=>ai fun _ hK21=>?_
 rw [show rs.take i=rs from List.take_of_length_le om]
 refine ak<|rP 6 [] (mc 2 rfl mn) ?_
 refine RK hK21 ?_
 refine cP rfl (aP fun h38=>?_) (aQ fun h38=>?_)
 ·refine WS fun _ hK22=>?_
  refine kY 235 3<|rP 1 [] mn ?_
  refine RK hK22<|an<|x5 (C1:=[(own none 0 235 3 [])]) hz [0] rfl rfl rfl<|Jw (W:=gS l r k rs fs) ?_
  rw [show (own none 0 235 3 [])=(own none 0 235 3 (List.zipWith cT.cells (gS l r k rs fs) [])) from by rw [mC om]; rfl]
  refine hQ _ _ _ (aZ (vs:=[(vS none 0 0)]) ⟨rfl,trivial⟩ fun w hs=>vM (none,0,[]) 0 ?_ ?_ rfl (by show List.all _ _=true; rw [List.all_append,oj]; rfl) hs)
  ·clear hs w hQ hN hK22 hK21 hK20 hK12 hK11 hK8 hK7 hK6 hK5 hK1; exact (by rw [mC om]; rfl)
  ·clear hs w hQ hN hK22 hK21 hK20 hK12 hK11 hK8 hK7 hK6 hK5 hK1; rw [mC om]; rfl
 refine WK hK20 ?_
 refine pn (ι:={z:(OA)×Nat×(List j8)×(List aq) // (vE l r rs fs (rA,rC) (fA,fC) z.2.2.1 z.2.2.2)}) (fun z=>[(3,(vS rA rs.length rC)),(4,(vS fA fs.length fC)),(5,(vP b2)),(6,(vP b3)),(7,(vP b4)),(11,(vS z.1.1 ((fJ l r rs fs).length) z.1.2.1)),(12,(vI ((rs.length:Nat):Int)))]) (fun z=>[(own z.1.1 z.1.2.1 235 3 (List.zipWith cT.cells (fJ l r rs fs) z.1.2.2.1)),(bV z.1.2.2.2),(br b4 232 (eY.cells (eY.mk (bB.mk vwA ((bS l l.ab.length).length) vwC) (bB.mk vtA ((cW l r r.ag.length).length) vtC) (bB.mk vbA ((de l r r.ag.length).length) vbC)))),(br b3 74 (eE.cells (ke r sgA sgC))),(br b2 28 (cE.cells (jx l kA kC cA cC bA bC))),(bV [own rA rC 3 1 (rs.map iC),own fA fC 3 1 (fs.map iC)]).ro,(rd kA l.aH.length 9 (l.aH.map ah.cells)).ro,(rd cA l.aj.length 2 (List.zipWith al.cells l.aj az)).ro,(du (aU al.fK l.aj az)).ro,(rd bA l.ab.length 4 (l.ab.map bx.cells)).ro,(rd sgA r.ag.length 2 (r.ag.map aM.cells)).ro,(rd vwA ((bS l l.ab.length).length) 1 ((bS l l.ab.length).map iC)).ro,(rd vtA ((cW l r r.ag.length).length) 2 ((cW l r r.ag.length).map aa.cells)).ro,(rd vbA ((de l r r.ag.length).length) 1 ((de l r r.ag.length).map iw)).ro]) ?_ fun K23 hK23=>?_
 ·rintro ⟨⟨oA,oC,hzW,LA⟩,hjK23_0⟩
  try dsimp only at hjK23_0
  try dsimp only
  have hjW12:=hjK23_0
  have hjL:=hjW12.len
  have hdl:=v7 (l:=l) (r:=r) (rs:=rs) (fs:=fs)
  refine ai fun _ hK24=>WS fun _ hK25=>rP 4 [] (mc 4 rfl mn) ?_
  have hwb:=sJ (l:=l) (r:=r) (rs:=rs) (fs:=fs) hrl (k:=k) om
  refine rP 1 [] mn ?_
  refine RK hK25 ?_
  refine cP rfl (aP fun h61=>?_) (aQ fun h61=>?_)
  ·refine WS fun _ hK26=>?_
   refine rP 1 [] mn ?_
   refine rP 1 [] mn ?_
   refine RK hK26<|an ?_
   obtain rfl:k=0:=by omega
   refine Bp ?_
   try dsimp only
   refine x5 (C1:=[(own oA oC 235 3 (List.zipWith cT.cells (fJ l r rs fs) hzW)),(bV LA),(bV (aU cT.owns [] []))]) hz [1,2,0] rfl rfl (by simp only [cg,List.all_nil,Bool.and_true,cS]; exact ⟨rfl,hjW12.wr,oj _ _⟩)<|Fp (ra:=(rA,rC)) (fa:=(fA,fC)) (A':=(own oA oC 235 3 (List.zipWith cT.cells (gS l r 0 rs fs) hzW))) hjW12 ((List.append_nil _).trans (k8 om).symm) (List.append_nil _) (by rw [k8 om]) ?_
   refine hQ _ _ _ (aZ (vs:=[(vS oA ((fJ l r rs fs).length) oC)]) ⟨rfl,trivial⟩ fun w hs=>vM (oA,oC,hzW) 0 ?_ ?_ rfl (by show List.all _ _=true; rw [List.all_append,oj]; rfl) hs)
   ·clear hs w hQ hN hK26 hK25 hK24 hK21 hK20 hK12 hK11 hK8 hK7 hK6 hK5 hK1; exact (by first|rfl|(rw [k8 om]; rfl)|(rw [kX om,nF,show r.ag.length+1=j by omega]; rfl))
   ·clear hs w hQ hN hK26 hK25 hK24 hK21 hK20 hK12 hK11 hK8 hK7 hK6 hK5 hK1; rw [k8 om]; exact hjL
  refine WK hK24<|WS fun _ hK27=>?_
  obtain ⟨k1,rfl⟩: ∃ k1,k=k1+1:=⟨k-1,om⟩
  refine rP 3 [] (mc 3 rfl mn) ?_
  refine RK hK27 ?_
  refine pn (ι:=Unit) (fun z=>[(3,(vS rA rs.length rC)),(4,(vS fA fs.length fC)),(5,(vP b2)),(6,(vP b3)),(7,(vP b4)),(11,(vS oA ((fJ l r rs fs).length) oC)),(12,(vI ((rs.length:Nat):Int))),(15,(vI (fy r.Start fs)))]) (fun z=>[(own oA oC 235 3 (List.zipWith cT.cells (fJ l r rs fs) hzW)),(bV LA),(br b4 232 (eY.cells (eY.mk (bB.mk vwA ((bS l l.ab.length).length) vwC) (bB.mk vtA ((cW l r r.ag.length).length) vtC) (bB.mk vbA ((de l r r.ag.length).length) vbC)))),(br b3 74 (eE.cells (ke r sgA sgC))),(br b2 28 (cE.cells (jx l kA kC cA cC bA bC))),(bV [own rA rC 3 1 (rs.map iC),own fA fC 3 1 (fs.map iC)]).ro,(rd kA l.aH.length 9 (l.aH.map ah.cells)).ro,(rd cA l.aj.length 2 (List.zipWith al.cells l.aj az)).ro,(du (aU al.fK l.aj az)).ro,(rd bA l.ab.length 4 (l.ab.map bx.cells)).ro,(rd sgA r.ag.length 2 (r.ag.map aM.cells)).ro,(rd vwA ((bS l l.ab.length).length) 1 ((bS l l.ab.length).map iC)).ro,(rd vtA ((cW l r r.ag.length).length) 2 ((cW l r r.ag.length).map aa.cells)).ro,(rd vbA ((de l r r.ag.length).length) 1 ((de l r r.ag.length).map iw)).ro]) ?_ fun K28 hK28=>?_
  ·intro _
   try dsimp only
   refine WS fun _ hK29=>rP 4 [] (mc 2 rfl mn) ?_
   obtain ⟨yls,hyl⟩:=aO (bS l l.ab.length) (rs.length) om
   have hylm:=bI iC hyl
   refine rS (IA rs.length rfl (aA 11 rfl) dB dc om om)<|rS (gU rs.length 0 (vI yls) rfl bJ (aA 11 rfl) hylm rfl dc rfl) ?_
   have hlb:=ml htr hok (i:=rs.length) om
   rw [s7 hyl]
   refine rP 2 [] mn ?_
   refine RK hK29<|ai fun _ hK30=>WS fun _ hK31=>rP 1 [] mn ?_
   refine RK hK31<|av ?_
   rw [show (fJ l r rs fs)=((fJ l r rs fs)++(gA l r k1 rs fs 0)) from (List.append_nil _).symm]
   rw [show hzW=hzW++[] from (List.append_nil _).symm]
   refine sD ?_
   try dsimp only
   have hinit:(0≤r.ag.length+1)∧(([]:List j8).length=(gA l r k1 rs fs 0).length):=by exact ⟨Nat.zero_le _,rfl⟩
   have hb32:(vI (((0:Nat):Int)-1))=(vI (-1)):=by exact cI om
   refine cp (ι:={z:Nat×(OA)×Nat×(List j8) // (z.1≤r.ag.length+1)∧(z.2.2.2.length=(gA l r k1 rs fs z.1).length)}) (fun z=>[(3,(vS rA rs.length rC)),(4,(vS fA fs.length fC)),(5,(vP b2)),(6,(vP b3)),(7,(vP b4)),(11,(vS z.1.2.1 (((fJ l r rs fs)++(gA l r k1 rs fs z.1.1)).length) z.1.2.2.1)),(12,(vI ((rs.length:Nat):Int))),(15,(vI ((fy r.Start fs)+(dE l rs.length)))),(16,(vI (((z.1.1:Nat):Int)-1)))]) (fun z=>[(bV (aU cT.owns (gA l r k1 rs fs z.1.1) z.1.2.2.2)),(own z.1.2.1 z.1.2.2.1 235 3 (List.zipWith cT.cells ((fJ l r rs fs)++(gA l r k1 rs fs z.1.1)) (hzW++z.1.2.2.2))),(bV LA),(br b4 232 (eY.cells (eY.mk (bB.mk vwA ((bS l l.ab.length).length) vwC) (bB.mk vtA ((cW l r r.ag.length).length) vtC) (bB.mk vbA ((de l r r.ag.length).length) vbC)))),(br b3 74 (eE.cells (ke r sgA sgC))),(br b2 28 (cE.cells (jx l kA kC cA cC bA bC))),(bV [own rA rC 3 1 (rs.map iC),own fA fC 3 1 (fs.map iC)]).ro,(rd kA l.aH.length 9 (l.aH.map ah.cells)).ro,(rd cA l.aj.length 2 (List.zipWith al.cells l.aj az)).ro,(du (aU al.fK l.aj az)).ro,(rd bA l.ab.length 4 (l.ab.map bx.cells)).ro,(rd sgA r.ag.length 2 (r.ag.map aM.cells)).ro,(rd vwA ((bS l l.ab.length).length) 1 ((bS l l.ab.length).map iC)).ro,(rd vtA ((cW l r r.ag.length).length) 2 ((cW l r r.ag.length).map aa.cells)).ro,(rd vbA ((de l r r.ag.length).length) 1 ((de l r r.ag.length).map iw)).ro]) (fun z=>r.ag.length+1-z.1.1) ⟨(0,oA,oC,([]:List j8)),hinit⟩ (cv 8<|aY rfl hb32<|dK.nil _) (aG [0,1,2,3,4,5,6,7,8,9,10,11,12,13,14]) ?_
   clear hinit
   rintro ⟨⟨j,oA2,oC2,azW⟩,⟨hl19_0,hl19_1⟩⟩ J33 hJ33
   try dsimp only at hl19_0 hl19_1
   try dsimp only
   have htlen:=F2 (l:=l) (r:=r) (k:=k1) (j:=j) (rs:=rs) (fs:=fs) hrl om om
   refine ai fun _ hK34=>WS fun _ hK35=>rP 5 [] (mc 4 rfl mn) ?_
   refine RK hK35 ?_
   refine bM rfl (aQ fun h36=>?_) (aP fun h36=>?_)
   ·refine bp ?_
    refine ae<|ae<|au<|KK hK30<|WS fun _ hK45=>rP 1 [] mn ?_
    refine rP 1 [] mn ?_
    refine RK hK45<|an<|x5 (C1:=[(own oA2 oC2 235 3 (List.zipWith cT.cells ((fJ l r rs fs)++(gA l r k1 rs fs j)) (hzW++azW))),(bV LA),(bV (aU cT.owns (gA l r k1 rs fs j) azW))]) hz [1,2,0] rfl rfl (by simp only [cg,List.all_nil,Bool.and_true,cS]; exact ⟨rfl,hjW12.wr,oj _ _⟩)<|Fp (ra:=(rA,rC)) (fa:=(fA,fC)) (W:=gS l r (k1+1) rs fs) (A':=(own oA2 oC2 235 3 (List.zipWith cT.cells (gS l r (k1+1) rs fs) (hzW++azW)))) hjW12 (by rw [kX om,nF,show r.ag.length+1=j by omega]) rfl (by rw [kX om,nF,show r.ag.length+1=j by omega]) ?_
    refine hQ _ _ _ (aZ (vs:=[(vS oA2 (((fJ l r rs fs)++(gA l r k1 rs fs j)).length) oC2)]) ⟨rfl,trivial⟩ fun w hs=>vM (oA2,oC2,(hzW++azW)) 0 ?_ ?_ rfl (by show List.all _ _=true; rw [List.all_append,oj]; rfl) hs)
    ·clear hs w hQ hN hK45 hK35 hK34 hK31 hK30 hK29 hK27 hK25 hK24 hK21 hK20 hK12 hK11 hK8 hK7 hK6 hK5 hK1; exact (by first|rfl|(rw [k8 om]; rfl)|(rw [kX om,nF,show r.ag.length+1=j by omega]; rfl))
    ·clear hs w hQ hN hK45 hK35 hK34 hK31 hK30 hK29 hK27 hK25 hK24 hK21 hK20 hK12 hK11 hK8 hK7 hK6 hK5 hK1; rw [kX om,nF,show r.ag.length+1=j by omega]; simp only [List.length_append]; omega
   refine WK hK34<|ai fun _ hK37=>av<|ai fun _ hK38=>dC cD 5 kr<|dP 5 [] (mc 4 rfl mn) ?_
   refine cO<|RK hK38 ?_
   refine pn (ι:={z:Int×Int // ((z.1≤z.2→nQ l r rs.length (fy r.Start fs+dE l rs.length) (((j:Nat):Int)-1)=some z.1)∧(¬ z.1≤z.2→nQ l r rs.length (fy r.Start fs+dE l rs.length) (((j:Nat):Int)-1)=none))∧(r.Start≤z.1∧z.2≤r.fR)}) (fun z=>[(3,(vS rA rs.length rC)),(4,(vS fA fs.length fC)),(5,(vP b2)),(6,(vP b3)),(7,(vP b4)),(11,(vS oA2 (((fJ l r rs fs)++(gA l r k1 rs fs j)).length) oC2)),(12,(vI ((rs.length:Nat):Int))),(15,(vI ((fy r.Start fs)+(dE l rs.length)))),(16,(vI (((j:Nat):Int)-1))),(17,(vI z.1.1)),(18,(vI z.1.2))]) (fun z=>[(bV (aU cT.owns (gA l r k1 rs fs j) azW)),(own oA2 oC2 235 3 (List.zipWith cT.cells ((fJ l r rs fs)++(gA l r k1 rs fs j)) (hzW++azW))),(bV LA),(br b4 232 (eY.cells (eY.mk (bB.mk vwA ((bS l l.ab.length).length) vwC) (bB.mk vtA ((cW l r r.ag.length).length) vtC) (bB.mk vbA ((de l r r.ag.length).length) vbC)))),(br b3 74 (eE.cells (ke r sgA sgC))),(br b2 28 (cE.cells (jx l kA kC cA cC bA bC))),(bV [own rA rC 3 1 (rs.map iC),own fA fC 3 1 (fs.map iC)]).ro,(rd kA l.aH.length 9 (l.aH.map ah.cells)).ro,(rd cA l.aj.length 2 (List.zipWith al.cells l.aj az)).ro,(du (aU al.fK l.aj az)).ro,(rd bA l.ab.length 4 (l.ab.map bx.cells)).ro,(rd sgA r.ag.length 2 (r.ag.map aM.cells)).ro,(rd vwA ((bS l l.ab.length).length) 1 ((bS l l.ab.length).map iC)).ro,(rd vtA ((cW l r r.ag.length).length) 2 ((cW l r r.ag.length).map aa.cells)).ro,(rd vbA ((de l r r.ag.length).length) 1 ((de l r r.ag.length).map iw)).ro]) ?_ fun K39 hK39=>?_
   ·rintro ⟨⟨tt,ee⟩,⟨hjK39_0,hjK39_1⟩⟩
    try dsimp only at hjK39_0 hjK39_1
    try dsimp only
    have hjo:=hjK39_0
    have hjb:=hjK39_1
    refine WS fun _ hK40=>rP 3 [] mn ?_
    refine RK hK40 ?_
    refine bM rfl (aQ fun h125=>?_) (aP fun h125=>?_)
    ·refine bZ ?_
     refine ax<|KK hK37<|ak<|rP 3 [] mn ?_
     refine aB ?_
     have hno:(gA l r k1 rs fs (j+1))=(gA l r k1 rs fs j):=by first|exact jI (hjo.2 h125)|exact jI (kT om hs (fun q=>h99 om))|exact jI (kT om hs (fun q=>by rw [(qR hs hbs).2 q.2] at h106; cases h106))
     rw [← hno]
     have hb60:(vI ((((j+1):Nat):Int)-1))=(vI ((((j:Nat):Int)-1)+1)):=by exact cI om
     refine aN (hJ33 ⟨((j+1),oA2,oC2,azW),⟨om,by dsimp only; first|(rw [hno]; exact hl19_1)|(rw [jQ hjo1,List.length_append,List.length_append,hl19_1,hyW])⟩⟩ _ _ _ rfl os (cv 8<|aY rfl hb60<|dK.nil _) (aG [0,1,2,3,4,5,6,7,8,9,10,11,12,13,14]))
    refine Ms (L':=[(3,(vS rA rs.length rC)),(4,(vS fA fs.length fC)),(5,(vP b2)),(6,(vP b3)),(7,(vP b4)),(11,(vS oA2 (((fJ l r rs fs)++(gA l r k1 rs fs j)).length) oC2)),(12,(vI ((rs.length:Nat):Int))),(15,(vI ((fy r.Start fs)+(dE l rs.length)))),(16,(vI (((j:Nat):Int)-1))),(17,(vI tt)),(18,(vI ee)),(123,(vI tt)),(124,(vI ee)),(125,(vB (decide (tt≤ee))))]) rfl<|pG cD [0,1,2,3,5,7,11,13] [4,6,8,9,10,12,14,15,16,17,18] [false,false,false,false,false,false,false,false] [] [(bV (aU cT.owns (gA l r k1 rs fs j) azW)),(bV LA),(br b4 232 (eY.cells (eY.mk (bB.mk vwA ((bS l l.ab.length).length) vwC) (bB.mk vtA ((cW l r r.ag.length).length) vtC) (bB.mk vbA ((de l r r.ag.length).length) vbC)))),(br b3 74 (eE.cells (ke r sgA sgC))),(br b2 28 (cE.cells (jx l kA kC cA cC bA bC))),(bV [own rA rC 3 1 (rs.map iC),own fA fC 3 1 (fs.map iC)]).ro,(rd kA l.aH.length 9 (l.aH.map ah.cells)).ro,(rd cA l.aj.length 2 (List.zipWith al.cells l.aj az)).ro,(du (aU al.fK l.aj az)).ro,(rd bA l.ab.length 4 (l.ab.map bx.cells)).ro,(rd sgA r.ag.length 2 (r.ag.map aM.cells)).ro,(rd vwA ((bS l l.ab.length).length) 1 ((bS l l.ab.length).map iC)).ro,(rd vtA ((cW l r r.ag.length).length) 2 ((cW l r r.ag.length).map aa.cells)).ro,(rd vbA ((de l r r.ag.length).length) 1 ((de l r r.ag.length).map iw)).ro] [] kr (aG [0,2,3,4,5,6,7,8,9,10,11,12,13,14]) (aG [])<|eS rfl (MV rfl)<|eS rfl (LW 4 rfl bJ rfl rfl)<|eS rfl (LW 3 rfl bJ rfl rfl)<|eS rfl (LW 2 rfl bJ rfl rfl)<|eS rfl (MV rfl)<|eS rfl (MV rfl)<|eS rfl (MV rfl)<|eS rfl (MV rfl) ?_
    refine fp rfl<|H9 [.take 4,.op 6,.take 8,.op 9,.take 10,.op 12,.take 14,.op 15,.op 16,.op 17,.op 18] [(133,(vI (((j:Nat):Int)-1))),(139,(vI tt))] (fun i=>match i with |4=>130|8=>134|10=>136|14=>140|_=>0) (fun i b=>match i with |4=> .slice (some ⟨b,0,none⟩) 0 0|8=> .slice (some ⟨b,0,none⟩) 1 1|10=> .slice (some ⟨b,0,none⟩) 0 0|14=> .slice (some ⟨b,0,none⟩) 1 1|_=>undef) (fun i b=>match i with |4=>br b 3 []|8=>br b 3 [(vI (((j:Nat):Int)-1))]|10=>br b 3 []|14=>br b 3 [(vI tt)]|_=>br b 0 []) rfl rfl rfl kr rfl rfl (aG [0,2,3,4,5,6,7,8,9,10,11,12,13,14]) (um (FP rfl dB rfl rfl (fun _=>rfl) fun _=>rfl)<|uH<|um (IW (xs:=[.tmp 133]) (cs:=[(vI (((j:Nat):Int)-1))]) rfl dB lT rfl rfl rfl rfl (by simp [Value.cells]) rfl rfl rfl (fun _=>rfl) fun _=>rfl)<|uH<|um (FP rfl dB rfl rfl (fun _=>rfl) fun _=>rfl)<|uH<|um (IW (xs:=[.tmp 139]) (cs:=[(vI tt)]) rfl dB lT rfl rfl rfl rfl (by simp [Value.cells]) rfl rfl rfl (fun _=>rfl) fun _=>rfl)<|uH<|uH<|uH<|uH<|Kg) ?_
    intro b41
    try dsimp only
    refine v9 rfl fun Y X K hT=>wx (es:=(List.map iC [])) (C':=[own (some ⟨b41,0,none⟩) 0 3 1 (List.map iC []),_,_,_,_,_,_,_,_,_,_,_,_,_,_,_]++X) 0 rfl sm rfl (by simp [maxLen]) rfl<|er (es2:=(List.map iC rs)) (m':=rs.length) 0 rfl rfl rfl qe rfl rfl sm (show ji _ (rd rA rs.length 1 (rs.map iC)).holds from (oI (c:=rC) (e:=3) 7 rfl sm sm)) (kK _) (by first|omega|(simp; done)|(simp; omega)) (by first|(simp only [maxLen]; omega)|(simp [maxLen]; done)|(simp [maxLen]; omega)) sm sm rfl fun a42 c43=>?_
    try dsimp only
    refine qt hT 24 16 rfl rfl (fun w hs=>St.lH [1,3,4,5,6,7,8,9,10,11,12,13,14,15] rfl rfl hs) rfl rfl ?_
    try dsimp only [List.take]
    intro b44
    try dsimp only
    refine v9 rfl fun Y X K hT=>er (es2:=(List.map iC (rs++[((j:Nat):Int)-1]))) (m':=(rs++[((j:Nat):Int)-1]).length) 1 rfl rfl rfl qe rfl rfl sm (a_ (es:=List.map iC [(((j:Nat):Int)-1)]) 0 rfl rfl (by simp [bT]) rfl) (kK _) (by first|omega|(simp; done)|(simp; omega)) (by first|(simp only [maxLen]; omega)|(simp [maxLen]; done)|(simp [maxLen]; omega)) sm sm rfl fun a45 c46=>?_
    try dsimp only
    refine qt hT 26 17 rfl rfl (fun w hs=>St.lH [2,4,5,6,7,8,9,10,11,12,13,14,15,16] rfl rfl hs) rfl rfl ?_
    try dsimp only [List.take]
    intro b47
    try dsimp only
    refine v9 rfl fun Y X K hT=>wx (es:=(List.map iC [])) (C':=[own (some ⟨b47,0,none⟩) 0 3 1 (List.map iC []),_,_,_,_,_,_,_,_,_,_,_,_,_,_,_,_,_]++X) 0 rfl sm rfl (by simp [maxLen]) rfl<|er (es2:=(List.map iC fs)) (m':=fs.length) 0 rfl rfl rfl qe rfl rfl sm (show ji _ (rd fA fs.length 1 (fs.map iC)).holds from (oI (c:=fC) (e:=3) 9 rfl sm sm)) (kK _) (by first|omega|(simp; done)|(simp; omega)) (by first|(simp only [maxLen]; omega)|(simp [maxLen]; done)|(simp [maxLen]; omega)) sm sm rfl fun a48 c49=>?_
    try dsimp only
    refine qt hT 28 18 rfl rfl (fun w hs=>St.lH [3,5,6,7,8,9,10,11,12,13,14,15,16,17] rfl rfl hs) rfl rfl ?_
    try dsimp only [List.take]
    intro b50
    try dsimp only
    refine v9 rfl fun Y X K hT=>er (es2:=(List.map iC (fs++[tt]))) (m':=(fs++[tt]).length) 1 rfl rfl rfl qe rfl rfl sm (a_ (es:=List.map iC [tt]) 0 rfl rfl (by simp [bT]) rfl) (kK _) (by first|omega|(simp; done)|(simp; omega)) (by first|(simp only [maxLen]; omega)|(simp [maxLen]; done)|(simp [maxLen]; omega)) sm sm rfl fun a51 c52=>?_
    try dsimp only
    refine qt hT 30 19 rfl rfl (fun w hs=>St.lH [4,6,7,8,9,10,11,12,13,14,15,16,17,18] rfl rfl hs) rfl rfl ?_
    try dsimp only [List.take]
    refine v9 rfl fun Y X K hT=>?_
    have hjo1:=hjo.1 h125
    refine AP<|qb 4 rfl ?_
    try dsimp only [List.eraseIdx]
    refine xE rfl<|qb 2 rfl ?_
    try dsimp only [List.eraseIdx]
    refine xE rfl ?_
    try dsimp only
    refine lF 0 rfl rfl rfl rfl (hrec k1 (rs++[((j:Nat):Int)-1]) a45 c46 (fs++[tt]) a51 c52 om (by simp only [List.length_append,List.length_singleton]; omega) (by simp only [List.length_append,List.length_singleton]; omega) (by rw [mu]; omega) (by intro x hx; rcases List.mem_append.1 hx with hx|hx; exact hrs x hx; rw [List.mem_singleton.1 hx]; omega)) rfl (eo 10 rfl rfl (eD (bO _)) (eo 11 rfl rfl (eD (bO _)) (eo 12 rfl rfl (bO _) (eo 13 rfl rfl (eD (bO _)) (eo 14 rfl rfl (eD (bO _)) (eo 15 rfl rfl (eD (bO _)) (eo 16 rfl rfl (eD (bO _)) (eo 17 rfl rfl (eD (bO _)) nu)))))))) rfl (fun y56 hyW=>?_)
    obtain ⟨oA53,oC54,oz55⟩:=y56
    try dsimp only
    dsimp only at hyW
    refine qt hT 31 18 rfl rfl (fun w hs=>St.lH [3,5,6,7,8,9,10,11,12,13,14,15,16,17] rfl rfl hs) rfl rfl ?_
    try dsimp only [List.take]
    refine v9 rfl fun Y X K hT=>qb 0 rfl ?_
    try dsimp only [List.eraseIdx]
    refine w4 ?_
    have hwn:=sJ (l:=l) (r:=r) (k:=k1) (rs:=(rs++[((j:Nat):Int)-1])) (fs:=(fs++[tt])) hrl om
    refine er (es2:=(List.zipWith cT.cells ((fJ l r rs fs)++(gA l r k1 rs fs (j+1))) (hzW++(azW++oz55)))) (m':=((fJ l r rs fs)++(gA l r k1 rs fs (j+1))).length) 5 rfl rfl rfl ID rfl rfl (rI (by simp only [List.length_append]; omega)).symm (aK (n:=(gS l r k1 (rs++[((j:Nat):Int)-1]) (fs++[tt])).length) 0 rfl (rI hyW)) (zz _ _) (by simp only [List.length_append]; omega) (by simp only [List.length_append,maxLen]; omega) (by rw [jQ hjo1,← List.append_assoc,← List.append_assoc]; exact (FJ (by simp only [List.length_append]; omega)).symm) (rI (by rw [jQ hjo1]; simp only [List.length_append]; omega)) rfl fun a57 c58=>?_
    try dsimp only
    refine qt hT 32 19 rfl rfl (fun w hs=>St.lH [4,6,7,8,9,10,11,12,13,14,15,16,17,18] rfl rfl hs) rfl rfl ?_
    try dsimp only [List.take]
    refine v9 rfl fun Y X K hT=>rS (AG rfl)<|qt hT 33 19 rfl rfl (fun w hs=>St.lH [4,6,7,8,9,10,11,12,13,14,15,16,17,18] rfl rfl hs) rfl rfl ?_
    try dsimp only [List.take]
    refine ax<|KK hK37<|ak<|rP 3 [] mn ?_
    refine aB<|BG 1 rfl ?_
    try dsimp only [List.eraseIdx]
    refine BG 4 rfl ?_
    try dsimp only [List.eraseIdx]
    refine Fm hl19_1 ?_
    rw [← jQ hjo1]
    try dsimp only
    have hb59:(vI ((((j+1):Nat):Int)-1))=(vI ((((j:Nat):Int)-1)+1)):=by exact cI om
    refine aN (hJ33 ⟨((j+1),a57,c58,(azW++oz55)),⟨om,by dsimp only; first|(rw [hno]; exact hl19_1)|(rw [jQ hjo1,List.length_append,List.length_append,hl19_1,hyW])⟩⟩ _ _ _ rfl os (cv 8<|aY rfl hb59<|dK.nil _) (aG [0,4,5,6,7,8,9,10,11,12,13,14,15,16,17]))
   refine WS fun _ hK40=>rP 2 [] mn ?_
   refine RK hK40 ?_
   refine bM rfl (aQ fun h90=>?_) (aP fun h90=>?_)
   ·refine bZ ?_
    refine aN (jz (aL rfl) (aG [0,1,2,3,4,5,6,7,8,9,10,11,12,13,14]) (hK39 ⟨(((fy r.Start fs)+(dE l rs.length)),r.fR),⟨by first|exact y_ om|(rw [hzw]; exact zE om hs om hbw),om⟩⟩))
   refine ai fun _ hK41=>WS fun _ hK42=>rP 3 [] (mc 4 rfl mn) ?_
   obtain ⟨s,hs⟩:=aO r.ag (((((j:Nat):Int)-1)).toNat) om
   have hsm:=bI aM.cells hs
   refine rS (IA (((((j:Nat):Int)-1)).toNat) rfl (aA 11 rfl) A_ dc om om)<|rS (mT ((((((j:Nat):Int)-1)).toNat)*2) rfl (aA 11 rfl) (Nat.mul_pos om dc) gp rfl)<|rS (gU (((((j:Nat):Int)-1)).toNat) 0 (vI s.fO) rfl bJ (aA 11 rfl) hsm rfl dc rfl) ?_
   have hsg:=(hr.sig _ s hs).1
   refine rP 3 [] mn ?_
   refine c8 (t:=99) rfl (bk fun h99=>?_) (bj fun h99=>?_)
   ·refine rP 7 [] mn ?_
    refine RK hK42<|aI rfl<|bp<|ae<|ae<|au<|KK hK37<|ak<|rP 3 [] mn ?_
    refine aB ?_
    have hno:(gA l r k1 rs fs (j+1))=(gA l r k1 rs fs j):=by first|exact jI (hjo.2 h125)|exact jI (kT om hs (fun q=>h99 om))|exact jI (kT om hs (fun q=>by rw [(qR hs hbs).2 q.2] at h106; cases h106))
    rw [← hno]
    have hb43:(vI ((((j+1):Nat):Int)-1))=(vI ((((j:Nat):Int)-1)+1)):=by exact cI om
    refine aN (hJ33 ⟨((j+1),oA2,oC2,azW),⟨om,by dsimp only; first|(rw [hno]; exact hl19_1)|(rw [jQ hjo1,List.length_append,List.length_append,hl19_1,hyW])⟩⟩ _ _ _ rfl os (cv 8<|aY rfl hb43<|dK.nil _) (aG [0,1,2,3,4,5,6,7,8,9,10,11,12,13,14]))
   refine rP 3 [] (mc 3 rfl mn) ?_
   obtain ⟨bs,hbs⟩:=aO (de l r r.ag.length) (((((j:Nat):Int)-1)).toNat) om
   have hbsm:=bI iw hbs
   refine rS (IA (((((j:Nat):Int)-1)).toNat) rfl (aA 14 rfl) Cm dc om om)<|rS (gU (((((j:Nat):Int)-1)).toNat) 0 (vB bs) rfl bJ (aA 14 rfl) hbsm rfl dc rfl)<|rP 2 [] mn ?_
   refine RK hK42 ?_
   refine cP rfl (fun h106=>?_) (fun h106=>?_)
   ·rw [Bool.not_eq_true'] at h106
    refine bp<|ae<|ae<|au<|KK hK37<|ak<|rP 3 [] mn ?_
    refine aB ?_
    have hno:(gA l r k1 rs fs (j+1))=(gA l r k1 rs fs j):=by first|exact jI (hjo.2 h125)|exact jI (kT om hs (fun q=>h99 om))|exact jI (kT om hs (fun q=>by rw [(qR hs hbs).2 q.2] at h106; cases h106))
    rw [← hno]
    have hb44:(vI ((((j+1):Nat):Int)-1))=(vI ((((j:Nat):Int)-1)+1)):=by exact cI om
    refine aN (hJ33 ⟨((j+1),oA2,oC2,azW),⟨om,by dsimp only; first|(rw [hno]; exact hl19_1)|(rw [jQ hjo1,List.length_append,List.length_append,hl19_1,hyW])⟩⟩ _ _ _ rfl os (cv 8<|aY rfl hb44<|dK.nil _) (aG [0,1,2,3,4,5,6,7,8,9,10,11,12,13,14]))
   rw [Bool.not_eq_false'] at h106
   refine WK hK41<|dC cD 18 kr<|dP 4 [] (mc 3 rfl mn) ?_
   obtain ⟨z,hz⟩:=aO (cW l r r.ag.length) (((((j:Nat):Int)-1)).toNat) om
   have hzm:=bI aa.cells hz
   refine dS (IA (((((j:Nat):Int)-1)).toNat) rfl (aA 13 rfl) jF dc om om)<|dS (mT ((((((j:Nat):Int)-1)).toNat)*2) rfl (aA 13 rfl) (Nat.mul_pos om dc) gp rfl) ?_
   have hzw:=El hs hz
   have hzb:=vx l s
   rw [← hzw] at hzb
   have hbw:(cH l s).Lo≤(cH l s).Hi:=(qR hs hbs).1 h106
   refine dS (gU (((((j:Nat):Int)-1)).toNat) 0 (vI z.Lo) rfl bJ (aA 13 rfl) hzm rfl dc rfl)<|dS (MX rfl)<|dP 4 [] (mc 3 rfl mn) ?_
   refine dS (IA (((((j:Nat):Int)-1)).toNat) rfl (aA 13 rfl) jF dc om om)<|dS (mT (((((((j:Nat):Int)-1)).toNat)*2)+1) rfl (aA 13 rfl) (Nat.mul_pos om dc) gp rfl)<|dS (gU (((((j:Nat):Int)-1)).toNat) 1 (vI z.Hi) rfl bJ (aA 13 rfl) hzm rfl dc rfl)<|dS (MN rfl)<|dP 2 [] mn ?_
   refine cO<|aB ?_
   refine aN (jz (aL rfl) (aG [0,1,2,3,4,5,6,7,8,9,10,11,12,13,14]) (hK39 ⟨((max ((fy r.Start fs)+(dE l rs.length)) z.Lo),(min r.fR z.Hi)),⟨by first|exact y_ om|(rw [hzw]; exact zE om hs om hbw),om⟩⟩))
  refine WS fun _ hK29=>rP 2 [] mn ?_
  refine RK hK29 ?_
  refine bM rfl (aQ fun h66=>?_) (aP fun h66=>?_)
  ·refine bZ ?_
   have hb31:(vI (fy r.Start fs))=(vI r.Start):=by first|exact cI (uz _ _ _ (by rw [hfl]; exact hxf))|exact cI (by have e:fs=[]:=fX om; rw [e]; rfl)
   refine aN (jz (cv 7<|aY rfl hb31<|dK.nil _) (aG [0,1,2,3,4,5,6,7,8,9,10,11,12,13]) (hK28 ()))
  refine ak<|rP 3 [] mn ?_
  obtain ⟨xf,hxf⟩:=aO fs (rs.length-1) om
  have hxfm:=bI iC hxf
  refine rS (IA (rs.length-1) rfl (show ji _ (rd fA fs.length 1 (fs.map iC)).holds from (oI (c:=fC) (e:=3) 5 rfl sm sm)) dB dc om om)<|rS (gU (rs.length-1) 0 (vI xf) rfl bJ (show ji _ (rd fA fs.length 1 (fs.map iC)).holds from (oI (c:=fC) (e:=3) 5 rfl sm sm)) hxfm rfl dc rfl)<|rP 1 [] mn ?_
  refine aB ?_
  have hb30:(vI (fy r.Start fs))=(vI xf):=by first|exact cI (uz _ _ _ (by rw [hfl]; exact hxf))|exact cI (by have e:fs=[]:=fX om; rw [e]; rfl)
  refine aN (jz (cv 7<|aY rfl hb30<|dK.nil _) (aG [0,1,2,3,4,5,6,7,8,9,10,11,12,13]) (hK28 ()))
 refine WS fun _ hK24=>rP 8 [0,1] (mc 1 rfl (mc 2 rfl mn)) ?_
 refine RK hK24 ?_
 refine bM rfl (aQ fun h46=>?_) (aP fun h46=>?_)
 ·refine bZ ?_
  refine Bp<|C7 235 3 ?_
  rw [show (own none 0 235 3 [])=(own none 0 235 3 (List.zipWith cT.cells (fJ l r rs fs) [])) from by rw [uE h46]; rfl]
  have hb33:(vS none ((fJ l r rs fs).length) 0)=(vS none 0 0):=by first|rfl|(rw [uE h46]; rfl)
  refine aN (jz (cv 5<|aY rfl hb33<|aL rfl) (aG [0,1,2,3,4,5,6,7,8,9,10,11,12,13]) (hK23 ⟨(none,0,[],[]),(by first|exact .inl ⟨h46,_,rfl,rfl⟩|exact .inr ⟨h46,rfl,rfl⟩)⟩))
 refine ak<|rP 6 [0,1] (mc 1 rfl (mc 0 rfl mn)) ?_
 refine cX (Eh r sgA sgC l vwA vwC vtA vtC vbA vbC rs rA rC hle hr om (by exact fun x hx h0=>(hrs x hx).2)) (cw 8 rfl rfl<|cw 9 rfl rfl<|cw 10 rfl rfl<|cw 11 rfl rfl<|bq (show ji _ (rd rA rs.length 1 (rs.map iC)).holds from (oI (c:=rC) (e:=3) 3 rfl sm sm))<|aT) rfl fun y25 hy26=>?_
 obtain ⟨a27,c28⟩:=y25
 try dsimp only
 refine rS (SX (bg (xs:=[(0,.tmp 48),(1,.tmp 49),(2,.tmp 53)]) (cs:=(vi.cells (vi.mk (bB.mk rA rs.length rC) (bB.mk fA fs.length fC) (bB.mk a27 ((iF l r rs).length) c28)))) rfl rfl (bf My rfl)) rfl rfl)<|fc (xs:=[.tmp 54]) (cs:=(vi.cells (vi.mk (bB.mk rA rs.length rC) (bB.mk fA fs.length fC) (bB.mk a27 ((iF l r rs).length) c28)))) rfl Bw Mg rfl rfl rfl rfl (by simp [Value.cells,vi.aX]) rfl rfl fun b29=>kY 235 3<|er (es2:=(List.zipWith cT.cells (fJ l r rs fs) ([((rA,rC),(fA,fC),(a27,c28))]))) (m':=(fJ l r rs fs).length) 0 rfl rfl rfl ID rfl rfl rfl (a_ (es:=List.zipWith cT.cells [(cT.mk rs fs (iF l r rs))] [((rA,rC),(fA,fC),(a27,c28))]) 1 rfl rfl (by intro e he; simp at he; subst he; rfl) rfl) (zz _ _) dc dc (by rw [wI h46]; rfl) (by rw [wI h46]; rfl) rfl fun a30 c31=>?_
 try dsimp only
 refine AP<|LZ 0 3 rfl rfl rfl ?_
 try dsimp only
 refine rP 1 [] mn ?_
 refine aB ?_
 have hb32:(vS a30 ((fJ l r rs fs).length) c31)=(vS a30 ((fJ l r rs fs).length) c31):=by first|rfl|(rw [uE h46]; rfl)
 refine aN (jz (cv 5<|aY rfl hb32<|aL rfl) (aG [1,0,3,4,5,6,7,8,9,10,11,12,13,14]) (hK23 ⟨(a30,c31,[((rA,rC),(fA,fC),(a27,c28))],[(own a27 c28 3 1 ((iF l r rs).map iC))]),(by first|exact .inl ⟨h46,_,rfl,rfl⟩|exact .inr ⟨h46,rfl,rfl⟩)⟩))
theorem Kn (l:aV) (kA:OA) (kC:Nat) (az:List RA) (cA:OA) (cC:Nat) (bA:OA) (bC:Nat) (r:cq) (sgA:OA) (sgC:Nat) (vwA:OA) (vwC:Nat) (vtA:OA) (vtC:Nat) (vbA:OA) (vbC k:Nat) (rs:List Int) (rA:OA) (rC:Nat) (fs:List Int) (fA:OA) (fC:Nat) (hin:eN l az) (hle:dh l=0) (hr:ed l r) (hk:rs.length+k=l.ab.length) (hfl:fs.length=rs.length) (hst:r.Start≤fy r.Start fs∧fy r.Start fs≤r.fR) (hrs: ∀ x∈rs,-1≤x∧x<(r.ag.length:Int)):
 Ee Tryz.prog 167 [(vA (cE.cells (jx l kA kC cA cC bA bC))),(vA (eE.cells (ke r sgA sgC))),(vA (eY.cells (eY.mk (bB.mk vwA ((bS l l.ab.length).length) vwC) (bB.mk vtA ((cW l r r.ag.length).length) vtC) (bB.mk vbA ((de l r r.ag.length).length) vbC)))),(vS rA rs.length rC),(vS fA fs.length fC)] [(rd kA l.aH.length 9 (l.aH.map ah.cells)),(rd cA l.aj.length 2 (List.zipWith al.cells l.aj az)),(du (aU al.fK l.aj az)),(rd bA l.ab.length 4 (l.ab.map bx.cells)),(rd sgA r.ag.length 2 (r.ag.map aM.cells)),(rd vwA ((bS l l.ab.length).length) 1 ((bS l l.ab.length).map iC)),(rd vtA ((cW l r r.ag.length).length) 2 ((cW l r r.ag.length).map aa.cells)),(rd vbA ((de l r r.ag.length).length) 1 ((de l r r.ag.length).map iw))] (bV [own rA rC 3 1 (rs.map iC),own fA fC 3 1 (fs.map iC)]) (fun (x:(OA)×Nat×(List j8))=>(vS x.1 ((gS l r k rs fs).length) x.2.1)) (fun (x:(OA)×Nat×(List j8))=>x.2.2.length=(gS l r k rs fs).length) (fun (x:(OA)×Nat×(List j8))=>(bV (aU cT.owns (gS l r k rs fs) x.2.2++[own x.1 x.2.1 235 3 (List.zipWith cT.cells (gS l r k rs fs) x.2.2)]))):=by
 induction k using Nat.strongRecOn generalizing rs rA rC fs fA fC with
 |ind k ih=>exact Dz l kA kC az cA cC bA bC r sgA sgC vwA vwC vtA vtC vbA vbC k rs rA rC fs fA fC hin hle hr hk hfl hst hrs (fun k2 rs2 rA2 rC2 fs2 fA2 fC2 e1 e2 e3 e4 e5=>ih k2 e1 rs2 rA2 rC2 fs2 fA2 fC2 e2 e3 e4 e5)
end
section
open Go.RowKit
theorem Iu (l:aV) (kA:OA) (kC:Nat) (az:List RA) (cA:OA) (cC:Nat) (bA:OA) (bC:Nat) (r:cq) (sgA:OA) (sgC:Nat) (hin:eN l az) (hsl:r.ag.length≤1000000):
 oY Tryz.prog 150 [(vA (cE.cells (jx l kA kC cA cC bA bC))),(vA (eE.cells (ke r sgA sgC)))] [(rd kA l.aH.length 9 (l.aH.map ah.cells)),(rd cA l.aj.length 2 (List.zipWith al.cells l.aj az)),(du (aU al.fK l.aj az)),(rd bA l.ab.length 4 (l.ab.map bx.cells)),(rd sgA r.ag.length 2 (r.ag.map aM.cells))] (fun (x:Bool×Int×(OA)×Nat×(List j8))=>bif x.1 then (vT [(vS x.2.2.1 ((nE l r).length) x.2.2.2.1),(vI 0)]) else (vT [(vS none 0 0),(vI x.2.1)])) (fun (x:Bool×Int×(OA)×Nat×(List j8))=>(x.1=true→(dN l r 0=0∧x.2.2.2.2.length=(nE l r).length))∧(x.1=false→(x.2.1=dN l r 0∧ ¬ dN l r 0=0))) (fun (x:Bool×Int×(OA)×Nat×(List j8))=>bif x.1 then [(own x.2.2.1 x.2.2.2.1 235 3 (List.zipWith cT.cells (nE l r) x.2.2.2.2)),(bV (aU cT.owns (nE l r) x.2.2.2.2))] else []):=by
 have htk:=hin.r_
 have hck:=hin.se
 have has:=hin.qa
 have hbm:=hin.sb
 refine ff kr Tryz.func150 rfl rfl fun w0 Q hQ hN=>?_
 try dsimp only
 refine WS fun _ hK1=>fP rfl fun b2=>fP rfl fun b3=>rP 2 [] mn ?_
 refine RK hK1<|ai fun _ hK4=>WS fun _ hK5=>rP 1 [] (mc 1 rfl mn) ?_
 refine rS (CL (zm l kA kC az cA cC bA bC hin) (bh [2,3,4,5]) rfl)<|rP 1 [] mn ?_
 refine RK hK5<|WS fun _ hK6=>rP 2 [] mn ?_
 refine RK hK6 ?_
 refine cP rfl (bk fun h11=>?_) (bj fun h11=>?_)
 ·refine WS fun _ hK7=>?_
  refine rP 3 [] mn ?_
  refine RK hK7<|an ?_
  refine hQ _ _ _ (aZ (vs:=[(vS none 0 0),(vI (dh l))]) ⟨rfl,rfl,trivial⟩ fun w hs=>ej (false,(dh l),none,0,[]) [] ?_ ?_ rfl rfl (by first|rfl|(show List.all _ _=true; simp only [cond_true,cg,List.all_nil,rj,Bool.and_true]; rfl)) hs)
  ·rfl
  ·refine ⟨fun q=>Bool.noConfusion (show false=true from q),fun _=>?_⟩; first|(have e:=eQ (r:=r) (me:=0) h11; exact ⟨e.symm,fun q=>h11 (e.symm.trans q)⟩)|(have e:=db (me:=0) h11 h16; exact ⟨e.symm,fun q=>absurd (e.symm.trans q) dc⟩)|(have e:=fE (me:=0) h11 h16 rfl ((cd h11 h16).1 (fX (Int.natCast_eq_zero.1 h25))); exact ⟨e.symm,fun q=>absurd (e.symm.trans q) dc⟩)
 refine WK hK4<|ai fun _ hK8=>WS fun _ hK9=>rP 2 [0,1] (mc 1 rfl (mc 0 rfl mn)) ?_
 refine rS (CL (Hs l kA kC az cA cC bA bC r sgA sgC hin (by exact hsl)) (bh [2,3,4,5,6]) rfl)<|rP 1 [] mn ?_
 refine RK hK9 ?_
 refine cP rfl (bk fun h16=>?_) (bj fun h16=>?_)
 ·refine WS fun _ hK10=>?_
  refine rP 2 [] mn ?_
  refine RK hK10<|an ?_
  refine hQ _ _ _ (aZ (vs:=[(vS none 0 0),(vI 51)]) ⟨rfl,rfl,trivial⟩ fun w hs=>ej (false,51,none,0,[]) [] ?_ ?_ rfl rfl (by first|rfl|(show List.all _ _=true; simp only [cond_true,cg,List.all_nil,rj,Bool.and_true]; rfl)) hs)
  ·rfl
  ·refine ⟨fun q=>Bool.noConfusion (show false=true from q),fun _=>?_⟩; first|(have e:=eQ (r:=r) (me:=0) h11; exact ⟨e.symm,fun q=>h11 (e.symm.trans q)⟩)|(have e:=db (me:=0) h11 h16; exact ⟨e.symm,fun q=>absurd (e.symm.trans q) dc⟩)|(have e:=fE (me:=0) h11 h16 rfl ((cd h11 h16).1 (fX (Int.natCast_eq_zero.1 h25))); exact ⟨e.symm,fun q=>absurd (e.symm.trans q) dc⟩)
 refine WK hK8<|ai fun _ hK11=>ep cD [4,5,6] [] [] [0,1,2,3,4,5,6] [] rfl rfl rfl rfl rfl<|eS rfl (LW 1 rfl bJ rfl rfl)<|eS rfl (LW 0 rfl bJ rfl rfl)<|eS rfl (LW 1 rfl bJ rfl rfl)<|eS rfl (LW 0 rfl bJ rfl rfl)<|fp rfl<|cr rfl fun T12 hT12=>cX (HO l kA kC az cA cC bA bC r sgA sgC hin (by exact h11) (by exact h16)) (bh [2,3,4,5,6]) rfl fun y13 hy14=>?_
 obtain ⟨a15,c16,ta17,tc18,sa19,sc20⟩:=y13
 try dsimp only
 refine aB (hT12 _ _ (aG [3,4,5,6,7,8,9]) ?_)
 refine cr rfl fun T21 hT21=>kY 3 1<|kY 3 1<|AP<|qb 1 rfl ?_
 try dsimp only [List.eraseIdx]
 refine xE rfl<|qb 1 rfl ?_
 try dsimp only [List.eraseIdx]
 refine xE rfl ?_
 try dsimp only
 refine lF 0 rfl rfl rfl rfl (Kn l kA kC az cA cC bA bC r sgA sgC a15 c16 ta17 tc18 sa19 sc20 l.ab.length ([]:List Int) none 0 ([]:List Int) none 0 hin (by exact h11) (by exact h16) sm (by rfl) (by exact ⟨Int.le_refl _,h16.time.2.1⟩) (by intro x hx; cases hx)) rfl (eo 6 rfl rfl (eD (bO _)) (eo 7 rfl rfl (eD (bO _)) (eo 8 rfl rfl (bO _) (eo 9 rfl rfl (eD (bO _)) (eo 10 rfl rfl (eD (bO _)) (eo 1 rfl rfl (jU sm) (eo 2 rfl rfl (jU sm) (eo 3 rfl rfl (jU sm) nu)))))))) rfl (fun y25 hyW=>?_)
 obtain ⟨oA22,oC23,oz24⟩:=y25
 try dsimp only
 refine aB (hT21 _ _ (aG [4,5,6,7,8,9,10]) ?_)
 refine cr rfl fun T26 hT26=>qb 0 rfl ?_
 try dsimp only [List.eraseIdx]
 refine w4 ?_
 dsimp only at hyW
 refine rS (AG rfl) ?_
 refine aB (hT26 _ _ (aG [5,6,7,8,9,10,11]) ?_)
 refine gh rfl<|KK hK11<|ai fun _ hK27=>WS fun _ hK28=>rP 3 [] mn ?_
 refine RK hK28 ?_
 refine bM rfl (aQ fun h25=>?_) (aP fun h25=>?_)
 ·refine WK hK27 ?_
  refine WS fun _ hK30=>rP 3 [] mn ?_
  refine RK hK30<|an ?_
  refine hQ _ _ _ (aZ (vs:=[(vS oA22 ((gS l r l.ab.length ([]:List Int) ([]:List Int)).length) oC23),(vI 0)]) ⟨rfl,rfl,trivial⟩ fun w hs=>ej (true,0,oA22,oC23,oz24) [0,1] ?_ ?_ rfl rfl (by first|rfl|(show List.all _ _=true; simp only [cond_true,cg,List.all_nil,rj,Bool.and_true]; rfl)) hs)
  ·rfl
  ·exact ⟨fun _=>⟨mo h11 h16 rfl fun q=>h25 (by rw [show gS l r l.ab.length [] []=[] from (cd h11 h16).2 q]; rfl),hyW⟩,fun q=>Bool.noConfusion (show true=false from q)⟩
 refine WS fun _ hK29=>rP 2 [] mn ?_
 refine RK hK29<|an ?_
 refine hQ _ _ _ (aZ (vs:=[(vS none 0 0),(vI 8)]) ⟨rfl,rfl,trivial⟩ fun w hs=>ej (false,8,none,0,[]) [] ?_ ?_ rfl rfl (by first|rfl|(show List.all _ _=true; simp only [cond_true,cg,List.all_nil,rj,Bool.and_true]; rfl)) hs)
 ·rfl
 ·refine ⟨fun q=>Bool.noConfusion (show false=true from q),fun _=>?_⟩; first|(have e:=eQ (r:=r) (me:=0) h11; exact ⟨e.symm,fun q=>h11 (e.symm.trans q)⟩)|(have e:=db (me:=0) h11 h16; exact ⟨e.symm,fun q=>absurd (e.symm.trans q) dc⟩)|(have e:=fE (me:=0) h11 h16 rfl ((cd h11 h16).1 (fX (Int.natCast_eq_zero.1 h25))); exact ⟨e.symm,fun q=>absurd (e.symm.trans q) dc⟩)
theorem D9 (ws:List cT) (wz:List j8) (wA:OA) (wC b:Nat) (hws:HT ws) (hwz:wz.length=ws.length) (hb:b≤6):
 eu Tryz.prog 151 [(vS wA ws.length wC),(vI ((b:Nat):Int))] [(rd wA ws.length 3 (List.zipWith cT.cells ws wz)),(du (aU cT.fK ws wz))] (vT [(vA (aa.cells (mH ws b))),(vI (lp ws b))]):=by
 have hwn:=hws.num
 refine bu kr Tryz.func151 rfl rfl fun w0 Q hQ hN=>?_
 try dsimp only
 refine WS fun _ hK1=>AL rfl cV fun b2=>rP 1 [] mn ?_
 refine RK hK1<|WS fun _ hK3=>AL rfl cV fun b4=>RK hK3<|WS fun _ hK5=>rP 1 [] mn ?_
 refine RK hK5<|ai fun _ hK6=>WS fun _ hK7=>rP 1 [] mn ?_
 refine RK hK7<|av ?_
 have hinit:(0≤ws.length)∧(mL b (ws.take 0) false (aa.mk 0 0)):=by exact ⟨Nat.zero_le _,CR⟩
 refine cp (ι:={z:Nat×Bool×aa // (z.1≤ws.length)∧(mL b (ws.take z.1) z.2.1 z.2.2)}) (fun z=>[(0,(vS wA ws.length wC)),(1,(vI ((b:Nat):Int))),(4,(vP b2)),(5,(vI 0)),(6,(vP b4)),(7,(vB z.1.2.1)),(8,(vI ((z.1.1:Nat):Int)))]) (fun z=>[(br b4 47 (aa.cells z.1.2.2)),(br b2 47 (aa.cells (aa.mk 0 0))),(rd wA ws.length 3 (List.zipWith cT.cells ws wz)).ro,(du (aU cT.fK ws wz)).ro]) (fun z=>ws.length-z.1.1) ⟨(0,false,(aa.mk 0 0)),hinit⟩ (aL rfl) (aG [0,1,2,3]) ?_
 clear hinit
 rintro ⟨⟨i,fd,o⟩,⟨hl4_0,hl4_1⟩⟩ J8 hJ8
 try dsimp only at hl4_0 hl4_1
 try dsimp only
 refine ai fun _ hK9=>WS fun _ hK10=>rP 4 [] mn ?_
 refine RK hK10 ?_
 refine bM rfl (aQ fun h11=>?_) (aP fun h11=>?_)
 ·refine bp ?_
  refine ae<|ae<|au<|KK hK6<|ai fun _ hK24=>WS fun _ hK25=>rP 2 [] mn ?_
  refine RK hK25 ?_
  refine bM rfl (fun h55=>?_) (fun h55=>?_)
  ·rw [Bool.not_eq_false'] at h55
   refine WK hK24<|WS fun _ hK27=>rP 1 [] (mc 0 rfl mn) ?_
   refine oV rfl bY rfl<|rP 1 [] mn ?_
   refine RK hK27<|an ?_
   refine hQ _ _ _ (aZ (vs:=[(vA (aa.cells o)),(vI 0)]) ⟨⟨_,rfl,.inl ⟨_,_,bJ,bQ (vs:=(aa.cells o)) 1 rfl rfl,rfl,rfl⟩⟩,rfl,trivial⟩ fun w hs=>eM ?_ hs)
   show (vT [(vA (aa.cells o)),(vI 0)])=(vT [(vA (aa.cells (mH ws b))),(vI (lp ws b))])
   clear hs w hQ hN hK27 hK25 hK24 hK10 hK9 hK7 hK6 hK5 hK3 hK1
   have hff:=w7 (by have q:=hl4_1; rwa [List.take_of_length_le om] at q) hws.BL
   first|(have q:=hff.1 h55; rw [q.1,q.2]; done)|(have q:=hff.2 h55; rw [q.1,q.2]; done)
  rw [Bool.not_eq_true'] at h55
  refine WS fun _ hK26=>rS (SX (bg (xs:=[]) (cs:=(aa.cells (aa.mk 0 0))) rfl rfl (bf fg rfl)) rfl rfl)<|oV rfl bY rfl<|rP 1 [] mn ?_
  refine RK hK26<|an ?_
  refine hQ _ _ _ (aZ (vs:=[(vA (aa.cells (aa.mk 0 0))),(vI 6)]) ⟨⟨_,rfl,.inl ⟨_,_,bJ,bQ (vs:=(aa.cells (aa.mk 0 0))) 1 rfl rfl,rfl,rfl⟩⟩,rfl,trivial⟩ fun w hs=>eM ?_ hs)
  show (vT [(vA (aa.cells (aa.mk 0 0))),(vI 6)])=(vT [(vA (aa.cells (mH ws b))),(vI (lp ws b))])
  clear hs w hQ hN hK26 hK25 hK24 hK10 hK9 hK7 hK6 hK5 hK3 hK1
  have hff:=w7 (by have q:=hl4_1; rwa [List.take_of_length_le om] at q) hws.BL
  first|(have q:=hff.1 h55; rw [q.1,q.2]; done)|(have q:=hff.2 h55; rw [q.1,q.2]; done)
 refine WK hK9<|ai fun _ hK12=>av<|ai fun _ hK13=>WS fun _ hK14=>rP 2 [] mn ?_
 obtain ⟨y,hy⟩:=aO ws i om
 obtain ⟨ya,hya⟩:=aO wz i om
 have hym:(List.zipWith cT.cells ws wz)[i]? =some (cT.cells y ya):=gn hy hya
 refine rS (IA i rfl (aA 2 rfl) Bw dc om om)<|rS (mT (i*3) rfl (aA 2 rfl) (Nat.mul_pos om dc) gp rfl)<|rS (gU i 0 (vS ya.1.1 y.fW.length ya.1.2) rfl bJ (aA 2 rfl) hym rfl dc rfl)<|rP 3 [] mn ?_
 refine RK hK14 ?_
 refine cP rfl (aP fun h23=>?_) (aQ fun h23=>?_)
 ·refine bp ?_
  refine ae<|au<|KK hK12<|ak<|rP 3 [] mn ?_
  refine aB ?_
  have hb15:(vI (((i+1):Nat):Int))=(vI (((i:Nat):Int)+1)):=by exact cI om
  refine aN (hJ8 ⟨((i+1),fd,o),⟨om,by dsimp only; rw [lf hy]; first|exact qA hl4_1 om|exact pk hl4_1 h41 hs hf he hfe|exact qG hl4_1 h41 hs hf he hfe⟩⟩ _ _ _ rfl os (cv 6<|aY rfl hb15<|dK.nil _) (aG [0,1,2,3]))
 refine WK hK13<|ai fun _ hK16=>ep cD [17,18] [] [] [0,1,2,3] [] rfl rfl rfl rfl rfl ?_
 have hyl:=hws.lens y (aw hy)
 obtain ⟨s,hs⟩: ∃ s,y.fW[b]? =some s:=⟨y.fW[b]'om,gv _⟩
 refine eS rfl (MV rfl)<|eS rfl (MV rfl)<|eS rfl (IA i rfl (aA 2 rfl) Bw dc om om)<|eS rfl (mT ((i*3)+1) rfl (aA 2 rfl) (Nat.mul_pos om dc) gp rfl)<|eS rfl (gU i 1 (vS ya.2.1.1 y.ic.length ya.2.1.2) rfl bJ (aA 2 rfl) hym rfl dc rfl)<|eS rfl (MV rfl) ?_
 obtain ⟨f,hf⟩:=aO y.ic b om
 have hfm:=bI iC hf
 refine eS rfl (IA b rfl (show ji _ (rd ya.2.1.1 y.ic.length 1 (y.ic.map iC)).holds from (dA 3 rfl (cm hy hya (by simp [cT.fK])))) dB dc om om)<|eS rfl (gU b 0 (vI f) rfl bJ (show ji _ (rd ya.2.1.1 y.ic.length 1 (y.ic.map iC)).holds from (dA 3 rfl (cm hy hya (by simp [cT.fK])))) hfm rfl dc rfl)<|eS rfl (MV rfl)<|eS rfl (MV rfl)<|eS rfl (IA i rfl (aA 2 rfl) Bw dc om om)<|eS rfl (mT ((i*3)+2) rfl (aA 2 rfl) (Nat.mul_pos om dc) gp rfl)<|eS rfl (gU i 2 (vS ya.2.2.1 y.lq.length ya.2.2.2) rfl bJ (aA 2 rfl) hym rfl dc rfl)<|eS rfl (MV rfl) ?_
 obtain ⟨e,he⟩:=aO y.lq b om
 have hem:=bI iC he
 refine eS rfl (IA b rfl (show ji _ (rd ya.2.2.1 y.lq.length 1 (y.lq.map iC)).holds from (dA 3 rfl (cm hy hya (by simp [cT.fK])))) dB dc om om)<|eS rfl (gU b 0 (vI e) rfl bJ (show ji _ (rd ya.2.2.1 y.lq.length 1 (y.lq.map iC)).holds from (dA 3 rfl (cm hy hya (by simp [cT.fK])))) hem rfl dc rfl)<|eS rfl (SX (bg (xs:=[(0,.tmp 31),(1,.tmp 39)]) (cs:=(aa.cells (aa.mk f e))) rfl rfl (bf fg rfl)) rfl rfl)<|fp rfl<|cr rfl fun T17 hT17=>AL rfl cV fun b18=>?_
 refine aB (hT17 _ _ (aG [1,2,3,4]) ?_)
 refine cr rfl fun T19 hT19=>f_ rfl bY rfl ?_
 refine aB (hT19 _ _ (aG [1,2,3,4]) ?_)
 refine gh rfl<|KK hK16<|ai fun _ hK20=>WS fun _ hK21=>?_
 have hfe:=hws.le y (aw hy) b f e om hf he
 refine rP 1 [] mn ?_
 refine RK hK21 ?_
 refine bM rfl (fun h41=>?_) (fun h41=>?_)
 ·refine WK hK20 ?_
  refine ak<|rP 1 [] (mc 0 rfl mn) ?_
  refine oV rfl bY rfl<|rP 1 [] mn ?_
  refine aB<|ax<|KK hK12<|ak<|rP 3 [] mn ?_
  refine aB ?_
  have hb23:(vI (((i+1):Nat):Int))=(vI (((i:Nat):Int)+1)):=by exact cI om
  refine aN (hJ8 ⟨((i+1),true,(aa.mk f e)),⟨om,by dsimp only; rw [lf hy]; first|exact qA hl4_1 om|exact pk hl4_1 h41 hs hf he hfe|exact qG hl4_1 h41 hs hf he hfe⟩⟩ _ _ _ rfl os (cv 6<|aY rfl hb23<|dK.nil _) (aG [1,2,3,4]))
 refine ak<|rP 4 [0,1] (mc 0 rfl (mc 1 rfl mn)) ?_
 refine rS (MN rfl)<|rP 4 [0,1] (mc 0 rfl (mc 1 rfl mn)) ?_
 refine rS (MX rfl)<|rS (SX (bg (xs:=[(0,.tmp 46),(1,.tmp 51)]) (cs:=(aa.cells (aa.mk (min f o.Lo) (max e o.Hi)))) rfl rfl (bf fg rfl)) rfl rfl)<|f_ rfl bY rfl<|RK hK20<|ak<|rP 1 [] (mc 0 rfl mn) ?_
 refine oV rfl bY rfl<|rP 1 [] mn ?_
 refine aB<|ax<|KK hK12<|ak<|rP 3 [] mn ?_
 refine aB ?_
 have hb22:(vI (((i+1):Nat):Int))=(vI (((i:Nat):Int)+1)):=by exact cI om
 refine aN (hJ8 ⟨((i+1),true,(aa.mk (min f o.Lo) (max e o.Hi))),⟨om,by dsimp only; rw [lf hy]; first|exact qA hl4_1 om|exact pk hl4_1 h41 hs hf he hfe|exact qG hl4_1 h41 hs hf he hfe⟩⟩ _ _ _ rfl os (cv 6<|aY rfl hb22<|dK.nil _) (aG [1,2,3,4]))
end
section
open Go.RowKit
theorem JN (l:aV) (kA:OA) (kC:Nat) (az:List RA) (cA:OA) (cC:Nat) (bA:OA) (bC:Nat) (r:cq) (sgA:OA) (sgC:Nat) (hin:eN l az) (hsl:r.ag.length≤1000000):
 eu Tryz.prog 124 [(vA (cE.cells (cE.mk (bL.mk (bB.mk kA l.aH.length kC)) l.lX (bB.mk cA l.aj.length cC) (bB.mk bA l.ab.length bC) l.cz l.iH l.e8))),(vA (eE.cells (ke r sgA sgC)))] [(rd kA l.aH.length 9 (l.aH.map ah.cells)),(rd cA l.aj.length 2 (List.zipWith al.cells l.aj az)),(du (aU al.fK l.aj az)),(rd bA l.ab.length 4 (l.ab.map bx.cells)),(rd sgA r.ag.length 2 (r.ag.map aM.cells))] (vT [(vA (aa.cells (kv l r))),(vI (dv l r l.cz))]):=by
 have htk:=hin.r_
 have hck:=hin.se
 have has:=hin.qa
 have hbm:=hin.sb
 refine bu kr Tryz.func124 rfl rfl fun w0 Q hQ hN=>?_
 try dsimp only
 refine WS fun _ hK1=>fP rfl fun b2=>fP rfl fun b3=>AL rfl cV fun b4=>rP 1 [] mn ?_
 refine RK hK1<|WS fun _ hK5=>rP 2 [0,1] (mc 2 rfl (mc 1 rfl mn)) ?_
 refine cX (Iu l kA kC az cA cC bA bC r sgA sgC hin hsl) (bh [3,4,5,6,7]) rfl fun y6 hy7=>?_
 obtain ⟨ok12,ec8,a9,c10,oz11⟩:=y6
 cases ok12
 ·obtain ⟨hec,he⟩:=hy7.2 rfl
  try dsimp only at hec he
  subst hec
  try dsimp only [cond_true,cond_false,List.cons_append,List.nil_append]
  refine rP 5 [] mn ?_
  refine RK hK5<|ai fun _ hK13=>WS fun _ hK14=>rP 2 [] mn ?_
  refine RK hK14 ?_
  refine bM rfl (bj fun h16=>?_) (bk fun h16=>?_)
  ·exact absurd h16 he
  refine WS fun _ hK15=>rS (SX (bg (xs:=[]) (cs:=(aa.cells (aa.mk 0 0))) rfl rfl (bf fg rfl)) rfl rfl)<|rP 1 [] mn ?_
  refine f_ rfl bY rfl<|rP 1 [] mn ?_
  refine RK hK15<|an ?_
  refine hQ _ _ _ (aZ (vs:=[(vA (aa.cells (aa.mk 0 0))),(vI (dN l r 0))]) ⟨⟨_,rfl,.inl ⟨_,_,bJ,bQ (vs:=(aa.cells (aa.mk 0 0))) 0 rfl rfl,rfl,rfl⟩⟩,rfl,trivial⟩ fun w hs=>eM ?_ hs)
  show (vT [(vA (aa.cells (aa.mk 0 0))),(vI (dN l r 0))])=(vT [(vA (aa.cells (kv l r))),(vI (dv l r l.cz))])
  clear hs w hQ hN hK15 hK14 hK13 hK5 hK1
  first|(rw [px (fun z=>he ((ks he).symm.trans z)),ks he]<;>rfl)|(rw [px (fun z=>h27 (hpq.1.trans z)),← hpq.1]<;>rfl)|(rw [sI hpz,hpz])
 obtain ⟨he,hoz⟩:=hy7.1 rfl
 try dsimp only [cond_true,cond_false,List.cons_append,List.nil_append]
 try dsimp only at he hoz
 obtain ⟨hle,hro,_,hnn⟩:=jM he
 obtain ⟨htr,hok⟩:=gr hle
 have hhd:=hok.head
 unfold dU at hhd
 have hws:=Jn hle hro
 have hwn:=hws.num
 have hrl:=hro.len
 have hrt:=hro.time
 refine rP 5 [] mn ?_
 refine RK hK5<|ai fun _ hK16=>WS fun _ hK17=>rP 1 [] mn ?_
 refine rS (SX (cb (r:= .bool false) rfl rfl rfl qj) rfl rfl)<|RK hK17<|aW rfl<|WK hK16<|ai fun _ hK18=>?_
 obtain ⟨b,hfn⟩: ∃ b:Nat,l.cz=((b:Nat):Int):=⟨l.cz.toNat,om⟩
 have hpq:=Gw he (b:=b) om
 rw [← hfn] at hpq
 rw [hfn]
 refine ak<|rP 3 [] (mc 4 rfl mn) ?_
 refine rS (CL (D9 (nE l r) oz11 a9 c10 b (by exact hws) (by exact hoz) om) (bq (aK (n:=(nE l r).length) 0 rfl (rI hoz))<|bq (j7 1 rfl HJ)<|aT) rfl)<|rP 3 [] mn ?_
 refine AL rfl cV fun b19=>f_ rfl bY rfl<|rP 1 [] mn ?_
 refine RK hK18<|ai fun _ hK20=>WS fun _ hK21=>rP 2 [] mn ?_
 refine RK hK21 ?_
 refine cP rfl (bk fun h27=>?_) (bj fun h27=>?_)
 ·refine WS fun _ hK22=>?_
  refine rS (SX (bg (xs:=[]) (cs:=(aa.cells (aa.mk 0 0))) rfl rfl (bf fg rfl)) rfl rfl)<|rP 1 [] mn ?_
  refine GZ rfl bY rfl<|rP 1 [] mn ?_
  refine RK hK22<|an ?_
  refine hQ _ _ _ (aZ (vs:=[(vA (aa.cells (aa.mk 0 0))),(vI (lp (nE l r) b))]) ⟨⟨_,rfl,.inl ⟨_,_,bJ,bQ (vs:=(aa.cells (aa.mk 0 0))) 3 rfl rfl,rfl,rfl⟩⟩,rfl,trivial⟩ fun w hs=>eM ?_ hs)
  show (vT [(vA (aa.cells (aa.mk 0 0))),(vI (lp (nE l r) b))])=(vT [(vA (aa.cells (kv l r))),(vI (dv l r l.cz))])
  clear hs w hQ hN hK22 hK21 hK20 hK18 hK17 hK16 hK5 hK1
  first|(rw [px (fun z=>he ((ks he).symm.trans z)),ks he]<;>rfl)|(rw [px (fun z=>h27 (hpq.1.trans z)),← hpq.1]<;>rfl)|(rw [sI hpz,hpz])
 refine WK hK20<|ai fun _ hK23=>?_
 have hpz:dv l r l.cz=0:=hpq.1.symm.trans h27
 have hpb:=uG hpz
 rw [hpq.2]
 refine ak<|rP 10 [0,1,0,1] (mc 0 rfl (mc 4 rfl mn)) ?_
 refine rS (SX (bg (xs:=[(0,.tmp 34),(1,.tmp 39)]) (cs:=(aa.cells (aa.mk (((dw l r l.cz).Lo)-r.Start) (((dw l r l.cz).Hi)-r.Start)))) rfl rfl (bf fg rfl)) rfl rfl)<|GZ rfl bY rfl<|rP 1 [] mn ?_
 refine RK hK23<|an ?_
 refine hQ _ _ _ (aZ (vs:=[(vA (aa.cells (aa.mk (((dw l r l.cz).Lo)-r.Start) (((dw l r l.cz).Hi)-r.Start)))),(vI 0)]) ⟨⟨_,rfl,.inl ⟨_,_,bJ,bQ (vs:=(aa.cells (aa.mk (((dw l r l.cz).Lo)-r.Start) (((dw l r l.cz).Hi)-r.Start)))) 3 rfl rfl,rfl,rfl⟩⟩,rfl,trivial⟩ fun w hs=>eM ?_ hs)
 show (vT [(vA (aa.cells (aa.mk (((dw l r l.cz).Lo)-r.Start) (((dw l r l.cz).Hi)-r.Start)))),(vI 0)])=(vT [(vA (aa.cells (kv l r))),(vI (dv l r l.cz))])
 clear hs w hQ hN hK23 hK21 hK20 hK18 hK17 hK16 hK5 hK1
 first|(rw [px (fun z=>he ((ks he).symm.trans z)),ks he]<;>rfl)|(rw [px (fun z=>h27 (hpq.1.trans z)),← hpq.1]<;>rfl)|(rw [sI hpz,hpz])
end
section
open Go.RowKit
theorem Av (l:aV) (kA:OA) (kC:Nat) (az:List RA) (cA:OA) (cC:Nat) (bA:OA) (bC:Nat) (d:aS) (sgA:OA) (sgC:Nat) (hin:eN l az) (hle:dh l=0) (hsl:d.bP.ag.length≤1000000) (hk:d.Out=true):
 eu Tryz.prog 91 [(vA (cE.cells (jx l kA kC cA cC bA bC))),(vA (bD.cells (bD.mk d.Out d.dM d.Time (ke d.bP sgA sgC))))] [(rd kA l.aH.length 9 (l.aH.map ah.cells)),(rd cA l.aj.length 2 (List.zipWith al.cells l.aj az)),(du (aU al.fK l.aj az)),(rd bA l.ab.length 4 (l.ab.map bx.cells)),(rd sgA d.bP.ag.length 2 (d.bP.ag.map aM.cells))] (vT [(vA (aa.cells (km l d))),(vB (decide (fD l d)))]):=by
 have htk:=hin.r_
 have hck:=hin.se
 have has:=hin.qa
 have hbm:=hin.sb
 refine bu kr Tryz.func91 rfl rfl fun w0 Q hQ hN=>?_
 try dsimp only
 refine WS fun _ hK1=>fP rfl fun b2=>fP rfl fun b3=>AL rfl cV fun b4=>rP 1 [] mn ?_
 refine RK hK1<|ai fun _ hK5=>av<|WS fun _ hK6=>rP 3 [] (mc 1 rfl mn) ?_
 refine RK hK6 ?_
 refine bM rfl (fun h8=>?_) (fun h8=>?_)
 ·exact absurd ((hk).symm.trans h8) dc
 refine WS fun _ hK7=>rS (SX (bg (xs:=[]) (cs:=(aa.cells (aa.mk 0 0))) rfl rfl (bf fg rfl)) rfl rfl)<|rP 4 [] (mc 1 rfl mn) ?_
 refine dp (t:=15) rfl (fun h15=>?_) (fun h15=>?_)
 ·rw [Bool.not_eq_false'] at h15
  refine rP 10 [] mn ?_
  refine f_ rfl bY rfl<|rP 1 [] mn ?_
  refine RK hK7<|an ?_
  refine hQ _ _ _ (aZ (vs:=[(vA (aa.cells (aa.mk 0 0))),(vB false)]) ⟨⟨_,rfl,.inl ⟨_,_,bJ,bQ (vs:=(aa.cells (aa.mk 0 0))) 0 rfl rfl,rfl,rfl⟩⟩,rfl,trivial⟩ fun w hs=>eM ?_ hs)
  show (vT [(vA (aa.cells (aa.mk 0 0))),(vB false)])=(vT [(vA (aa.cells (km l d))),(vB (decide (fD l d)))])
  clear hs w hQ hN hK7 hK6 hK5 hK1
  rw [yc hk]
  simp only [pc hk]
  refine congrArg (fun z=>Value.tuple #[_,vB z]) ?_
  first|rfl|(simp_all [cK]; done)
 rw [Bool.not_eq_true'] at h15
 refine rP 1 [] mn ?_
 refine rS (LP (aa.cells d.Time) 1 rfl bJ rfl rfl rfl)<|rS (SX (bg (xs:=[]) (cs:=(aa.cells (aa.mk 0 0))) rfl rfl (bf fg rfl)) rfl rfl)<|rS (BI rfl (tL _ _ d.Time (aa.mk 0 0)))<|rP 2 [] mn ?_
 refine dp (t:=21) rfl (aQ fun h21=>?_) (aP fun h21=>?_)
 ·refine rP 4 [] mn ?_
  refine f_ rfl bY rfl<|rP 1 [] mn ?_
  refine RK hK7<|an ?_
  refine hQ _ _ _ (aZ (vs:=[(vA (aa.cells (aa.mk 0 0))),(vB false)]) ⟨⟨_,rfl,.inl ⟨_,_,bJ,bQ (vs:=(aa.cells (aa.mk 0 0))) 0 rfl rfl,rfl,rfl⟩⟩,rfl,trivial⟩ fun w hs=>eM ?_ hs)
  show (vT [(vA (aa.cells (aa.mk 0 0))),(vB false)])=(vT [(vA (aa.cells (km l d))),(vB (decide (fD l d)))])
  clear hs w hQ hN hK7 hK6 hK5 hK1
  rw [yc hk]
  simp only [pc hk]
  refine congrArg (fun z=>Value.tuple #[_,vB z]) ?_
  first|rfl|(simp_all [cK]; done)
 refine rP 1 [] mn ?_
 refine rS (LP (eE.cells (ke d.bP sgA sgC)) 1 rfl bJ rfl rfl rfl)<|rS (CL (Bx d.bP sgA sgC) (bh [7]) rfl)<|rP 1 [] mn ?_
 refine f_ rfl bY rfl<|rP 1 [] mn ?_
 refine RK hK7<|an ?_
 refine hQ _ _ _ (aZ (vs:=[(vA (aa.cells (aa.mk 0 0))),(vB (decide (gO d.bP)))]) ⟨⟨_,rfl,.inl ⟨_,_,bJ,bQ (vs:=(aa.cells (aa.mk 0 0))) 0 rfl rfl,rfl,rfl⟩⟩,rfl,trivial⟩ fun w hs=>eM ?_ hs)
 show (vT [(vA (aa.cells (aa.mk 0 0))),(vB (decide (gO d.bP)))])=(vT [(vA (aa.cells (km l d))),(vB (decide (fD l d)))])
 clear hs w hQ hN hK7 hK6 hK5 hK1
 rw [yc hk]
 simp only [pc hk]
 refine congrArg (fun z=>Value.tuple #[_,vB z]) ?_
 first|rfl|(simp_all [cK]; done)
theorem Bd (l:aV) (kA:OA) (kC:Nat) (az:List RA) (cA:OA) (cC:Nat) (bA:OA) (bC:Nat) (d:aS) (sgA:OA) (sgC:Nat) (hin:eN l az) (hle:dh l=0) (hsl:d.bP.ag.length≤1000000) (hk:d.Out=false∧d.dM=true):
 eu Tryz.prog 91 [(vA (cE.cells (jx l kA kC cA cC bA bC))),(vA (bD.cells (bD.mk d.Out d.dM d.Time (ke d.bP sgA sgC))))] [(rd kA l.aH.length 9 (l.aH.map ah.cells)),(rd cA l.aj.length 2 (List.zipWith al.cells l.aj az)),(du (aU al.fK l.aj az)),(rd bA l.ab.length 4 (l.ab.map bx.cells)),(rd sgA d.bP.ag.length 2 (d.bP.ag.map aM.cells))] (vT [(vA (aa.cells (km l d))),(vB (decide (fD l d)))]):=by
 have htk:=hin.r_
 have hck:=hin.se
 have has:=hin.qa
 have hbm:=hin.sb
 refine bu kr Tryz.func91 rfl rfl fun w0 Q hQ hN=>?_
 try dsimp only
 refine WS fun _ hK1=>fP rfl fun b2=>fP rfl fun b3=>AL rfl cV fun b4=>rP 1 [] mn ?_
 refine RK hK1<|ai fun _ hK5=>av<|WS fun _ hK6=>rP 3 [] (mc 1 rfl mn) ?_
 refine RK hK6 ?_
 refine cP rfl (fun h8=>?_) (fun h8=>?_)
 ·exact absurd ((hk.1).symm.trans h8) dc
 refine WS fun _ hK7=>rP 3 [] (mc 1 rfl mn) ?_
 refine RK hK7 ?_
 refine bM rfl (fun h26=>?_) (fun h26=>?_)
 ·exact absurd ((hk.2).symm.trans h26) dc
 refine ai fun _ hK8=>ep cD [10] [] [] [1,2,3,4,5,6,7] [] rfl rfl rfl rfl rfl<|eS rfl (FA 2 rfl gp rfl)<|eS rfl (LP (aa.cells d.Time) 0 rfl bJ rfl rfl rfl)<|eS rfl (FA 2 rfl gp rfl)<|eS rfl (LP (aa.cells d.Time) 0 rfl bJ rfl rfl rfl)<|eS rfl (CL (H7 d.Time) (aT) rfl)<|eS rfl (MV rfl) ?_
 refine pS (t:=34) rfl (fun h34=>?_) (fun h34=>?_)
 rotate_left 1
 ·replace h34:=DF h34
  refine eS rfl (OX rfl)<|eS rfl (OX rfl)<|eS rfl (OX rfl)<|eS rfl (PK rfl)<|eS rfl (AG rfl)<|fp rfl<|cr rfl fun T10 hT10=>f_ rfl bY rfl ?_
  refine aB (hT10 _ _ (aG [1,2,3,4,5,6,7]) ?_)
  refine gh rfl<|KK hK8<|an ?_
  refine hQ _ _ _ (aZ (vs:=[(vA (aa.cells d.Time)),(vB false)]) ⟨⟨_,rfl,.inl ⟨_,_,bJ,bQ (vs:=(aa.cells d.Time)) 0 rfl rfl,rfl,rfl⟩⟩,rfl,trivial⟩ fun w hs=>eM ?_ hs)
  show (vT [(vA (aa.cells d.Time)),(vB false)])=(vT [(vA (aa.cells (km l d))),(vB (decide (fD l d)))])
  clear hs w hQ hN hT10 T10 hK8 hK7 hK6 hK5 hK1
  rw [By hk]
  simp only [vq hk]
  refine congrArg (fun z=>Value.tuple #[_,vB z]) ?_
  first|rfl|(simp_all; done)
 replace h34:=DT h34
 refine eS rfl (FA 4 rfl gp rfl)<|eS rfl (LP (eE.cells (ke d.bP sgA sgC)) 0 rfl bJ rfl rfl rfl)<|eS rfl (CL (Bx d.bP sgA sgC) (bh [6]) rfl)<|eS rfl (PK rfl)<|eS rfl (AG rfl)<|fp rfl<|cr rfl fun T9 hT9=>f_ rfl bY rfl ?_
 refine aB (hT9 _ _ (aG [1,2,3,4,5,6,7]) ?_)
 refine gh rfl<|KK hK8<|an ?_
 refine hQ _ _ _ (aZ (vs:=[(vA (aa.cells d.Time)),(vB (decide (gO d.bP)))]) ⟨⟨_,rfl,.inl ⟨_,_,bJ,bQ (vs:=(aa.cells d.Time)) 0 rfl rfl,rfl,rfl⟩⟩,rfl,trivial⟩ fun w hs=>eM ?_ hs)
 show (vT [(vA (aa.cells d.Time)),(vB (decide (gO d.bP)))])=(vT [(vA (aa.cells (km l d))),(vB (decide (fD l d)))])
 clear hs w hQ hN hT9 T9 hK8 hK7 hK6 hK5 hK1
 rw [By hk]
 simp only [vq hk]
 refine congrArg (fun z=>Value.tuple #[_,vB z]) ?_
 first|rfl|(simp_all; done)
theorem Ak (l:aV) (kA:OA) (kC:Nat) (az:List RA) (cA:OA) (cC:Nat) (bA:OA) (bC:Nat) (d:aS) (sgA:OA) (sgC:Nat) (hin:eN l az) (hle:dh l=0) (hsl:d.bP.ag.length≤1000000) (hk:d.Out=false∧d.dM=false):
 eu Tryz.prog 91 [(vA (cE.cells (jx l kA kC cA cC bA bC))),(vA (bD.cells (bD.mk d.Out d.dM d.Time (ke d.bP sgA sgC))))] [(rd kA l.aH.length 9 (l.aH.map ah.cells)),(rd cA l.aj.length 2 (List.zipWith al.cells l.aj az)),(du (aU al.fK l.aj az)),(rd bA l.ab.length 4 (l.ab.map bx.cells)),(rd sgA d.bP.ag.length 2 (d.bP.ag.map aM.cells))] (vT [(vA (aa.cells (km l d))),(vB (decide (fD l d)))]):=by
 have htk:=hin.r_
 have hck:=hin.se
 have has:=hin.qa
 have hbm:=hin.sb
 refine bu kr Tryz.func91 rfl rfl fun w0 Q hQ hN=>?_
 try dsimp only
 refine WS fun _ hK1=>fP rfl fun b2=>fP rfl fun b3=>AL rfl cV fun b4=>rP 1 [] mn ?_
 refine RK hK1<|ai fun _ hK5=>av<|WS fun _ hK6=>rP 3 [] (mc 1 rfl mn) ?_
 refine RK hK6 ?_
 refine cP rfl (fun h8=>?_) (fun h8=>?_)
 ·exact absurd ((hk.1).symm.trans h8) dc
 refine WS fun _ hK7=>rP 3 [] (mc 1 rfl mn) ?_
 refine RK hK7 ?_
 refine cP rfl (fun h26=>?_) (fun h26=>?_)
 ·exact absurd ((hk.2).symm.trans h26) dc
 refine bZ<|ax<|KK hK5<|WS fun _ hK8=>rP 2 [] (mc 2 rfl mn) ?_
 refine rS (LP (eE.cells (ke d.bP sgA sgC)) 1 rfl bJ rfl rfl rfl)<|rS (CL (JN l kA kC az cA cC bA bC d.bP sgA sgC hin hsl) (bh [3,4,5,6,7]) rfl)<|rP 3 [] mn ?_
 refine AL rfl cV fun b9=>f_ rfl bY rfl<|rP 1 [] mn ?_
 refine RK hK8<|ai fun _ hK10=>ep cD [9] [] [] [0,2,3,4,5,6,7,8] [] rfl rfl rfl rfl rfl<|eS rfl (LW 0 rfl bJ rfl rfl)<|eS rfl (MV rfl)<|eS rfl (BI rfl oR)<|eS rfl (MV rfl) ?_
 refine pS (t:=49) rfl (fun h49=>?_) (fun h49=>?_)
 rotate_left 1
 ·replace h49:=DF h49
  refine eS rfl (OX rfl)<|eS rfl (OX rfl)<|eS rfl (OX rfl)<|eS rfl (OX rfl)<|eS rfl (PK rfl)<|eS rfl (AG rfl)<|fp rfl<|cr rfl fun T12 hT12=>oV rfl bY rfl ?_
  refine aB (hT12 _ _ (aG [0,2,3,4,5,6,7,8]) ?_)
  refine gh rfl<|KK hK10<|an ?_
  refine hQ _ _ _ (aZ (vs:=[(vA (aa.cells (kv l d.bP))),(vB false)]) ⟨⟨_,rfl,.inl ⟨_,_,bJ,bQ (vs:=(aa.cells (kv l d.bP))) 1 rfl rfl,rfl,rfl⟩⟩,rfl,trivial⟩ fun w hs=>eM ?_ hs)
  show (vT [(vA (aa.cells (kv l d.bP))),(vB false)])=(vT [(vA (aa.cells (km l d))),(vB (decide (fD l d)))])
  clear hs w hQ hN hT12 T12 hK10 hK8 hK7 hK6 hK5 hK1
  rw [BZ hk]
  simp only [uJ hk]
  refine congrArg (fun z=>Value.tuple #[_,vB z]) ?_
  first|rfl|(simp_all [cK]; done)
 replace h49:=DT h49
 refine eS rfl (FA 2 rfl gp rfl)<|eS rfl (LP (aa.cells d.Time) 1 rfl bJ rfl rfl rfl)<|eS rfl (SX (bg (xs:=[]) (cs:=(aa.cells (aa.mk 0 0))) rfl rfl (bf fg rfl)) rfl rfl)<|eS rfl (BI rfl (tL _ _ d.Time (aa.mk 0 0)))<|eS rfl (PK rfl)<|eS rfl (AG rfl)<|fp rfl<|cr rfl fun T11 hT11=>oV rfl bY rfl ?_
 refine aB (hT11 _ _ (aG [0,2,3,4,5,6,7,8]) ?_)
 refine gh rfl<|KK hK10<|an ?_
 refine hQ _ _ _ (aZ (vs:=[(vA (aa.cells (kv l d.bP))),(vB (decide (d.Time=(aa.mk 0 0))))]) ⟨⟨_,rfl,.inl ⟨_,_,bJ,bQ (vs:=(aa.cells (kv l d.bP))) 1 rfl rfl,rfl,rfl⟩⟩,rfl,trivial⟩ fun w hs=>eM ?_ hs)
 show (vT [(vA (aa.cells (kv l d.bP))),(vB (decide (d.Time=(aa.mk 0 0))))])=(vT [(vA (aa.cells (km l d))),(vB (decide (fD l d)))])
 clear hs w hQ hN hT11 T11 hK10 hK8 hK7 hK6 hK5 hK1
 rw [BZ hk]
 simp only [uJ hk]
 refine congrArg (fun z=>Value.tuple #[_,vB z]) ?_
 first|rfl|(simp_all [cK]; done)
theorem CQ (l:aV) (kA:OA) (kC:Nat) (az:List RA) (cA:OA) (cC:Nat) (bA:OA) (bC:Nat) (d:aS) (sgA:OA) (sgC:Nat) (hin:eN l az) (hle:dh l=0) (hsl:d.bP.ag.length≤1000000):
 eu Tryz.prog 91 [(vA (cE.cells (jx l kA kC cA cC bA bC))),(vA (bD.cells (bD.mk d.Out d.dM d.Time (ke d.bP sgA sgC))))] [(rd kA l.aH.length 9 (l.aH.map ah.cells)),(rd cA l.aj.length 2 (List.zipWith al.cells l.aj az)),(du (aU al.fK l.aj az)),(rd bA l.ab.length 4 (l.ab.map bx.cells)),(rd sgA d.bP.ag.length 2 (d.bP.ag.map aM.cells))] (vT [(vA (aa.cells (km l d))),(vB (decide (fD l d)))]):=by
 by_cases ho:d.Out=true
 ·exact Av l kA kC az cA cC bA bC d sgA sgC hin hle hsl ho
 by_cases hf:d.dM=true
 ·exact Bd l kA kC az cA cC bA bC d sgA sgC hin hle hsl ⟨by simpa using ho,hf⟩
 ·exact Ak l kA kC az cA cC bA bC d sgA sgC hin hle hsl ⟨by simpa using ho,by simpa using hf⟩
end
end Go.Proofs.YtcoejkiaokbmpaaGreatDoor
