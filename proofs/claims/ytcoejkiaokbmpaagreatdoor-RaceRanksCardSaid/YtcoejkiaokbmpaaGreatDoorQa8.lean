/-
 The statement raceRanks_said, part 8 of 8: Rr4, Rr5, Rr6, Rr7, Rr8, Rr9, Rra, RL1, LineOpen, RaceOpen, Ranks0.
 Conditions: none.
-/
import Derived.Test.YtcoejkiaokbmpaaGreatDoorQa1
import Derived.Test.YtcoejkiaokbmpaaGreatDoorQa2
import Derived.Test.YtcoejkiaokbmpaaGreatDoorQa3
import Derived.Test.YtcoejkiaokbmpaaGreatDoorQa4
import Derived.Test.YtcoejkiaokbmpaaGreatDoorQa5
import Derived.Test.YtcoejkiaokbmpaaGreatDoorQa6
import Derived.Test.YtcoejkiaokbmpaaGreatDoorQa7
import Derived.Test.YtcoejkiaokbmpaaGreatDoorCards
import Derived.Test.YtcoejkiaokbmpaaGreatDoorTie
import Derived.SevenTiedAt
import Derived.LaidMore
import Derived.Stop.Joined
import Derived.Test.YtcoejkiaokbmpaaGreatDoorRows
import Derived.Test.YtcoejkiaokbmpaaGreatDoorProg
import Derived.KernelRfl
namespace Go.Proofs.YtcoejkiaokbmpaaGreatDoor
set_option maxRecDepth 100000
set_option maxHeartbeats 4000000
set_option linter.unusedVariables false
section
open Go.RowKit
theorem AN (r:dg) (kA:OA) (kC:Nat) (az:List RA) (cA:OA) (cC:Nat) (bA:OA) (bC:Nat) (slA:OA) (slC:Nat) (drA:OA) (drC:Nat) (ha:List gZ) (heA:OA) (heC:Nat) (hin:iT r az ha) (hle:dh r.aD=0):
 oY Tryz.prog 68 [(vA (eT.cells (kx r kA kC cA cC bA bC slA slC drA drC heA heC)))] [(rd kA r.aD.aH.length 9 (r.aD.aH.map ah.cells)),(rd cA r.aD.aj.length 2 (List.zipWith al.cells r.aD.aj az)),(du (aU al.fK r.aD.aj az)),(rd bA r.aD.ab.length 4 (r.aD.ab.map bx.cells)),(rd slA r.aF.length 1 (r.aF.map iC)),(rd drA r.cG.length 1 (r.cG.map iC)),(rd heA r.ay.length 1 (List.zipWith eO r.ay ha)),(du (aU gf r.ay ha))] (fun (x:Bool×Int×(OA)×Nat×(List RA))=>bif x.1 then (vT [(vS x.2.2.1 ((bX r).length) x.2.2.2.1),(vB true)]) else (vT [(vS none 0 0),(vB false)])) (fun (x:Bool×Int×(OA)×Nat×(List RA))=>(x.1=true→(bR r∧x.2.2.2.2.length=r.ay.length))∧(x.1=false→(x.2.1=0∧ ¬ bR r))) (fun (x:Bool×Int×(OA)×Nat×(List RA))=>bif x.1 then [(own x.2.2.1 x.2.2.2.1 78 1 (List.zipWith wj (bX r) x.2.2.2.2)),(bV (aU yh (bX r) x.2.2.2.2))] else []):=by
 have hline:=hin.line
 have hhl:=hin.jZ
 have hhs:=hin.has
 have hsll:=hin.j6
 have hdrl:=hin.draw
 have htal:=eA (r:=r)
 refine ff kr Tryz.func68 rfl rfl fun w0 Q hQ hN=>?_
 try dsimp only
 refine WS fun _ hK1=>fP rfl fun b2=>rP 2 [] mn ?_
 refine RK hK1<|WS fun _ hK3=>rP 4 [] (mc 0 rfl mn) ?_
 refine RK hK3<|ai fun _ hK4=>WS fun _ hK5=>rP 1 [] mn ?_
 refine rS (CL (j2 ((r.aF.length:Nat):Int) 1 5) (aT) rfl)<|rP 2 [] mn ?_
 refine c8 (t:=19) rfl (bk fun h19=>?_) (bj fun h19=>?_)
 ·refine rP 19 [] mn ?_
  refine RK hK5<|aI rfl<|WS fun _ hK6=>rP 2 [] mn ?_
  refine RK hK6<|an ?_
  refine hQ _ _ _ (aZ (vs:=[(vS none 0 0),(vB false)]) ⟨rfl,rfl,trivial⟩ fun w hs=>ej (false,0,none,0,[]) [] ?_ ?_ rfl rfl (by first|rfl|(show List.all _ _=true; simp only [cond_true,cg,List.all_nil,eG,Bool.and_true]; rfl)) hs)
  ·rfl
  ·first|(exact ⟨fun q=>Bool.noConfusion (show false=true from q),fun _=>⟨rfl,fun q=>by have q1:=q.num; have q2:=q.mR; have q3:=q.nh; have q4:=q.mU; omega⟩⟩)|(exact ⟨fun q=>Bool.noConfusion (show false=true from q),fun _=>⟨rfl,fun q=>by have q1:=(q.ids i y hy).1; omega⟩⟩)|(exact ⟨fun q=>Bool.noConfusion (show false=true from q),fun _=>⟨rfl,fun q=>by have q1:=(q.ids i y hy).2 z om hz; omega⟩⟩)|(exact ⟨fun q=>Bool.noConfusion (show false=true from q),fun _=>⟨rfl,fun q=>by have q1:=q.lY hx; omega⟩⟩)|(exact ⟨fun q=>Bool.noConfusion (show false=true from q),fun _=>⟨rfl,fun q=>by exact q.lW om hu hx h95⟩⟩)|(exact ⟨fun q=>Bool.noConfusion (show false=true from q),fun _=>⟨rfl,fun q=>by have q1:=(q.gF ht (aw hht)).1; omega⟩⟩)|(exact ⟨fun q=>Bool.noConfusion (show false=true from q),fun _=>⟨rfl,fun q=>by exact h131 ((q.gF ht (aw hht)).2 d (aw hd))⟩⟩)
 refine rP 7 [] (mc 0 rfl mn) ?_
 refine c8 (t:=26) rfl (bk fun h26=>?_) (bj fun h26=>?_)
 ·refine rP 12 [] mn ?_
  refine RK hK5<|aI rfl<|WS fun _ hK7=>rP 2 [] mn ?_
  refine RK hK7<|an ?_
  refine hQ _ _ _ (aZ (vs:=[(vS none 0 0),(vB false)]) ⟨rfl,rfl,trivial⟩ fun w hs=>ej (false,0,none,0,[]) [] ?_ ?_ rfl rfl (by first|rfl|(show List.all _ _=true; simp only [cond_true,cg,List.all_nil,eG,Bool.and_true]; rfl)) hs)
  ·rfl
  ·first|(exact ⟨fun q=>Bool.noConfusion (show false=true from q),fun _=>⟨rfl,fun q=>by have q1:=q.num; have q2:=q.mR; have q3:=q.nh; have q4:=q.mU; omega⟩⟩)|(exact ⟨fun q=>Bool.noConfusion (show false=true from q),fun _=>⟨rfl,fun q=>by have q1:=(q.ids i y hy).1; omega⟩⟩)|(exact ⟨fun q=>Bool.noConfusion (show false=true from q),fun _=>⟨rfl,fun q=>by have q1:=(q.ids i y hy).2 z om hz; omega⟩⟩)|(exact ⟨fun q=>Bool.noConfusion (show false=true from q),fun _=>⟨rfl,fun q=>by have q1:=q.lY hx; omega⟩⟩)|(exact ⟨fun q=>Bool.noConfusion (show false=true from q),fun _=>⟨rfl,fun q=>by exact q.lW om hu hx h95⟩⟩)|(exact ⟨fun q=>Bool.noConfusion (show false=true from q),fun _=>⟨rfl,fun q=>by have q1:=(q.gF ht (aw hht)).1; omega⟩⟩)|(exact ⟨fun q=>Bool.noConfusion (show false=true from q),fun _=>⟨rfl,fun q=>by exact h131 ((q.gF ht (aw hht)).2 d (aw hd))⟩⟩)
 refine rP 2 [] (mc 0 rfl mn) ?_
 refine rS (CL (j2 r.qV 0 5) (aT) rfl)<|rP 3 [] mn ?_
 refine c8 (t:=32) rfl (bk fun h32=>?_) (bj fun h32=>?_)
 ·refine rP 6 [] mn ?_
  refine RK hK5<|aI rfl<|WS fun _ hK8=>rP 2 [] mn ?_
  refine RK hK8<|an ?_
  refine hQ _ _ _ (aZ (vs:=[(vS none 0 0),(vB false)]) ⟨rfl,rfl,trivial⟩ fun w hs=>ej (false,0,none,0,[]) [] ?_ ?_ rfl rfl (by first|rfl|(show List.all _ _=true; simp only [cond_true,cg,List.all_nil,eG,Bool.and_true]; rfl)) hs)
  ·rfl
  ·first|(exact ⟨fun q=>Bool.noConfusion (show false=true from q),fun _=>⟨rfl,fun q=>by have q1:=q.num; have q2:=q.mR; have q3:=q.nh; have q4:=q.mU; omega⟩⟩)|(exact ⟨fun q=>Bool.noConfusion (show false=true from q),fun _=>⟨rfl,fun q=>by have q1:=(q.ids i y hy).1; omega⟩⟩)|(exact ⟨fun q=>Bool.noConfusion (show false=true from q),fun _=>⟨rfl,fun q=>by have q1:=(q.ids i y hy).2 z om hz; omega⟩⟩)|(exact ⟨fun q=>Bool.noConfusion (show false=true from q),fun _=>⟨rfl,fun q=>by have q1:=q.lY hx; omega⟩⟩)|(exact ⟨fun q=>Bool.noConfusion (show false=true from q),fun _=>⟨rfl,fun q=>by exact q.lW om hu hx h95⟩⟩)|(exact ⟨fun q=>Bool.noConfusion (show false=true from q),fun _=>⟨rfl,fun q=>by have q1:=(q.gF ht (aw hht)).1; omega⟩⟩)|(exact ⟨fun q=>Bool.noConfusion (show false=true from q),fun _=>⟨rfl,fun q=>by exact h131 ((q.gF ht (aw hht)).2 d (aw hd))⟩⟩)
 refine rP 3 [] (mc 0 rfl mn) ?_
 refine rS (CL (j2 ((r.ay.length:Nat):Int) 1 3) (aT) rfl)<|rP 2 [] mn ?_
 refine RK hK5 ?_
 refine cP rfl (bk fun h38=>?_) (bj fun h38=>?_)
 ·refine WS fun _ hK9=>?_
  refine rP 2 [] mn ?_
  refine RK hK9<|an ?_
  refine hQ _ _ _ (aZ (vs:=[(vS none 0 0),(vB false)]) ⟨rfl,rfl,trivial⟩ fun w hs=>ej (false,0,none,0,[]) [] ?_ ?_ rfl rfl (by first|rfl|(show List.all _ _=true; simp only [cond_true,cg,List.all_nil,eG,Bool.and_true]; rfl)) hs)
  ·rfl
  ·first|(exact ⟨fun q=>Bool.noConfusion (show false=true from q),fun _=>⟨rfl,fun q=>by have q1:=q.num; have q2:=q.mR; have q3:=q.nh; have q4:=q.mU; omega⟩⟩)|(exact ⟨fun q=>Bool.noConfusion (show false=true from q),fun _=>⟨rfl,fun q=>by have q1:=(q.ids i y hy).1; omega⟩⟩)|(exact ⟨fun q=>Bool.noConfusion (show false=true from q),fun _=>⟨rfl,fun q=>by have q1:=(q.ids i y hy).2 z om hz; omega⟩⟩)|(exact ⟨fun q=>Bool.noConfusion (show false=true from q),fun _=>⟨rfl,fun q=>by have q1:=q.lY hx; omega⟩⟩)|(exact ⟨fun q=>Bool.noConfusion (show false=true from q),fun _=>⟨rfl,fun q=>by exact q.lW om hu hx h95⟩⟩)|(exact ⟨fun q=>Bool.noConfusion (show false=true from q),fun _=>⟨rfl,fun q=>by have q1:=(q.gF ht (aw hht)).1; omega⟩⟩)|(exact ⟨fun q=>Bool.noConfusion (show false=true from q),fun _=>⟨rfl,fun q=>by exact h131 ((q.gF ht (aw hht)).2 d (aw hd))⟩⟩)
 refine WK hK4<|ai fun _ hK10=>WS fun _ hK11=>rP 1 [] mn ?_
 refine RK hK11<|av ?_
 have hinit:(0≤r.aF.length)∧(uV r 0):=by exact ⟨Nat.zero_le _,EJ⟩
 refine cp (ι:={z:Nat // (z≤r.aF.length)∧(uV r z)}) (fun z=>[(1,(vP b2)),(4,(vI ((r.aF.length:Nat):Int))),(5,(vI ((z.1:Nat):Int)))]) (fun z=>[(br b2 32 (eT.cells (kx r kA kC cA cC bA bC slA slC drA drC heA heC))),(rd kA r.aD.aH.length 9 (r.aD.aH.map ah.cells)).ro,(rd cA r.aD.aj.length 2 (List.zipWith al.cells r.aD.aj az)).ro,(du (aU al.fK r.aD.aj az)).ro,(rd bA r.aD.ab.length 4 (r.aD.ab.map bx.cells)).ro,(rd slA r.aF.length 1 (r.aF.map iC)).ro,(rd drA r.cG.length 1 (r.cG.map iC)).ro,(rd heA r.ay.length 1 (List.zipWith eO r.ay ha)).ro,(du (aU gf r.ay ha)).ro]) (fun z=>r.aF.length-z.1) ⟨0,hinit⟩ (aL rfl) (aG [0,1,2,3,4,5,6,7,8]) ?_
 clear hinit
 rintro ⟨i,⟨hl5_0,hl5_1⟩⟩ J12 hJ12
 try dsimp only
 refine ai fun _ hK13=>WS fun _ hK14=>rP 3 [] mn ?_
 refine RK hK14 ?_
 refine bM rfl (aQ fun h15=>?_) (aP fun h15=>?_)
 ·refine bp ?_
  refine ae<|ae<|au<|KK hK10<|WS fun _ hK43=>rP 1 [] mn ?_
  refine RK hK43<|ai fun _ hK44=>WS fun _ hK45=>rP 1 [] mn ?_
  refine RK hK45<|av<|fI 78 1<|sD ?_
  have hinit:(0≤r.ay.length)∧(([]:List RA).length=0)∧(iS r 0):=by exact ⟨Nat.zero_le _,rfl,vt⟩
  refine cp (ι:={z:Nat×(List RA)×(OA)×Nat // (z.1≤r.ay.length)∧(z.2.1.length=z.1)∧(iS r z.1)}) (fun z=>[(1,(vP b2)),(4,(vI ((r.aF.length:Nat):Int))),(7,(vS z.1.2.2.1 ((List.zipWith xY (fu r z.1.1) z.1.2.1).length) z.1.2.2.2)),(8,(vI ((z.1.1:Nat):Int)))]) (fun z=>[(bV (aU yh (fu r z.1.1) z.1.2.1)),(own z.1.2.2.1 z.1.2.2.2 78 1 (List.map sC (List.zipWith xY (fu r z.1.1) z.1.2.1))),(br b2 32 (eT.cells (kx r kA kC cA cC bA bC slA slC drA drC heA heC))),(rd kA r.aD.aH.length 9 (r.aD.aH.map ah.cells)).ro,(rd cA r.aD.aj.length 2 (List.zipWith al.cells r.aD.aj az)).ro,(du (aU al.fK r.aD.aj az)).ro,(rd bA r.aD.ab.length 4 (r.aD.ab.map bx.cells)).ro,(rd slA r.aF.length 1 (r.aF.map iC)).ro,(rd drA r.cG.length 1 (r.cG.map iC)).ro,(rd heA r.ay.length 1 (List.zipWith eO r.ay ha)).ro,(du (aU gf r.ay ha)).ro]) (fun z=>r.ay.length-z.1.1) ⟨(0,([]:List RA),none,0),hinit⟩ (aL rfl) (aG [0,1,2,3,4,5,6,7,8,9,10]) ?_
  clear hinit
  rintro ⟨⟨h,tz,a,c⟩,⟨hl16_0,hl16_1,hl16_2⟩⟩ J46 hJ46
  try dsimp only at hl16_0 hl16_1 hl16_2
  try dsimp only
  refine ai fun _ hK47=>WS fun _ hK48=>rP 5 [] (mc 2 rfl mn) ?_
  refine RK hK48 ?_
  refine bM rfl (aQ fun h49=>?_) (aP fun h49=>?_)
  ·refine bp ?_
   refine ae<|ae<|au<|KK hK44<|ai fun _ hK77=>?_
   have hik:fu r h=bX r:=by unfold bX; rw [show h=r.ay.length by omega]
   have htz:tz.length=r.ay.length:=by omega
   rw [hik,wT,show (List.zipWith xY (bX r) tz).length=(bX r).length from by rw [List.length_zipWith]; omega]
   have hrok:bR r:=CK (n:=i) om om om om om hl5_1 hl16_2 om
   refine ak<|rP 3 [] mn ?_
   refine RK hK77<|an ?_
   refine hQ _ _ _ (aZ (vs:=[(vS a ((bX r).length) c),(vB true)]) ⟨rfl,rfl,trivial⟩ fun w hs=>ej (true,0,a,c,tz) [1,0] ?_ ?_ rfl rfl (by first|rfl|(show List.all _ _=true; simp only [cond_true,cg,List.all_nil,eG,Bool.and_true]; rfl)) hs)
   ·rfl
   ·exact ⟨fun _=>⟨hrok,htz⟩,fun q=>Bool.noConfusion (show true=false from q)⟩
  refine WK hK47<|ai fun _ hK50=>av<|ai fun _ hK51=>WS fun _ hK52=>rP 3 [] (mc 2 rfl mn) ?_
  obtain ⟨ht,hht⟩:=aO r.ay h om
  obtain ⟨hta,hhta⟩:=aO ha h om
  have hhtm:(List.zipWith eO r.ay ha)[h]? =some (eO ht hta):=gn hht hhta
  refine rS (IA h rfl (aA 9 rfl) zG dc om om) ?_
  have hhi:=hin.gF _ _ _ hht hhta
  have hhas:=hhi.qa
  refine rS (gU h 0 (vS hta.1.1 ht.length hta.1.2) rfl bJ (aA 9 rfl) hhtm rfl dc rfl)<|rP 3 [] mn ?_
  refine RK hK52 ?_
  refine cP rfl (bk fun h110=>?_) (bj fun h110=>?_)
  ·refine WS fun _ hK53=>?_
   refine rP 2 [] mn ?_
   refine RK hK53<|an ?_
   refine hQ _ _ _ (aZ (vs:=[(vS none 0 0),(vB false)]) ⟨rfl,rfl,trivial⟩ fun w hs=>ej (false,0,none,0,[]) [] ?_ ?_ rfl rfl (by first|rfl|(show List.all _ _=true; simp only [cond_true,cg,List.all_nil,eG,Bool.and_true]; rfl)) hs)
   ·rfl
   ·first|(exact ⟨fun q=>Bool.noConfusion (show false=true from q),fun _=>⟨rfl,fun q=>by have q1:=q.num; have q2:=q.mR; have q3:=q.nh; have q4:=q.mU; omega⟩⟩)|(exact ⟨fun q=>Bool.noConfusion (show false=true from q),fun _=>⟨rfl,fun q=>by have q1:=(q.ids i y hy).1; omega⟩⟩)|(exact ⟨fun q=>Bool.noConfusion (show false=true from q),fun _=>⟨rfl,fun q=>by have q1:=(q.ids i y hy).2 z om hz; omega⟩⟩)|(exact ⟨fun q=>Bool.noConfusion (show false=true from q),fun _=>⟨rfl,fun q=>by have q1:=q.lY hx; omega⟩⟩)|(exact ⟨fun q=>Bool.noConfusion (show false=true from q),fun _=>⟨rfl,fun q=>by exact q.lW om hu hx h95⟩⟩)|(exact ⟨fun q=>Bool.noConfusion (show false=true from q),fun _=>⟨rfl,fun q=>by have q1:=(q.gF ht (aw hht)).1; omega⟩⟩)|(exact ⟨fun q=>Bool.noConfusion (show false=true from q),fun _=>⟨rfl,fun q=>by exact h131 ((q.gF ht (aw hht)).2 d (aw hd))⟩⟩)
  refine WK hK51<|WS fun _ hK54=>rP 1 [] mn ?_
  refine RK hK54<|ai fun _ hK55=>WS fun _ hK56=>rP 1 [] mn ?_
  refine RK hK56<|av<|fI 47 2 ?_
  have hinit:(0≤ht.length)∧(m8 r.aD ht 0):=by exact ⟨Nat.zero_le _,tn⟩
  refine cp (ι:={z:Nat×(OA)×Nat // (z.1≤ht.length)∧(m8 r.aD ht z.1)}) (fun z=>[(1,(vP b2)),(4,(vI ((r.aF.length:Nat):Int))),(7,(vS a ((List.zipWith xY (fu r h) tz).length) c)),(8,(vI ((h:Nat):Int))),(9,(vS z.1.2.1 (((ht.take z.1.1).map (e_ r.aD)).length) z.1.2.2)),(10,(vI ((z.1.1:Nat):Int)))]) (fun z=>[(own z.1.2.1 z.1.2.2 47 2 (((ht.take z.1.1).map (e_ r.aD)).map aa.cells)),(bV (aU yh (fu r h) tz)),(own a c 78 1 (List.map sC (List.zipWith xY (fu r h) tz))),(br b2 32 (eT.cells (kx r kA kC cA cC bA bC slA slC drA drC heA heC))),(rd kA r.aD.aH.length 9 (r.aD.aH.map ah.cells)).ro,(rd cA r.aD.aj.length 2 (List.zipWith al.cells r.aD.aj az)).ro,(du (aU al.fK r.aD.aj az)).ro,(rd bA r.aD.ab.length 4 (r.aD.ab.map bx.cells)).ro,(rd slA r.aF.length 1 (r.aF.map iC)).ro,(rd drA r.cG.length 1 (r.cG.map iC)).ro,(rd heA r.ay.length 1 (List.zipWith eO r.ay ha)).ro,(du (aU gf r.ay ha)).ro]) (fun z=>ht.length-z.1.1) ⟨(0,none,0),hinit⟩ (aL rfl) (aG [0,1,2,3,4,5,6,7,8,9,10,11]) ?_
  clear hinit
  rintro ⟨⟨j,la,lc⟩,⟨hl22_0,hl22_1⟩⟩ J57 hJ57
  try dsimp only at hl22_0 hl22_1
  try dsimp only
  refine ai fun _ hK58=>WS fun _ hK59=>rP 3 [] mn ?_
  refine RK hK59 ?_
  refine bM rfl (aQ fun h60=>?_) (aP fun h60=>?_)
  ·refine bp ?_
   refine ae<|ae<|au<|KK hK55<|ak ?_
   rw [show ((ht.take j).map (e_ r.aD))=ht.map (e_ r.aD) from by rw [List.take_of_length_le om]]
   refine rP 2 [] mn ?_
   refine fc (xs:=[.tmp 137]) (cs:=[(vS la ((ht.map (e_ r.aD)).length) lc)]) rfl E3 Me rfl rfl rfl rfl (by simp [Value.cells]) rfl rfl fun b73=>er (es2:=(List.map sC (List.zipWith xY (fu r (h+1)) (tz++[(la,lc)])))) (m':=(List.zipWith xY (fu r (h+1)) (tz++[(la,lc)])).length) 3 rfl rfl rfl Ld rfl rfl sm (a_ (es:=List.map sC [(bB.mk la ((ht.map (e_ r.aD)).length) lc)]) 0 rfl rfl (by simp [wB]) rfl) (EZ _) (by rw [List.length_zipWith,ki om]; omega) (by rw [List.length_zipWith,ki om]; simp only [maxLen]; omega) (by rw [rK hht hl16_1,List.map_append]; rfl) (by rw [rK hht hl16_1]; simp) rfl fun a74 c75=>?_
   try dsimp only
   refine rP 1 [] mn ?_
   refine aB<|ax<|KK hK50<|ak<|rP 3 [] mn ?_
   refine aB<|zI (X':=aU yh (fu r (h+1)) (tz++[(la,lc)])) 2 1 rfl rfl (yZ (a:=(la,lc)) hht hl16_1) ?_
   have hb76:(vI (((h+1):Nat):Int))=(vI (((h:Nat):Int)+1)):=by exact cI om
   refine aN (hJ46 ⟨((h+1),(tz++[(la,lc)]),a74,c75),⟨om,by simp; omega,u7 hl16_2 hht (Cq om hl22_1 om)⟩⟩ _ _ _ rfl os (cv 3<|aY rfl hb76<|dK.nil _) (aG [0,2,3,4,5,6,7,8,9,10,11]))
  refine WK hK58<|ai fun _ hK61=>av<|ai fun _ hK62=>ep cD [14,15] [] [] [0,1,2,3,4,5,6,7,8,9,10,11] [] rfl rfl rfl rfl rfl<|eS rfl (FA 0 rfl gp rfl)<|eS rfl (LP (cE.cells (jx r.aD kA kC cA cC bA bC)) 3 rfl bJ rfl rfl rfl)<|eS rfl (FA 10 rfl gp rfl)<|eS rfl (L1 (vS heA r.ay.length heC) 3 rfl bJ rfl rfl)<|eS rfl (MV rfl) ?_
  refine eS rfl (IA h rfl (aA 10 rfl) zG dc om om)<|eS rfl (gU h 0 (vS hta.1.1 ht.length hta.1.2) rfl bJ (aA 10 rfl) hhtm rfl dc rfl)<|eS rfl (MV rfl) ?_
  obtain ⟨d,hd⟩:=aO ht j om
  obtain ⟨da,hda⟩:=aO hta.2 j om
  have hdm:(List.zipWith aS.cells ht hta.2)[j]? =some (aS.cells d da):=gn hd hda
  refine eS rfl (IA j rfl (show ji _ (rd hta.1.1 ht.length 7 (List.zipWith aS.cells ht hta.2)).holds from (dA 11 rfl (cm hht hhta cZ))) EA dc om om)<|eS rfl (n9 j 0 (bD.cells (bD.mk d.Out d.dM d.Time (eE.mk d.bP.Start d.bP.fR (bB.mk da.1 d.bP.ag.length da.2)))) rfl bJ (show ji _ (rd hta.1.1 ht.length 7 (List.zipWith aS.cells ht hta.2)).holds from (dA 11 rfl (cm hht hhta cZ))) hdm rfl dc rfl rfl) ?_
  have hsg:=hhi.sig d (aw hd)
  refine eS rfl (CL (CQ r.aD kA kC az cA cC bA bC d da.1 da.2 sd hle sd) (cw 4 rfl rfl<|cw 5 rfl rfl<|cw 6 rfl rfl<|cw 7 rfl rfl<|bq (show ji _ (rd da.1 d.bP.ag.length 2 (d.bP.ag.map aM.cells)).holds from (dA 11 rfl (cm hht hhta (dY _ (cm hd hda (by simp [aS.fK]))))))<|aT) rfl)<|eS rfl (MV rfl)<|eS rfl (EX rfl)<|eS rfl (EX rfl)<|eS rfl (AG rfl)<|fp rfl<|cr rfl fun T63 hT63=>AL rfl cV fun b64=>?_
  refine aB (hT63 _ _ (aG [1,2,3,4,5,6,7,8,9,10,11,12]) ?_)
  refine cr rfl fun T65 hT65=>f_ rfl bY rfl ?_
  refine aB (hT65 _ _ (aG [1,2,3,4,5,6,7,8,9,10,11,12]) ?_)
  refine gh rfl<|KK hK62<|ai fun _ hK66=>WS fun _ hK67=>rP 2 [] mn ?_
  refine RK hK67 ?_
  refine bM rfl (bj fun h131=>?_) (bk fun h131=>?_)
  ·refine WK hK66 ?_
   refine ak<|rP 2 [] (mc 0 rfl mn) ?_
   refine fc (xs:=[.tmp 133]) (cs:=(aa.cells (km r.aD d))) rfl jF cV rfl rfl rfl rfl (by simp [Value.cells,aa.aX]) rfl rfl fun b69=>er (es2:=(List.map aa.cells ((ht.take (j+1)).map (e_ r.aD)))) (m':=((ht.take (j+1)).map (e_ r.aD)).length) 2 rfl rfl rfl Ar rfl rfl sm (a_ (es:=List.map aa.cells [(km r.aD d)]) 0 rfl rfl (by simp [aa.aX]) rfl) (gM _) (by simp only [List.length_map,List.length_take]; omega) (by simp only [maxLen,List.length_map,List.length_take]; omega) (by rw [List.take_add_one,hd]; simp [Gc h131]) sq rfl fun a70 c71=>?_
   try dsimp only
   refine rP 1 [] mn ?_
   refine aB<|ax<|KK hK61<|ak<|rP 3 [] mn ?_
   refine aB ?_
   have hb72:(vI (((j+1):Nat):Int))=(vI (((j:Nat):Int)+1)):=by exact cI om
   refine aN (hJ57 ⟨((j+1),a70,c71),⟨om,tm hl22_1 hd h131⟩⟩ _ _ _ rfl os (cv 5<|aY rfl hb72<|dK.nil _) (aG [2,3,4,5,6,7,8,9,10,11,12,13]))
  refine WS fun _ hK68=>rP 2 [] mn ?_
  refine RK hK68<|an ?_
  refine hQ _ _ _ (aZ (vs:=[(vS none 0 0),(vB false)]) ⟨rfl,rfl,trivial⟩ fun w hs=>ej (false,0,none,0,[]) [] ?_ ?_ rfl rfl (by first|rfl|(show List.all _ _=true; simp only [cond_true,cg,List.all_nil,eG,Bool.and_true]; rfl)) hs)
  ·rfl
  ·first|(exact ⟨fun q=>Bool.noConfusion (show false=true from q),fun _=>⟨rfl,fun q=>by have q1:=q.num; have q2:=q.mR; have q3:=q.nh; have q4:=q.mU; omega⟩⟩)|(exact ⟨fun q=>Bool.noConfusion (show false=true from q),fun _=>⟨rfl,fun q=>by have q1:=(q.ids i y hy).1; omega⟩⟩)|(exact ⟨fun q=>Bool.noConfusion (show false=true from q),fun _=>⟨rfl,fun q=>by have q1:=(q.ids i y hy).2 z om hz; omega⟩⟩)|(exact ⟨fun q=>Bool.noConfusion (show false=true from q),fun _=>⟨rfl,fun q=>by have q1:=q.lY hx; omega⟩⟩)|(exact ⟨fun q=>Bool.noConfusion (show false=true from q),fun _=>⟨rfl,fun q=>by exact q.lW om hu hx h95⟩⟩)|(exact ⟨fun q=>Bool.noConfusion (show false=true from q),fun _=>⟨rfl,fun q=>by have q1:=(q.gF ht (aw hht)).1; omega⟩⟩)|(exact ⟨fun q=>Bool.noConfusion (show false=true from q),fun _=>⟨rfl,fun q=>by exact h131 ((q.gF ht (aw hht)).2 d (aw hd))⟩⟩)
 refine WK hK13<|ai fun _ hK16=>av<|ai fun _ hK17=>ai fun _ hK18=>dC cD 36 kr<|dP 3 [] (mc 0 rfl mn) ?_
 obtain ⟨y,hy⟩:=aO r.aF i om
 have hym:=bI iC hy
 refine dS (IA i rfl (aA 5 rfl) dB dc om om)<|dS (gU i 0 (vI y) rfl bJ (aA 5 rfl) hym rfl dc rfl)<|dS (CL (j2 y 0 9999) (aT) rfl)<|dP 2 [] mn ?_
 refine iL (t:=51) rfl (bk fun h51=>?_) (bj fun h51=>?_)
 ·refine dP 28 [] mn ?_
  refine cO<|RK hK18<|aI rfl<|WS fun _ hK19=>rP 2 [] mn ?_
  refine RK hK19<|an ?_
  refine hQ _ _ _ (aZ (vs:=[(vS none 0 0),(vB false)]) ⟨rfl,rfl,trivial⟩ fun w hs=>ej (false,0,none,0,[]) [] ?_ ?_ rfl rfl (by first|rfl|(show List.all _ _=true; simp only [cond_true,cg,List.all_nil,eG,Bool.and_true]; rfl)) hs)
  ·rfl
  ·first|(exact ⟨fun q=>Bool.noConfusion (show false=true from q),fun _=>⟨rfl,fun q=>by have q1:=q.num; have q2:=q.mR; have q3:=q.nh; have q4:=q.mU; omega⟩⟩)|(exact ⟨fun q=>Bool.noConfusion (show false=true from q),fun _=>⟨rfl,fun q=>by have q1:=(q.ids i y hy).1; omega⟩⟩)|(exact ⟨fun q=>Bool.noConfusion (show false=true from q),fun _=>⟨rfl,fun q=>by have q1:=(q.ids i y hy).2 z om hz; omega⟩⟩)|(exact ⟨fun q=>Bool.noConfusion (show false=true from q),fun _=>⟨rfl,fun q=>by have q1:=q.lY hx; omega⟩⟩)|(exact ⟨fun q=>Bool.noConfusion (show false=true from q),fun _=>⟨rfl,fun q=>by exact q.lW om hu hx h95⟩⟩)|(exact ⟨fun q=>Bool.noConfusion (show false=true from q),fun _=>⟨rfl,fun q=>by have q1:=(q.gF ht (aw hht)).1; omega⟩⟩)|(exact ⟨fun q=>Bool.noConfusion (show false=true from q),fun _=>⟨rfl,fun q=>by exact h131 ((q.gF ht (aw hht)).2 d (aw hd))⟩⟩)
 refine dP 3 [] mn ?_
 refine jT (t:=54) rfl (aQ fun h54=>?_) (aP fun h54=>?_)
 ·refine dP 18 [] (mc 0 rfl mn) ?_
  obtain ⟨x,hx⟩:=aO r.cG i om
  have hxm:=bI iC hx
  refine dS (IA i rfl (aA 6 rfl) dB dc om om)<|dS (gU i 0 (vI x) rfl bJ (aA 6 rfl) hxm rfl dc rfl)<|dP 2 [] mn ?_
  refine dS (CL (j2 x 0 (((r.aF.length:Nat):Int)-1)) (aT) rfl)<|dP 2 [] mn ?_
  refine cO<|RK hK18 ?_
  refine cP rfl (bk fun h79=>?_) (bj fun h79=>?_)
  ·refine WS fun _ hK32=>?_
   refine rP 2 [] mn ?_
   refine RK hK32<|an ?_
   refine hQ _ _ _ (aZ (vs:=[(vS none 0 0),(vB false)]) ⟨rfl,rfl,trivial⟩ fun w hs=>ej (false,0,none,0,[]) [] ?_ ?_ rfl rfl (by first|rfl|(show List.all _ _=true; simp only [cond_true,cg,List.all_nil,eG,Bool.and_true]; rfl)) hs)
   ·rfl
   ·first|(exact ⟨fun q=>Bool.noConfusion (show false=true from q),fun _=>⟨rfl,fun q=>by have q1:=q.num; have q2:=q.mR; have q3:=q.nh; have q4:=q.mU; omega⟩⟩)|(exact ⟨fun q=>Bool.noConfusion (show false=true from q),fun _=>⟨rfl,fun q=>by have q1:=(q.ids i y hy).1; omega⟩⟩)|(exact ⟨fun q=>Bool.noConfusion (show false=true from q),fun _=>⟨rfl,fun q=>by have q1:=(q.ids i y hy).2 z om hz; omega⟩⟩)|(exact ⟨fun q=>Bool.noConfusion (show false=true from q),fun _=>⟨rfl,fun q=>by have q1:=q.lY hx; omega⟩⟩)|(exact ⟨fun q=>Bool.noConfusion (show false=true from q),fun _=>⟨rfl,fun q=>by exact q.lW om hu hx h95⟩⟩)|(exact ⟨fun q=>Bool.noConfusion (show false=true from q),fun _=>⟨rfl,fun q=>by have q1:=(q.gF ht (aw hht)).1; omega⟩⟩)|(exact ⟨fun q=>Bool.noConfusion (show false=true from q),fun _=>⟨rfl,fun q=>by exact h131 ((q.gF ht (aw hht)).2 d (aw hd))⟩⟩)
  refine WK hK17<|WS fun _ hK33=>rP 1 [] mn ?_
  refine RK hK33<|av ?_
  have hinit:(0≤i)∧(∀ (q:Nat) y,q<0→r.cG[q]? =some y→y≠x):=by exact ⟨Nat.zero_le _,fun q y hq=>absurd hq (Nat.not_lt_zero _)⟩
  refine cp (ι:={z:Nat // (z≤i)∧(∀ (q:Nat) y,q<z→r.cG[q]? =some y→y≠x)}) (fun z=>[(1,(vP b2)),(4,(vI ((r.aF.length:Nat):Int))),(5,(vI ((i:Nat):Int))),(6,(vI ((z.1:Nat):Int)))]) (fun z=>[(br b2 32 (eT.cells (kx r kA kC cA cC bA bC slA slC drA drC heA heC))),(rd kA r.aD.aH.length 9 (r.aD.aH.map ah.cells)).ro,(rd cA r.aD.aj.length 2 (List.zipWith al.cells r.aD.aj az)).ro,(du (aU al.fK r.aD.aj az)).ro,(rd bA r.aD.ab.length 4 (r.aD.ab.map bx.cells)).ro,(rd slA r.aF.length 1 (r.aF.map iC)).ro,(rd drA r.cG.length 1 (r.cG.map iC)).ro,(rd heA r.ay.length 1 (List.zipWith eO r.ay ha)).ro,(du (aU gf r.ay ha)).ro]) (fun z=>i-z.1) ⟨0,hinit⟩ (aL rfl) (aG [0,1,2,3,4,5,6,7,8]) ?_
  clear hinit
  rintro ⟨k,⟨hl10_0,hl10_1⟩⟩ J34 hJ34
  try dsimp only
  refine ai fun _ hK35=>WS fun _ hK36=>rP 3 [] mn ?_
  refine RK hK36 ?_
  refine bM rfl (aQ fun h37=>?_) (aP fun h37=>?_)
  ·refine bp ?_
   refine ae<|ae<|au<|ax<|KK hK16<|ak<|rP 3 [] mn ?_
   refine aB ?_
   have hb42:(vI (((i+1):Nat):Int))=(vI (((i:Nat):Int)+1)):=by exact cI om
   refine aN (hJ12 ⟨(i+1),⟨om,ze hl5_1 (fun a ha=>by rw [hy] at ha; cases ha; exact ⟨om,fun b hb hc=>by first|omega|(rw [hz] at hc; cases hc; omega)⟩) (fun a ha=>by rw [hx] at ha; cases ha; exact ⟨om,fun k b hk hb=>hl10_1 k b om hb⟩)⟩⟩ _ _ _ rfl os (dK.cons rfl<|dK.cons rfl<|aY rfl hb42<|dK.nil _) (aG [0,1,2,3,4,5,6,7,8]))
  refine WK hK35<|ai fun _ hK38=>av<|ai fun _ hK39=>dC cD 11 kr<|dP 3 [] (mc 0 rfl mn) ?_
  obtain ⟨u,hu⟩:=aO r.cG k om
  have hum:=bI iC hu
  refine dS (IA k rfl (aA 6 rfl) dB dc om om)<|dS (gU k 0 (vI u) rfl bJ (aA 6 rfl) hum rfl dc rfl)<|dP 3 [] (mc 0 rfl mn) ?_
  refine dS (IA i rfl (aA 6 rfl) dB dc om om)<|dS (gU i 0 (vI x) rfl bJ (aA 6 rfl) hxm rfl dc rfl)<|dP 1 [] mn ?_
  refine cO<|RK hK39 ?_
  refine bM rfl (aQ fun h95=>?_) (aP fun h95=>?_)
  ·refine bZ ?_
   refine ax<|KK hK38<|ak<|rP 3 [] mn ?_
   refine aB ?_
   have hb41:(vI (((k+1):Nat):Int))=(vI (((k:Nat):Int)+1)):=by exact cI om
   refine aN (hJ34 ⟨(k+1),⟨om,vb hl10_1 hu h95⟩⟩ _ _ _ rfl os (cv 3<|aY rfl hb41<|dK.nil _) (aG [0,1,2,3,4,5,6,7,8]))
  refine WS fun _ hK40=>rP 2 [] mn ?_
  refine RK hK40<|an ?_
  refine hQ _ _ _ (aZ (vs:=[(vS none 0 0),(vB false)]) ⟨rfl,rfl,trivial⟩ fun w hs=>ej (false,0,none,0,[]) [] ?_ ?_ rfl rfl (by first|rfl|(show List.all _ _=true; simp only [cond_true,cg,List.all_nil,eG,Bool.and_true]; rfl)) hs)
  ·rfl
  ·first|(exact ⟨fun q=>Bool.noConfusion (show false=true from q),fun _=>⟨rfl,fun q=>by have q1:=q.num; have q2:=q.mR; have q3:=q.nh; have q4:=q.mU; omega⟩⟩)|(exact ⟨fun q=>Bool.noConfusion (show false=true from q),fun _=>⟨rfl,fun q=>by have q1:=(q.ids i y hy).1; omega⟩⟩)|(exact ⟨fun q=>Bool.noConfusion (show false=true from q),fun _=>⟨rfl,fun q=>by have q1:=(q.ids i y hy).2 z om hz; omega⟩⟩)|(exact ⟨fun q=>Bool.noConfusion (show false=true from q),fun _=>⟨rfl,fun q=>by have q1:=q.lY hx; omega⟩⟩)|(exact ⟨fun q=>Bool.noConfusion (show false=true from q),fun _=>⟨rfl,fun q=>by exact q.lW om hu hx h95⟩⟩)|(exact ⟨fun q=>Bool.noConfusion (show false=true from q),fun _=>⟨rfl,fun q=>by have q1:=(q.gF ht (aw hht)).1; omega⟩⟩)|(exact ⟨fun q=>Bool.noConfusion (show false=true from q),fun _=>⟨rfl,fun q=>by exact h131 ((q.gF ht (aw hht)).2 d (aw hd))⟩⟩)
 refine dP 3 [] (mc 0 rfl mn) ?_
 refine dS (IA i rfl (aA 5 rfl) dB dc om om)<|dS (gU i 0 (vI y) rfl bJ (aA 5 rfl) hym rfl dc rfl)<|dP 4 [] (mc 0 rfl mn) ?_
 obtain ⟨z,hz⟩:=aO r.aF (i-1) om
 have hzm:=bI iC hz
 refine dS (IA (i-1) rfl (aA 5 rfl) dB dc om om)<|dS (gU (i-1) 0 (vI z) rfl bJ (aA 5 rfl) hzm rfl dc rfl)<|dP 4 [] mn ?_
 refine iL (t:=69) rfl (aP fun h69=>?_) (aQ fun h69=>?_)
 ·refine dP 10 [] mn ?_
  refine cO<|RK hK18<|aI rfl<|WS fun _ hK20=>rP 2 [] mn ?_
  refine RK hK20<|an ?_
  refine hQ _ _ _ (aZ (vs:=[(vS none 0 0),(vB false)]) ⟨rfl,rfl,trivial⟩ fun w hs=>ej (false,0,none,0,[]) [] ?_ ?_ rfl rfl (by first|rfl|(show List.all _ _=true; simp only [cond_true,cg,List.all_nil,eG,Bool.and_true]; rfl)) hs)
  ·rfl
  ·first|(exact ⟨fun q=>Bool.noConfusion (show false=true from q),fun _=>⟨rfl,fun q=>by have q1:=q.num; have q2:=q.mR; have q3:=q.nh; have q4:=q.mU; omega⟩⟩)|(exact ⟨fun q=>Bool.noConfusion (show false=true from q),fun _=>⟨rfl,fun q=>by have q1:=(q.ids i y hy).1; omega⟩⟩)|(exact ⟨fun q=>Bool.noConfusion (show false=true from q),fun _=>⟨rfl,fun q=>by have q1:=(q.ids i y hy).2 z om hz; omega⟩⟩)|(exact ⟨fun q=>Bool.noConfusion (show false=true from q),fun _=>⟨rfl,fun q=>by have q1:=q.lY hx; omega⟩⟩)|(exact ⟨fun q=>Bool.noConfusion (show false=true from q),fun _=>⟨rfl,fun q=>by exact q.lW om hu hx h95⟩⟩)|(exact ⟨fun q=>Bool.noConfusion (show false=true from q),fun _=>⟨rfl,fun q=>by have q1:=(q.gF ht (aw hht)).1; omega⟩⟩)|(exact ⟨fun q=>Bool.noConfusion (show false=true from q),fun _=>⟨rfl,fun q=>by exact h131 ((q.gF ht (aw hht)).2 d (aw hd))⟩⟩)
 refine dP 3 [] (mc 0 rfl mn) ?_
 obtain ⟨x,hx⟩:=aO r.cG i om
 have hxm:=bI iC hx
 refine dS (IA i rfl (aA 6 rfl) dB dc om om)<|dS (gU i 0 (vI x) rfl bJ (aA 6 rfl) hxm rfl dc rfl)<|dP 2 [] mn ?_
 refine dS (CL (j2 x 0 (((r.aF.length:Nat):Int)-1)) (aT) rfl)<|dP 2 [] mn ?_
 refine cO<|RK hK18 ?_
 refine cP rfl (bk fun h79=>?_) (bj fun h79=>?_)
 ·refine WS fun _ hK21=>?_
  refine rP 2 [] mn ?_
  refine RK hK21<|an ?_
  refine hQ _ _ _ (aZ (vs:=[(vS none 0 0),(vB false)]) ⟨rfl,rfl,trivial⟩ fun w hs=>ej (false,0,none,0,[]) [] ?_ ?_ rfl rfl (by first|rfl|(show List.all _ _=true; simp only [cond_true,cg,List.all_nil,eG,Bool.and_true]; rfl)) hs)
  ·rfl
  ·first|(exact ⟨fun q=>Bool.noConfusion (show false=true from q),fun _=>⟨rfl,fun q=>by have q1:=q.num; have q2:=q.mR; have q3:=q.nh; have q4:=q.mU; omega⟩⟩)|(exact ⟨fun q=>Bool.noConfusion (show false=true from q),fun _=>⟨rfl,fun q=>by have q1:=(q.ids i y hy).1; omega⟩⟩)|(exact ⟨fun q=>Bool.noConfusion (show false=true from q),fun _=>⟨rfl,fun q=>by have q1:=(q.ids i y hy).2 z om hz; omega⟩⟩)|(exact ⟨fun q=>Bool.noConfusion (show false=true from q),fun _=>⟨rfl,fun q=>by have q1:=q.lY hx; omega⟩⟩)|(exact ⟨fun q=>Bool.noConfusion (show false=true from q),fun _=>⟨rfl,fun q=>by exact q.lW om hu hx h95⟩⟩)|(exact ⟨fun q=>Bool.noConfusion (show false=true from q),fun _=>⟨rfl,fun q=>by have q1:=(q.gF ht (aw hht)).1; omega⟩⟩)|(exact ⟨fun q=>Bool.noConfusion (show false=true from q),fun _=>⟨rfl,fun q=>by exact h131 ((q.gF ht (aw hht)).2 d (aw hd))⟩⟩)
 refine WK hK17<|WS fun _ hK22=>rP 1 [] mn ?_
 refine RK hK22<|av ?_
 have hinit:(0≤i)∧(∀ (q:Nat) y,q<0→r.cG[q]? =some y→y≠x):=by exact ⟨Nat.zero_le _,fun q y hq=>absurd hq (Nat.not_lt_zero _)⟩
 refine cp (ι:={z:Nat // (z≤i)∧(∀ (q:Nat) y,q<z→r.cG[q]? =some y→y≠x)}) (fun z=>[(1,(vP b2)),(4,(vI ((r.aF.length:Nat):Int))),(5,(vI ((i:Nat):Int))),(6,(vI ((z.1:Nat):Int)))]) (fun z=>[(br b2 32 (eT.cells (kx r kA kC cA cC bA bC slA slC drA drC heA heC))),(rd kA r.aD.aH.length 9 (r.aD.aH.map ah.cells)).ro,(rd cA r.aD.aj.length 2 (List.zipWith al.cells r.aD.aj az)).ro,(du (aU al.fK r.aD.aj az)).ro,(rd bA r.aD.ab.length 4 (r.aD.ab.map bx.cells)).ro,(rd slA r.aF.length 1 (r.aF.map iC)).ro,(rd drA r.cG.length 1 (r.cG.map iC)).ro,(rd heA r.ay.length 1 (List.zipWith eO r.ay ha)).ro,(du (aU gf r.ay ha)).ro]) (fun z=>i-z.1) ⟨0,hinit⟩ (aL rfl) (aG [0,1,2,3,4,5,6,7,8]) ?_
 clear hinit
 rintro ⟨k,⟨hl10_0,hl10_1⟩⟩ J23 hJ23
 try dsimp only
 refine ai fun _ hK24=>WS fun _ hK25=>rP 3 [] mn ?_
 refine RK hK25 ?_
 refine bM rfl (aQ fun h26=>?_) (aP fun h26=>?_)
 ·refine bp ?_
  refine ae<|ae<|au<|ax<|KK hK16<|ak<|rP 3 [] mn ?_
  refine aB ?_
  have hb31:(vI (((i+1):Nat):Int))=(vI (((i:Nat):Int)+1)):=by exact cI om
  refine aN (hJ12 ⟨(i+1),⟨om,ze hl5_1 (fun a ha=>by rw [hy] at ha; cases ha; exact ⟨om,fun b hb hc=>by first|omega|(rw [hz] at hc; cases hc; omega)⟩) (fun a ha=>by rw [hx] at ha; cases ha; exact ⟨om,fun k b hk hb=>hl10_1 k b om hb⟩)⟩⟩ _ _ _ rfl os (dK.cons rfl<|dK.cons rfl<|aY rfl hb31<|dK.nil _) (aG [0,1,2,3,4,5,6,7,8]))
 refine WK hK24<|ai fun _ hK27=>av<|ai fun _ hK28=>dC cD 11 kr<|dP 3 [] (mc 0 rfl mn) ?_
 obtain ⟨u,hu⟩:=aO r.cG k om
 have hum:=bI iC hu
 refine dS (IA k rfl (aA 6 rfl) dB dc om om)<|dS (gU k 0 (vI u) rfl bJ (aA 6 rfl) hum rfl dc rfl)<|dP 3 [] (mc 0 rfl mn) ?_
 refine dS (IA i rfl (aA 6 rfl) dB dc om om)<|dS (gU i 0 (vI x) rfl bJ (aA 6 rfl) hxm rfl dc rfl)<|dP 1 [] mn ?_
 refine cO<|RK hK28 ?_
 refine bM rfl (aQ fun h95=>?_) (aP fun h95=>?_)
 ·refine bZ ?_
  refine ax<|KK hK27<|ak<|rP 3 [] mn ?_
  refine aB ?_
  have hb30:(vI (((k+1):Nat):Int))=(vI (((k:Nat):Int)+1)):=by exact cI om
  refine aN (hJ23 ⟨(k+1),⟨om,vb hl10_1 hu h95⟩⟩ _ _ _ rfl os (cv 3<|aY rfl hb30<|dK.nil _) (aG [0,1,2,3,4,5,6,7,8]))
 refine WS fun _ hK29=>rP 2 [] mn ?_
 refine RK hK29<|an ?_
 refine hQ _ _ _ (aZ (vs:=[(vS none 0 0),(vB false)]) ⟨rfl,rfl,trivial⟩ fun w hs=>ej (false,0,none,0,[]) [] ?_ ?_ rfl rfl (by first|rfl|(show List.all _ _=true; simp only [cond_true,cg,List.all_nil,eG,Bool.and_true]; rfl)) hs)
 ·rfl
 ·first|(exact ⟨fun q=>Bool.noConfusion (show false=true from q),fun _=>⟨rfl,fun q=>by have q1:=q.num; have q2:=q.mR; have q3:=q.nh; have q4:=q.mU; omega⟩⟩)|(exact ⟨fun q=>Bool.noConfusion (show false=true from q),fun _=>⟨rfl,fun q=>by have q1:=(q.ids i y hy).1; omega⟩⟩)|(exact ⟨fun q=>Bool.noConfusion (show false=true from q),fun _=>⟨rfl,fun q=>by have q1:=(q.ids i y hy).2 z om hz; omega⟩⟩)|(exact ⟨fun q=>Bool.noConfusion (show false=true from q),fun _=>⟨rfl,fun q=>by have q1:=q.lY hx; omega⟩⟩)|(exact ⟨fun q=>Bool.noConfusion (show false=true from q),fun _=>⟨rfl,fun q=>by exact q.lW om hu hx h95⟩⟩)|(exact ⟨fun q=>Bool.noConfusion (show false=true from q),fun _=>⟨rfl,fun q=>by have q1:=(q.gF ht (aw hht)).1; omega⟩⟩)|(exact ⟨fun q=>Bool.noConfusion (show false=true from q),fun _=>⟨rfl,fun q=>by exact h131 ((q.gF ht (aw hht)).2 d (aw hd))⟩⟩)
end
section
open Go.RowKit
theorem wZ (r:dg) (kA:OA) (kC:Nat) (az:List RA) (cA:OA) (cC:Nat) (bA:OA) (bC:Nat) (slA:OA) (slC:Nat) (drA:OA) (drC:Nat) (ha:List gZ) (heA:OA) (heC:Nat) (hin:iT r az ha):
 oY Tryz.prog 34 [(vA (eT.cells (kx r kA kC cA cC bA bC slA slC drA drC heA heC)))] [(rd kA r.aD.aH.length 9 (r.aD.aH.map ah.cells)),(rd cA r.aD.aj.length 2 (List.zipWith al.cells r.aD.aj az)),(du (aU al.fK r.aD.aj az)),(rd bA r.aD.ab.length 4 (r.aD.ab.map bx.cells)),(rd slA r.aF.length 1 (r.aF.map iC)),(rd drA r.cG.length 1 (r.cG.map iC)),(rd heA r.ay.length 1 (List.zipWith eO r.ay ha)),(du (aU gf r.ay ha))] (fun (x:Bool×Int×(OA)×Nat×(List RA))=>bif x.1 then (vT [(vS x.2.2.1 ((bX r).length) x.2.2.2.1),(vI 0)]) else (vT [(vS none 0 0),(vI x.2.1)])) (fun (x:Bool×Int×(OA)×Nat×(List RA))=>(x.1=true→(fV r=0∧x.2.2.2.2.length=r.ay.length))∧(x.1=false→(x.2.1=fV r∧ ¬ fV r=0))) (fun (x:Bool×Int×(OA)×Nat×(List RA))=>bif x.1 then [(own x.2.2.1 x.2.2.2.1 78 1 (List.zipWith wj (bX r) x.2.2.2.2)),(bV (aU yh (bX r) x.2.2.2.2))] else []):=by
 have hline:=hin.line
 have hhl:=hin.jZ
 have hhs:=hin.has
 have hsll:=hin.j6
 have hdrl:=hin.draw
 have htal:=eA (r:=r)
 refine ff kr Tryz.func34 rfl rfl fun w0 Q hQ hN=>?_
 try dsimp only
 refine WS fun _ hK1=>fP rfl fun b2=>rP 2 [] mn ?_
 refine RK hK1<|ai fun _ hK3=>WS fun _ hK4=>rP 1 [] mn ?_
 refine rS (LP (cE.cells (jx r.aD kA kC cA cC bA bC)) 0 rfl bJ rfl rfl rfl)<|rS (CL (zm r.aD kA kC az cA cC bA bC sd) (bh [1,2,3,4]) rfl)<|rP 1 [] mn ?_
 refine RK hK4<|WS fun _ hK5=>rP 2 [] mn ?_
 refine RK hK5 ?_
 refine cP rfl (bk fun h11=>?_) (bj fun h11=>?_)
 ·refine WS fun _ hK6=>?_
  refine rP 3 [] mn ?_
  refine RK hK6<|an ?_
  refine hQ _ _ _ (aZ (vs:=[(vS none 0 0),(vI (dh r.aD))]) ⟨rfl,rfl,trivial⟩ fun w hs=>ej (false,(dh r.aD),none,0,[]) [] ?_ ?_ rfl rfl (by first|rfl|(show List.all _ _=true; simp only [cond_true,cg,List.all_nil,eG,Bool.and_true]; rfl)) hs)
  ·rfl
  ·refine ⟨fun q=>Bool.noConfusion (show false=true from q),fun _=>?_⟩; first|(have e:=hG h11; exact ⟨e.symm,fun q=>h11 (e.symm.trans q)⟩)|(have e:=bG h11 he; exact ⟨e.symm,fun q=>absurd (e.symm.trans q) dc⟩)
 refine WK hK3<|WS fun _ hK7=>rP 1 [] (mc 0 rfl mn) ?_
 refine cX (AN r kA kC az cA cC bA bC slA slC drA drC ha heA heC hin (by exact h11)) (bh [1,2,3,4,5,6,7,8]) rfl fun y8 hy9=>?_
 obtain ⟨ok14,ec10,tA11,tC12,tz13⟩:=y8
 cases ok14
 rotate_left 1
 ·obtain ⟨hrok,htz⟩:=hy9.1 rfl
  try dsimp only [cond_true,cond_false,List.cons_append,List.nil_append]
  refine rP 5 [] mn ?_
  refine RK hK7<|ai fun _ hK18=>WS fun _ hK19=>rP 2 [] mn ?_
  refine RK hK19<|aW rfl<|WK hK18<|WS fun _ hK20=>rP 3 [] mn ?_
  refine RK hK20<|an ?_
  refine hQ _ _ _ (aZ (vs:=[(vS tA11 ((bX r).length) tC12),(vI 0)]) ⟨rfl,rfl,trivial⟩ fun w hs=>ej (true,0,tA11,tC12,tz13) [0,1] ?_ ?_ rfl rfl (by first|rfl|(show List.all _ _=true; simp only [cond_true,cg,List.all_nil,eG,Bool.and_true]; rfl)) hs)
  ·rfl
  ·exact ⟨fun _=>⟨zB h11 hrok,htz⟩,fun q=>Bool.noConfusion (show true=false from q)⟩
 obtain ⟨hec,he⟩:=hy9.2 rfl
 try dsimp only at hec he
 subst hec
 try dsimp only [cond_true,cond_false,List.cons_append,List.nil_append]
 refine rP 5 [] mn ?_
 refine RK hK7<|ai fun _ hK15=>WS fun _ hK16=>rP 2 [] mn ?_
 refine RK hK16<|aI rfl<|WS fun _ hK17=>rP 2 [] mn ?_
 refine RK hK17<|an ?_
 refine hQ _ _ _ (aZ (vs:=[(vS none 0 0),(vI 60)]) ⟨rfl,rfl,trivial⟩ fun w hs=>ej (false,60,none,0,[]) [] ?_ ?_ rfl rfl (by first|rfl|(show List.all _ _=true; simp only [cond_true,cg,List.all_nil,eG,Bool.and_true]; rfl)) hs)
 ·rfl
 ·refine ⟨fun q=>Bool.noConfusion (show false=true from q),fun _=>?_⟩; first|(have e:=hG h11; exact ⟨e.symm,fun q=>h11 (e.symm.trans q)⟩)|(have e:=bG h11 he; exact ⟨e.symm,fun q=>absurd (e.symm.trans q) dc⟩)
end
section
open Go.RowKit
theorem xT (r:dg) (kA:OA) (kC:Nat) (az:List RA) (cA:OA) (cC:Nat) (bA:OA) (bC:Nat) (slA:OA) (slC:Nat) (drA:OA) (drC:Nat) (ha:List gZ) (heA:OA) (heC:Nat) (i:Int) (hin:iT r az ha):
 eu Tryz.prog 35 [(vA (eT.cells (kx r kA kC cA cC bA bC slA slC drA drC heA heC))),(vI i)] [(rd kA r.aD.aH.length 9 (r.aD.aH.map ah.cells)),(rd cA r.aD.aj.length 2 (List.zipWith al.cells r.aD.aj az)),(du (aU al.fK r.aD.aj az)),(rd bA r.aD.ab.length 4 (r.aD.ab.map bx.cells)),(rd slA r.aF.length 1 (r.aF.map iC)),(rd drA r.cG.length 1 (r.cG.map iC)),(rd heA r.ay.length 1 (List.zipWith eO r.ay ha)),(du (aU gf r.ay ha))] (vB (decide (0≤i∧i≤(r.aF.length:Int)-1))):=by
 have hline:=hin.line
 have hhl:=hin.jZ
 have hhs:=hin.has
 have hsll:=hin.j6
 have hdrl:=hin.draw
 have htal:=eA (r:=r)
 refine bu kr Tryz.func35 rfl rfl fun w0 Q hQ hN=>?_
 try dsimp only
 refine WS fun _ hK1=>fP rfl fun b2=>rP 1 [] mn ?_
 refine RK hK1<|WS fun _ hK3=>rP 5 [] (mc 0 rfl mn) ?_
 refine rS (CL (j2 i 0 (((r.aF.length:Nat):Int)-1)) (aT) rfl)<|rP 1 [] mn ?_
 refine RK hK3<|an ?_
 exact Q1 hQ rfl rfl rfl rfl
theorem Bh (r:dg) (kA:OA) (kC:Nat) (az:List RA) (cA:OA) (cC:Nat) (bA:OA) (bC:Nat) (slA:OA) (slC:Nat) (drA:OA) (drC:Nat) (ha:List gZ) (heA:OA) (heC:Nat) (tz:List RA) (tA:OA) (tC:Nat) (n i:Int) (hin:iT r az ha) (htz:tz.length=r.ay.length) (hn:0≤n∧n≤(r.ay.length:Int)) (hir:0≤i∧i≤(r.aF.length:Int)-1) (hok:iS r r.ay.length):
 eu Tryz.prog 46 [(vA (eT.cells (kx r kA kC cA cC bA bC slA slC drA drC heA heC))),(vS tA ((bX r).length) tC),(vI n),(vI i)] [(rd kA r.aD.aH.length 9 (r.aD.aH.map ah.cells)),(rd cA r.aD.aj.length 2 (List.zipWith al.cells r.aD.aj az)),(du (aU al.fK r.aD.aj az)),(rd bA r.aD.ab.length 4 (r.aD.ab.map bx.cells)),(rd slA r.aF.length 1 (r.aF.map iC)),(rd drA r.cG.length 1 (r.cG.map iC)),(rd heA r.ay.length 1 (List.zipWith eO r.ay ha)),(du (aU gf r.ay ha)),(rd tA ((bX r).length) 1 (List.zipWith wj (bX r) tz)),(du (aU wR (bX r) tz))] (vT [(vA (aa.cells ((dz r.aD r.ay (i).toNat (n).toNat).getD cK))),(vB ((dz r.aD r.ay (i).toNat (n).toNat).isSome))]):=by
 have hline:=hin.line
 have hhl:=hin.jZ
 have hhs:=hin.has
 have hsll:=hin.j6
 have hdrl:=hin.draw
 have htal:=eA (r:=r)
 refine bu kr Tryz.func46 rfl rfl fun w0 Q hQ hN=>?_
 try dsimp only
 refine WS fun _ hK1=>fP rfl fun b2=>AL rfl cV fun b3=>rP 1 [] mn ?_
 refine RK hK1<|WS fun _ hK4=>AL rfl cV fun b5=>RK hK4<|ai fun _ hK6=>WS fun _ hK7=>rP 1 [] mn ?_
 refine RK hK7<|av ?_
 have hinit:((0:Int)≤n)∧((dz r.aD r.ay (i).toNat 0)=some (aa.mk 0 0)):=by exact ⟨om,rfl⟩
 refine cp (ι:={z:Nat×aa // ((z.1:Int)≤n)∧((dz r.aD r.ay (i).toNat z.1)=some z.2)}) (fun z=>[(1,(vS tA ((bX r).length) tC)),(2,(vI n)),(3,(vI i)),(4,(vP b2)),(8,(vP b3)),(10,(vP b5)),(11,(vI ((z.1.1:Nat):Int)))]) (fun z=>[(br b5 47 (aa.cells z.1.2)),(br b3 47 (aa.cells (aa.mk 0 0))),(br b2 32 (eT.cells (kx r kA kC cA cC bA bC slA slC drA drC heA heC))),(rd kA r.aD.aH.length 9 (r.aD.aH.map ah.cells)).ro,(rd cA r.aD.aj.length 2 (List.zipWith al.cells r.aD.aj az)).ro,(du (aU al.fK r.aD.aj az)).ro,(rd bA r.aD.ab.length 4 (r.aD.ab.map bx.cells)).ro,(rd slA r.aF.length 1 (r.aF.map iC)).ro,(rd drA r.cG.length 1 (r.cG.map iC)).ro,(rd heA r.ay.length 1 (List.zipWith eO r.ay ha)).ro,(du (aU gf r.ay ha)).ro,(rd tA ((bX r).length) 1 (List.zipWith wj (bX r) tz)).ro,(du (aU wR (bX r) tz)).ro]) (fun z=>n.toNat-z.1.1) ⟨(0,(aa.mk 0 0)),hinit⟩ (aL rfl) (aG [0,1,2,3,4,5,6,7,8,9,10,11,12]) ?_
 clear hinit
 rintro ⟨⟨h,s⟩,⟨hl3_0,hl3_1⟩⟩ J8 hJ8
 try dsimp only at hl3_0 hl3_1
 try dsimp only
 refine ai fun _ hK9=>WS fun _ hK10=>rP 3 [] mn ?_
 refine RK hK10 ?_
 refine bM rfl (aQ fun h14=>?_) (aP fun h14=>?_)
 ·refine bp ?_
  refine ae<|ae<|au<|KK hK6<|WS fun _ hK16=>rP 1 [] (mc 0 rfl mn) ?_
  refine oV rfl bY rfl<|rP 1 [] mn ?_
  refine RK hK16<|an ?_
  refine hQ _ _ _ (aZ (vs:=[(vA (aa.cells s)),(vB true)]) ⟨⟨_,rfl,.inl ⟨_,_,bJ,bQ (vs:=(aa.cells s)) 1 rfl rfl,rfl,rfl⟩⟩,rfl,trivial⟩ fun w hs=>eM ?_ hs)
  show (vT [(vA (aa.cells s)),(vB true)])=(vT [(vA (aa.cells ((dz r.aD r.ay (i).toNat (n).toNat).getD cK))),(vB ((dz r.aD r.ay (i).toNat (n).toNat).isSome))])
  clear hs w hQ hN hK16 hK10 hK9 hK7 hK6 hK4 hK1
  first|(have e:dz r.aD r.ay (i).toNat (n).toNat=none:=qy (pJ hht hd h25) om; rw [e]; first|done|rfl)|((have e:dz r.aD r.ay (i).toNat (n).toNat=some s:=by rw [show n.toNat=h by omega]; exact hl3_1); (rw [e]; first|done|rfl))
 refine WK hK9<|ai fun _ hK11=>av<|ai fun _ hK12=>WS fun _ hK13=>rP 3 [] (mc 2 rfl mn) ?_
 obtain ⟨ht,hht⟩:=aO r.ay h om
 obtain ⟨hta,hhta⟩:=aO ha h om
 have hhtm:(List.zipWith eO r.ay ha)[h]? =some (eO ht hta):=gn hht hhta
 refine rS (IA h rfl (aA 9 rfl) zG dc om om) ?_
 have hhi:=hin.gF _ _ _ hht hhta
 have hhas:=hhi.qa
 have hto:=hok h ht om hht
 have hto1:=hto.1
 refine rS (gU h 0 (vS hta.1.1 ht.length hta.1.2) rfl bJ (aA 9 rfl) hhtm rfl dc rfl)<|rP 1 [] mn ?_
 obtain ⟨d,hd⟩:=aO ht ((i).toNat) om
 obtain ⟨da,hda⟩:=aO hta.2 ((i).toNat) om
 have hdm:(List.zipWith aS.cells ht hta.2)[(i).toNat]? =some (aS.cells d da):=gn hd hda
 refine rS (IA ((i).toNat) rfl (show ji _ (rd hta.1.1 ht.length 7 (List.zipWith aS.cells ht hta.2)).holds from (dA 10 rfl (cm hht hhta cZ))) EA dc om om)<|rS (mT (((i).toNat)*7) rfl (show ji _ (rd hta.1.1 ht.length 7 (List.zipWith aS.cells ht hta.2)).holds from (dA 10 rfl (cm hht hhta cZ))) (Nat.mul_pos om dc) gp rfl)<|rS (gU ((i).toNat) 0 (vB d.Out) rfl bJ (show ji _ (rd hta.1.1 ht.length 7 (List.zipWith aS.cells ht hta.2)).holds from (dA 10 rfl (cm hht hhta cZ))) hdm rfl dc rfl)<|RK hK13 ?_
 refine cP rfl (fun h25=>?_) (fun h25=>?_)
 ·refine WS fun _ hK14=>?_
  refine rS (SX (bg (xs:=[]) (cs:=(aa.cells (aa.mk 0 0))) rfl rfl (bf fg rfl)) rfl rfl)<|oV rfl bY rfl<|rP 1 [] mn ?_
  refine RK hK14<|an ?_
  refine hQ _ _ _ (aZ (vs:=[(vA (aa.cells (aa.mk 0 0))),(vB false)]) ⟨⟨_,rfl,.inl ⟨_,_,bJ,bQ (vs:=(aa.cells (aa.mk 0 0))) 1 rfl rfl,rfl,rfl⟩⟩,rfl,trivial⟩ fun w hs=>eM ?_ hs)
  show (vT [(vA (aa.cells (aa.mk 0 0))),(vB false)])=(vT [(vA (aa.cells ((dz r.aD r.ay (i).toNat (n).toNat).getD cK))),(vB ((dz r.aD r.ay (i).toNat (n).toNat).isSome))])
  clear hs w hQ hN hK14 hK13 hK12 hK11 hK10 hK9 hK7 hK6 hK4 hK1
  first|(have e:dz r.aD r.ay (i).toNat (n).toNat=none:=qy (pJ hht hd h25) om; rw [e]; first|done|rfl)|((have e:dz r.aD r.ay (i).toNat (n).toNat=some s:=by rw [show n.toNat=h by omega]; exact hl3_1); (rw [e]; first|done|rfl))
 refine WK hK12<|dC cD 25 kr<|dP 4 [] (mc 0 rfl mn) ?_
 obtain ⟨tr,htr⟩:=aO (bX r) h om
 obtain ⟨tra,htra⟩:=aO tz h om
 have htrm:(List.zipWith wj (bX r) tz)[h]? =some (wj tr tra):=gn htr htra
 refine dS (IA h rfl (aA 11 rfl) E3 dc om om) ?_
 have htr2:=wM hht htr
 have htrl:tr.length=r.aF.length:=by rw [htr2,List.length_map]; exact hto1
 have hsb:=uj (fun j x hj hx=>hok j x om hx) om hl3_1
 refine dS (gU h 0 (vS tra.1 tr.length tra.2) rfl bJ (aA 11 rfl) htrm rfl dc rfl)<|dP 1 [] mn ?_
 obtain ⟨x,hx⟩:=aO tr ((i).toNat) om
 have hxm:=bI aa.cells hx
 refine dS (IA ((i).toNat) rfl (show ji _ (rd tra.1 tr.length 2 (tr.map aa.cells)).holds from (dA 12 rfl (cm htr htra (by simp [wR])))) jF dc om om) ?_
 have hxe:=EY htr2 hx hd
 have htb:=xG (hto.2 d (aw hd))
 rw [← hxe] at htb
 refine dS (mT (((i).toNat)*2) rfl (show ji _ (rd tra.1 tr.length 2 (tr.map aa.cells)).holds from (dA 12 rfl (cm htr htra (by simp [wR])))) (Nat.mul_pos om dc) gp rfl)<|dS (gU ((i).toNat) 0 (vI x.Lo) rfl bJ (show ji _ (rd tra.1 tr.length 2 (tr.map aa.cells)).holds from (dA 12 rfl (cm htr htra (by simp [wR])))) hxm rfl dc rfl)<|dS (BI rfl (o6 om om om))<|dP 5 [] (mc 0 rfl mn) ?_
 refine dS (IA h rfl (aA 11 rfl) E3 dc om om)<|dS (gU h 0 (vS tra.1 tr.length tra.2) rfl bJ (aA 11 rfl) htrm rfl dc rfl)<|dP 1 [] mn ?_
 refine dS (IA ((i).toNat) rfl (show ji _ (rd tra.1 tr.length 2 (tr.map aa.cells)).holds from (dA 12 rfl (cm htr htra (by simp [wR])))) jF dc om om)<|dS (mT ((((i).toNat)*2)+1) rfl (show ji _ (rd tra.1 tr.length 2 (tr.map aa.cells)).holds from (dA 12 rfl (cm htr htra (by simp [wR])))) (Nat.mul_pos om dc) gp rfl)<|dS (gU ((i).toNat) 1 (vI x.Hi) rfl bJ (show ji _ (rd tra.1 tr.length 2 (tr.map aa.cells)).holds from (dA 12 rfl (cm htr htra (by simp [wR])))) hxm rfl dc rfl)<|dS (BI rfl (o6 om om om))<|dP 1 [] mn ?_
 refine dS (SX (bg (xs:=[(0,.tmp 38),(1,.tmp 50)]) (cs:=(aa.cells (aa.mk (s.Lo+(x.Lo/10)) (s.Hi+(x.Hi/10))))) rfl rfl (bf fg rfl)) rfl rfl)<|cO<|f_ rfl bY rfl<|aB<|ax<|KK hK11<|ak<|rP 3 [] mn ?_
 refine aB ?_
 have hb15:(vI (((h+1):Nat):Int))=(vI (((h:Nat):Int)+1)):=by exact cI om
 refine aN (hJ8 ⟨((h+1),(aa.mk (s.Lo+(x.Lo/10)) (s.Hi+(x.Hi/10)))),⟨om,by rw [hxe]; exact vj hht hd (by rw [h25]; decide) hl3_1⟩⟩ _ _ _ rfl os (cv 6<|aY rfl hb15<|dK.nil _) (aG [0,1,2,3,4,5,6,7,8,9,10,11,12]))
end
section
open Go.RowKit
theorem Kb (r:dg) (kA:OA) (kC:Nat) (az:List RA) (cA:OA) (cC:Nat) (bA:OA) (bC:Nat) (slA:OA) (slC:Nat) (drA:OA) (drC:Nat) (ha:List gZ) (heA:OA) (heC:Nat) (tz:List RA) (tA:OA) (tC:Nat) (hin:iT r az ha) (htz:tz.length=r.ay.length) (hok:iS r r.ay.length):
 oY Tryz.prog 36 [(vA (eT.cells (kx r kA kC cA cC bA bC slA slC drA drC heA heC))),(vS tA ((bX r).length) tC)] [(rd kA r.aD.aH.length 9 (r.aD.aH.map ah.cells)),(rd cA r.aD.aj.length 2 (List.zipWith al.cells r.aD.aj az)),(du (aU al.fK r.aD.aj az)),(rd bA r.aD.ab.length 4 (r.aD.ab.map bx.cells)),(rd slA r.aF.length 1 (r.aF.map iC)),(rd drA r.cG.length 1 (r.cG.map iC)),(rd heA r.ay.length 1 (List.zipWith eO r.ay ha)),(du (aU gf r.ay ha)),(rd tA ((bX r).length) 1 (List.zipWith wj (bX r) tz)),(du (aU wR (bX r) tz))] (fun (x:Nat)=>(Value.map (some x))) (fun (x:Nat)=>True) (fun (x:Nat)=>[(gQ iV x (bw dF (aJ r)))]):=by
 have hline:=hin.line
 have hhl:=hin.jZ
 have hhs:=hin.has
 have hsll:=hin.j6
 have hdrl:=hin.draw
 have htal:=eA (r:=r)
 refine ff kr Tryz.func36 rfl rfl fun w0 Q hQ hN=>?_
 try dsimp only
 refine WS fun _ hK1=>fP rfl fun b2=>rP 1 [] mn ?_
 refine RK hK1<|WS fun _ hK3=>mD (kV:=iV) rfl rfl fun b4=>?_
 try dsimp only
 refine rP 1 [] mn ?_
 refine RK hK3<|ai fun _ hK5=>WS fun _ hK6=>rP 1 [] mn ?_
 refine RK hK6<|av ?_
 skip
 have hinit:(0≤r.aF.length):=by exact Nat.zero_le _
 refine cp (ι:={z:Nat // (z≤r.aF.length)}) (fun z=>[(1,(vS tA ((bX r).length) tC)),(2,(vP b2)),(5,(Value.map (some b4))),(6,(vI ((z.1:Nat):Int)))]) (fun z=>[(gQ iV b4 (bw dF (fM r z.1))),(br b2 32 (eT.cells (kx r kA kC cA cC bA bC slA slC drA drC heA heC))),(rd kA r.aD.aH.length 9 (r.aD.aH.map ah.cells)).ro,(rd cA r.aD.aj.length 2 (List.zipWith al.cells r.aD.aj az)).ro,(du (aU al.fK r.aD.aj az)).ro,(rd bA r.aD.ab.length 4 (r.aD.ab.map bx.cells)).ro,(rd slA r.aF.length 1 (r.aF.map iC)).ro,(rd drA r.cG.length 1 (r.cG.map iC)).ro,(rd heA r.ay.length 1 (List.zipWith eO r.ay ha)).ro,(du (aU gf r.ay ha)).ro,(rd tA ((bX r).length) 1 (List.zipWith wj (bX r) tz)).ro,(du (aU wR (bX r) tz)).ro]) (fun z=>r.aF.length-z.1) ⟨0,hinit⟩ (aL rfl) (aG [0,1,2,3,4,5,6,7,8,9,10,11]) ?_
 clear hinit
 rintro ⟨k,hl3_0⟩ J7 hJ7
 try dsimp only
 refine ai fun _ hK8=>WS fun _ hK9=>rP 5 [] (mc 1 rfl mn) ?_
 refine RK hK9 ?_
 refine bM rfl (aQ fun h10=>?_) (aP fun h10=>?_)
 ·refine bp ?_
  refine ae<|ae<|au<|KK hK5<|ai fun _ hK18=>?_
  rw [show fM r k=aJ r from by rw [← kZ,show k=r.aF.length by omega]]
  refine ak<|rP 2 [] mn ?_
  refine RK hK18<|an ?_
  refine hQ _ _ _ (aZ (vs:=[(Value.map (some b4))]) ⟨rfl,trivial⟩ fun w hs=>ej b4 [0] ?_ ?_ rfl rfl rfl hs)
  ·rfl
  ·trivial
 refine WK hK8<|ai fun _ hK11=>av<|WS fun _ hK12=>rP 6 [] (mc 1 rfl mn) ?_
 refine rS (CL (Bh r kA kC az cA cC bA bC slA slC drA drC ha heA heC tz tA tC ((r.ay.length:Nat):Int) ((k:Nat):Int) hin htz sd sd hok) (bh [2,3,4,5,6,7,8,9,10,11]) rfl)<|rP 3 [] mn ?_
 refine AL rfl cV fun b13=>f_ rfl bY rfl<|rP 1 [] mn ?_
 refine RK hK12<|WS fun _ hK14=>rP 1 [] mn ?_
 refine RK hK14 ?_
 refine bM rfl (fun h27=>?_) (fun h27=>?_)
 ·refine bZ ?_
  refine ax<|KK hK11<|ak<|rP 3 [] mn ?_
  refine aB ?_
  rw [show fM r k=fM r (k+1) from (yq (Option.not_isSome_iff_eq_none.1 (by simp only [Int.toNat_natCast] at h27; rw [h27]; decide))).symm]
  have hb17:(vI (((k+1):Nat):Int))=(vI (((k:Nat):Int)+1)):=by exact cI om
  refine aN (hJ7 ⟨(k+1),(by first|omega|(simp only []; omega))⟩ _ _ _ rfl os (cv 3<|aY rfl hb17<|dK.nil _) (aG [1,2,3,4,5,6,7,8,9,10,11,12]))
 refine ak ?_
 obtain ⟨s0,hs0⟩:=Option.isSome_iff_exists.1 h27
 rw [show ((dz r.aD r.ay (((k:Nat):Int)).toNat (((r.ay.length:Nat):Int)).toNat).getD cK)=s0 from by rw [hs0]; rfl]
 refine rP 3 [] (mc 0 rfl mn) ?_
 have hb15:(eg (fM r k) ((k:Nat):Int) s0)=(fM r (k+1)):=by exact CP (by simpa only [Int.toNat_natCast] using hs0)
 refine jk (kV:=iV) (x:=((k:Nat):Int)) (C':=[_,(gQ iV b4 (bw dF (fM r (k+1)))),_,_,_,_,_,_,_,_,_,_,_]) 1 rfl rfl rfl rfl nJ (eK oZ) rfl ((gK _ _ _ _).symm.trans (congrArg _ hb15)) rfl<|aB<|ax<|KK hK11<|ak<|rP 3 [] mn ?_
 refine aB ?_
 have hb16:(vI (((k+1):Nat):Int))=(vI (((k:Nat):Int)+1)):=by exact cI om
 refine aN (hJ7 ⟨(k+1),(by first|omega|(simp only []; omega))⟩ _ _ _ rfl os (cv 3<|aY rfl hb16<|dK.nil _) (aG [1,2,3,4,5,6,7,8,9,10,11,12]))
end
section
open Go.RowKit
theorem Gn (r:dg) (kA:OA) (kC:Nat) (cA:OA) (cC:Nat) (bA:OA) (bC:Nat) (slA:OA) (slC:Nat) (drA:OA) (drC:Nat) (heA:OA) (heC gs:Nat) (i:Int) (hb: ∀ p∈aJ r,0≤p.2.Lo∧p.2.Lo≤p.2.Hi∧p.2.Hi≤30000000) (hi:(aJ r).lookup i≠none) (hn5:r.aF.length≤5):
 oY Tryz.prog 37 [(vA (eT.cells (kx r kA kC cA cC bA bC slA slC drA drC heA heC))),(Value.map (some gs)),(vI i)] [(gQ iV gs (bw dF (aJ r)))] (fun (x:(OA)×Nat)=>(vS x.1 ((iI (aJ r) i (aC (aJ r) i)).length) x.2)) (fun (x:(OA)×Nat)=>True) (fun (x:(OA)×Nat)=>[(own x.1 x.2 3 1 ((iI (aJ r) i (aC (aJ r) i)).map iC))]):=by
 have hob:=lI (i:=i) hb
 have hsm:=w9 (r:=r) (k:=r.aF.length)
 rw [kZ] at hsm
 refine ff kr Tryz.func37 rfl rfl fun w0 Q hQ hN=>?_
 try dsimp only
 refine WS fun _ hK1=>fP rfl fun b2=>rP 1 [] mn ?_
 refine RK hK1<|WS fun _ hK3=>rP 2 [] mn ?_
 refine rS (SX (tw (kV:=iV) (x:=i) (l:=(aJ r)) (f:=dF) (z:=(aa.mk 0 0)) rfl rfl rfl nJ (eK oZ) xz (by exact mg 1 rfl)) rfl rfl)<|AL rfl cV fun b4=>f_ rfl bY rfl<|RK hK3<|WS fun _ hK5=>?_
 rw [show ((List.lookup i (aJ r)).getD (aa.mk 0 0))=(aC (aJ r) i) from rfl]
 refine rP 2 [] (mc 0 rfl mn) ?_
 refine fc (xs:=[.tmp 26]) (cs:=[(vI ((aC (aJ r) i).Lo))]) rfl dB lT rfl rfl rfl rfl (by simp [Value.cells]) rfl rfl fun b6=>rP 1 [] mn ?_
 refine RK hK5<|ai fun _ hK7=>ai fun _ hK8=>Dl (es:=(List.map iC [(aC (aJ r) i).Lo])) (C':=[(own (some ⟨b6,0,none⟩) 1 3 1 (List.map iC [(aC (aJ r) i).Lo])),_,_,_]) 0 rfl (HY bT _) rfl (by show 1≤maxLen; decide) rfl<|ak<|rP 1 [] mn ?_
 refine RK hK8<|av ?_
 have hinit:(0≤r.aF.length)∧(yK r i (aC (aJ r) i) 0 ([(aC (aJ r) i).Lo])):=by exact ⟨Nat.zero_le _,DX⟩
 refine cp (ι:={z:Nat×(List Int)×(OA)×Nat // (z.1≤r.aF.length)∧(yK r i (aC (aJ r) i) z.1 z.2.1)}) (fun z=>[(1,(Value.map (some gs))),(2,(vI i)),(3,(vP b2)),(7,(vP b4)),(8,(vS z.1.2.2.1 z.1.2.1.length z.1.2.2.2)),(9,(vI ((z.1.1:Nat):Int)))]) (fun z=>[(own z.1.2.2.1 z.1.2.2.2 3 1 (z.1.2.1.map iC)),(br b4 47 (aa.cells (aC (aJ r) i))),(br b2 32 (eT.cells (kx r kA kC cA cC bA bC slA slC drA drC heA heC))),(gQ iV gs (bw dF (aJ r))).ro]) (fun z=>r.aF.length-z.1.1) ⟨(0,[(aC (aJ r) i).Lo],(some ⟨b6,0,none⟩),1),hinit⟩ (aL rfl) (aG [0,1,2,3]) ?_
 clear hinit
 rintro ⟨⟨k,ys,a,c⟩,⟨hl4_0,hl4_1⟩⟩ J9 hJ9
 try dsimp only at hl4_0 hl4_1
 try dsimp only
 refine ai fun _ hK10=>WS fun _ hK11=>rP 5 [] (mc 2 rfl mn) ?_
 refine RK hK11 ?_
 refine cP rfl (aP fun h12=>?_) (aQ fun h12=>?_)
 ·refine WK hK10 ?_
  refine ai fun _ hK13=>av<|WS fun _ hK14=>?_
  have hlk:(aJ r).lookup ((k:Nat):Int)=dz r.aD r.ay k r.ay.length:=vk om
  refine rP 2 [] mn ?_
  refine rS (SX (iY (kV:=iV) (x:=((k:Nat):Int)) (l:=(aJ r)) (f:=dF) (z:=(aa.mk 0 0)) rfl rfl rfl nJ (eK oZ) xz (by exact mg 3 rfl)) rfl rfl)<|rP 3 [] mn ?_
  refine AL rfl cV fun b15=>f_ rfl bY rfl<|rP 1 [] mn ?_
  refine RK hK14<|ai fun _ hK16=>WS fun _ hK17=>rP 3 [] mn ?_
  refine c8 (t:=43) rfl (fun h43=>?_) (fun h43=>?_)
  ·rw [Bool.not_eq_true'] at h43
   refine rP 4 [] mn ?_
   refine RK hK17<|aI rfl<|bp<|ae<|au<|KK hK13<|ak<|rP 3 [] mn ?_
   refine aB ?_
   have hb18:(vI (((k+1):Nat):Int))=(vI (((k:Nat):Int)+1)):=by exact cI om
   refine aN (hJ9 ⟨((k+1),ys,a,c),⟨om,(by first|exact mz hl4_1 (.inl (hlk.symm.trans (Option.not_isSome_iff_eq_none.1 (by rw [h43]; decide))))|exact mz hl4_1 (.inr h47)|exact (List.append_nil ys)▸mj (zs:=[]) hl4_1 om hs1 h47 sm sm (fun n hn hb_=>by simp only [dZ,List.not_mem_nil,or_false] at hn; rcases hn with rfl|rfl<;>(exfalso; omega)))⟩⟩ _ _ _ rfl os (cv 5<|aY rfl hb18<|dK.nil _) (aG [1,2,3,4]))
  rw [Bool.not_eq_false'] at h43
  refine rP 4 [] mn ?_
  refine RK hK17 ?_
  refine cP rfl (aP fun h47=>?_) (aQ fun h47=>?_)
  ·refine bp ?_
   refine ae<|au<|KK hK13<|ak<|rP 3 [] mn ?_
   refine aB ?_
   have hb19:(vI (((k+1):Nat):Int))=(vI (((k:Nat):Int)+1)):=by exact cI om
   refine aN (hJ9 ⟨((k+1),ys,a,c),⟨om,(by first|exact mz hl4_1 (.inl (hlk.symm.trans (Option.not_isSome_iff_eq_none.1 (by rw [h43]; decide))))|exact mz hl4_1 (.inr h47)|exact (List.append_nil ys)▸mj (zs:=[]) hl4_1 om hs1 h47 sm sm (fun n hn hb_=>by simp only [dZ,List.not_mem_nil,or_false] at hn; rcases hn with rfl|rfl<;>(exfalso; omega)))⟩⟩ _ _ _ rfl os (cv 5<|aY rfl hb19<|dK.nil _) (aG [1,2,3,4]))
  refine WK hK16<|ai fun _ hK20=>WS fun _ hK21=>?_
  obtain ⟨s0,hs0⟩:=Option.isSome_iff_exists.1 h43
  have hs1:=hlk.symm.trans hs0
  have hs2:=lI (i:=((k:Nat):Int)) hb
  rw [show aC (aJ r) ((k:Nat):Int)=s0 from by unfold aC; rw [hs0]; rfl] at hs2
  rw [show ((List.lookup ((k:Nat):Int) (aJ r)).getD (aa.mk 0 0))=s0 from by rw [hs0]; rfl]
  refine rP 7 [0,1,1] (mc 0 rfl (mc 2 rfl mn)) ?_
  refine rS (CL (j2 (s0.Lo+1) ((aC (aJ r) i).Lo) ((aC (aJ r) i).Hi)) (aT) rfl)<|RK hK21 ?_
  refine bM rfl (aQ fun h55=>?_) (aP fun h55=>?_)
  ·refine WK hK20 ?_
   refine WS fun _ hK31=>rP 7 [0,1,1] (mc 0 rfl (mc 2 rfl mn)) ?_
   refine rS (CL (j2 (s0.Hi+1) ((aC (aJ r) i).Lo) ((aC (aJ r) i).Hi)) (aT) rfl)<|RK hK31 ?_
   refine bM rfl (aQ fun h69=>?_) (aP fun h69=>?_)
   ·refine bZ ?_
    refine ax<|KK hK13<|ak<|rP 3 [] mn ?_
    refine aB ?_
    have hb36:(vI (((k+1):Nat):Int))=(vI (((k:Nat):Int)+1)):=by exact cI om
    refine aN (hJ9 ⟨((k+1),ys,a,c),⟨om,(by first|exact mz hl4_1 (.inl (hlk.symm.trans (Option.not_isSome_iff_eq_none.1 (by rw [h43]; decide))))|exact mz hl4_1 (.inr h47)|exact (List.append_nil ys)▸mj (zs:=[]) hl4_1 om hs1 h47 sm sm (fun n hn hb_=>by simp only [dZ,List.not_mem_nil,or_false] at hn; rcases hn with rfl|rfl<;>(exfalso; omega)))⟩⟩ _ _ _ rfl os (cv 5<|aY rfl hb36<|dK.nil _) (aG [1,2,3,4]))
   refine ak<|rP 4 [] (mc 0 rfl mn) ?_
   refine fc (xs:=[.tmp 73]) (cs:=[(vI (s0.Hi+1))]) rfl dB lT rfl rfl rfl rfl (by simp [Value.cells]) rfl rfl fun b32=>er (es2:=(List.map iC (ys++[s0.Hi+1]))) (m':=(ys++[s0.Hi+1]).length) 2 rfl rfl rfl qe rfl rfl sm (a_ (es:=List.map iC [(s0.Hi+1)]) 0 rfl rfl (by simp [bT]) rfl) (kK _) (by have:=hl4_1.2.2.1; first|omega|(simp; omega)) (by have:=hl4_1.2.2.1; simp only [maxLen]; first|omega|(simp; omega)) sm sm rfl fun a33 c34=>?_
   try dsimp only
   refine rP 1 [] mn ?_
   refine aB<|ax<|KK hK13<|ak<|rP 3 [] mn ?_
   refine aB ?_
   have hb35:(vI (((k+1):Nat):Int))=(vI (((k:Nat):Int)+1)):=by exact cI om
   refine aN (hJ9 ⟨((k+1),(ys++[s0.Hi+1]),a33,c34),⟨om,(by (first|rw [List.append_assoc]|skip); exact mj (zs:=[s0.Hi+1]) hl4_1 om hs1 h47 sm (fun n hn=>by simp only [dZ,List.not_mem_nil,or_false] at hn; rcases hn with rfl|rfl<;>omega) (fun n hn hb_=>by simp only [dZ,List.not_mem_nil,or_false] at hn; rcases hn with rfl|rfl<;>first|(simp; done)|(exfalso; omega)))⟩⟩ _ _ _ rfl os (cv 5<|aY rfl hb35<|dK.nil _) (aG [2,3,4,5]))
  refine ak<|rP 4 [] (mc 0 rfl mn) ?_
  refine fc (xs:=[.tmp 59]) (cs:=[(vI (s0.Lo+1))]) rfl dB lT rfl rfl rfl rfl (by simp [Value.cells]) rfl rfl fun b22=>er (es2:=(List.map iC (ys++[s0.Lo+1]))) (m':=(ys++[s0.Lo+1]).length) 2 rfl rfl rfl qe rfl rfl sm (a_ (es:=List.map iC [(s0.Lo+1)]) 0 rfl rfl (by simp [bT]) rfl) (kK _) (by have:=hl4_1.2.2.1; first|omega|(simp; omega)) (by have:=hl4_1.2.2.1; simp only [maxLen]; first|omega|(simp; omega)) sm sm rfl fun a23 c24=>?_
  try dsimp only
  refine rP 1 [] mn ?_
  refine RK hK20<|WS fun _ hK25=>rP 7 [0,1,1] (mc 1 rfl (mc 3 rfl mn)) ?_
  refine rS (CL (j2 (s0.Hi+1) ((aC (aJ r) i).Lo) ((aC (aJ r) i).Hi)) (aT) rfl)<|RK hK25 ?_
  refine bM rfl (aQ fun h69=>?_) (aP fun h69=>?_)
  ·refine bZ ?_
   refine ax<|KK hK13<|ak<|rP 3 [] mn ?_
   refine aB ?_
   have hb30:(vI (((k+1):Nat):Int))=(vI (((k:Nat):Int)+1)):=by exact cI om
   refine aN (hJ9 ⟨((k+1),(ys++[s0.Lo+1]),a23,c24),⟨om,(by (first|rw [List.append_assoc]|skip); exact mj (zs:=[s0.Lo+1]) hl4_1 om hs1 h47 sm (fun n hn=>by simp only [dZ,List.not_mem_nil,or_false] at hn; rcases hn with rfl|rfl<;>omega) (fun n hn hb_=>by simp only [dZ,List.not_mem_nil,or_false] at hn; rcases hn with rfl|rfl<;>first|(simp; done)|(exfalso; omega)))⟩⟩ _ _ _ rfl os (cv 5<|aY rfl hb30<|dK.nil _) (aG [2,3,4,5]))
  refine ak<|rP 4 [] (mc 1 rfl mn) ?_
  refine fc (xs:=[.tmp 73]) (cs:=[(vI (s0.Hi+1))]) rfl dB lT rfl rfl rfl rfl (by simp [Value.cells]) rfl rfl fun b26=>er (es2:=(List.map iC ((ys++[s0.Lo+1])++[s0.Hi+1]))) (m':=((ys++[s0.Lo+1])++[s0.Hi+1]).length) 3 rfl rfl rfl qe rfl rfl sm (a_ (es:=List.map iC [(s0.Hi+1)]) 0 rfl rfl (by simp [bT]) rfl) (kK _) (by have:=hl4_1.2.2.1; first|omega|(simp; omega)) (by have:=hl4_1.2.2.1; simp only [maxLen]; first|omega|(simp; omega)) sm sm rfl fun a27 c28=>?_
  try dsimp only
  refine rP 1 [] mn ?_
  refine aB<|ax<|KK hK13<|ak<|rP 3 [] mn ?_
  refine aB ?_
  have hb29:(vI (((k+1):Nat):Int))=(vI (((k:Nat):Int)+1)):=by exact cI om
  refine aN (hJ9 ⟨((k+1),((ys++[s0.Lo+1])++[s0.Hi+1]),a27,c28),⟨om,(by (first|rw [List.append_assoc]|skip); exact mj (zs:=[s0.Lo+1,s0.Hi+1]) hl4_1 om hs1 h47 sm (fun n hn=>by simp only [dZ,List.not_mem_nil,or_false] at hn; rcases hn with rfl|rfl<;>omega) (fun n hn hb_=>by simp only [dZ,List.not_mem_nil,or_false] at hn; rcases hn with rfl|rfl<;>first|(simp; done)|(exfalso; omega)))⟩⟩ _ _ _ rfl os (cv 5<|aY rfl hb29<|dK.nil _) (aG [3,4,5,6]))
 refine bp<|ae<|ae<|au<|KK hK7<|WS fun _ hK37=>rP 4 [] (mc 2 rfl mn) ?_
 refine tR (n:=(r.aF.length+1)) (es:=(List.map iw (List.replicate (r.aF.length+1) false))) rfl rfl rfl I1 om om (by simp only [maxLen]; omega) (by rw [List.map_replicate]; rfl) rfl fun b38=>?_
 try dsimp only
 refine rP 1 [] mn ?_
 refine RK hK37<|ai fun _ hK39=>WS fun _ hK40=>rP 1 [] mn ?_
 refine RK hK40<|av ?_
 have hyl:=hl4_1.2.2.1
 have hinit:(0≤ys.length)∧((List.replicate (r.aF.length+1) false).length=r.aF.length+1)∧(nS (List.replicate (r.aF.length+1) false) (og (aJ r) i ys 0)):=by exact ⟨Nat.zero_le _,sm,Fk⟩
 refine cp (ι:={z:Nat×(List Bool) // (z.1≤ys.length)∧(z.2.length=r.aF.length+1)∧(nS z.2 (og (aJ r) i ys z.1))}) (fun z=>[(1,(Value.map (some gs))),(2,(vI i)),(3,(vP b2)),(8,(vS a ys.length c)),(12,(vS (some ⟨b38,0,none⟩) (r.aF.length+1) (r.aF.length+1))),(13,(vI ((z.1.1:Nat):Int)))]) (fun z=>[(own (some ⟨b38,0,none⟩) (r.aF.length+1) 4 1 (z.1.2.map iw)),(own a c 3 1 (ys.map iC)),(br b2 32 (eT.cells (kx r kA kC cA cC bA bC slA slC drA drC heA heC))),(gQ iV gs (bw dF (aJ r))).ro]) (fun z=>ys.length-z.1.1) ⟨(0,(List.replicate (r.aF.length+1) false)),hinit⟩ (aL rfl) (aG [0,1,3,4]) ?_
 clear hinit
 rintro ⟨⟨x,B⟩,⟨hl14_0,hl14_1,hl14_2⟩⟩ J41 hJ41
 try dsimp only at hl14_0 hl14_1 hl14_2
 try dsimp only
 refine ai fun _ hK42=>WS fun _ hK43=>rP 4 [] mn ?_
 refine RK hK43 ?_
 refine bM rfl (aQ fun h44=>?_) (aP fun h44=>?_)
 ·refine bp ?_
  refine ae<|ae<|au<|KK hK39<|WS fun _ hK79=>rP 1 [] mn ?_
  refine RK hK79<|ai fun _ hK80=>WS fun _ hK81=>rP 1 [] mn ?_
  refine RK hK81<|av ?_
  have hcx:nS B (og (aJ r) i ys ys.length):=by rw [← show x=ys.length by omega]; exact hl14_2
  refine fI 3 1 ?_
  have hinit:(0≤r.aF.length):=by exact Nat.zero_le _
  have hb82:(vI ((0+1:Nat):Int))=(vI 1):=by rfl
  refine cp (ι:={z:Nat×(OA)×Nat // (z.1≤r.aF.length)}) (fun z=>[(1,(Value.map (some gs))),(2,(vI i)),(3,(vP b2)),(12,(vS (some ⟨b38,0,none⟩) (r.aF.length+1) (r.aF.length+1))),(20,(vS z.1.2.1 ((pw (og (aJ r) i ys ys.length) z.1.1).length) z.1.2.2)),(21,(vI ((z.1.1+1:Nat):Int)))]) (fun z=>[(own z.1.2.1 z.1.2.2 3 1 ((pw (og (aJ r) i ys ys.length) z.1.1).map iC)),(own (some ⟨b38,0,none⟩) (r.aF.length+1) 4 1 (B.map iw)),(own a c 3 1 (ys.map iC)),(br b2 32 (eT.cells (kx r kA kC cA cC bA bC slA slC drA drC heA heC))),(gQ iV gs (bw dF (aJ r))).ro]) (fun z=>r.aF.length-z.1.1) ⟨(0,none,0),hinit⟩ (cv 5<|aY rfl hb82<|dK.nil _) (aG [0,1,2,3,4]) ?_
  clear hinit
  rintro ⟨⟨v,oa,oc⟩,hl32_0⟩ J83 hJ83
  try dsimp only at hl32_0
  try dsimp only
  refine ai fun _ hK84=>WS fun _ hK85=>rP 4 [] mn ?_
  refine RK hK85 ?_
  refine bM rfl (aQ fun h86=>?_) (aP fun h86=>?_)
  ·refine bp ?_
   refine ae<|ae<|au<|KK hK80<|ai fun _ hK94=>?_
   rw [show (pw (og (aJ r) i ys ys.length) v)=(iI (aJ r) i (aC (aJ r) i)) from by rw [show v=r.aF.length by omega]; exact AD hi hsm (Nat.le_refl _) (EF hl4_1 om)]
   refine ak<|rP 2 [] mn ?_
   refine RK hK94<|an ?_
   refine hQ _ _ _ (aZ (vs:=[(vS oa ((iI (aJ r) i (aC (aJ r) i)).length) oc)]) ⟨rfl,trivial⟩ fun w hs=>ej (oa,oc) [0] ?_ ?_ rfl rfl rfl hs)
   ·rfl
   ·trivial
  refine WK hK84<|ai fun _ hK87=>av<|WS fun _ hK88=>rP 2 [] mn ?_
  obtain ⟨b,hbb⟩:=aO B (v+1) om
  have hbbm:=bI iw hbb
  refine rS (IA (v+1) rfl (aK (n:=(r.aF.length+1)) 1 rfl sq) Cm dc om om)<|rS (gU (v+1) 0 (vB b) rfl bJ (aK (n:=B.length) 1 rfl sm) hbbm rfl dc rfl)<|RK hK88 ?_
  refine bM rfl (fun h144=>?_) (fun h144=>?_)
  ·refine bZ ?_
   refine ax<|KK hK87<|ak<|rP 3 [] mn ?_
   refine aB ?_
   rw [show (pw (og (aJ r) i ys ys.length) v)=(pw (og (aJ r) i ys ys.length) (v+1)) from (HV (fun z=>by have z2:=(xL hcx hbb).2 z; rw [h144] at z2; cases z2)).symm]
   have hb93:(vI (((v+1)+1:Nat):Int))=(vI (((v+1:Nat):Int)+1)):=by exact cI om
   refine aN (hJ83 ⟨((v+1),oa,oc),(by first|omega|(simp only []; omega))⟩ _ _ _ rfl os (cv 5<|aY rfl hb93<|dK.nil _) (aG [0,1,2,3,4]))
  refine ak<|rP 2 [] mn ?_
  refine fc (xs:=[.tmp 146]) (cs:=[(vI ((v+1:Nat):Int))]) rfl dB lT rfl rfl rfl rfl (by simp [Value.cells]) rfl rfl fun b89=>er (es2:=(List.map iC (pw (og (aJ r) i ys ys.length) (v+1)))) (m':=(pw (og (aJ r) i ys ys.length) (v+1)).length) 1 rfl rfl rfl qe rfl rfl sm (a_ (es:=List.map iC [((v+1:Nat):Int)]) 0 rfl rfl (by simp [bT]) rfl) (kK _) (by have:=yl (P:=og (aJ r) i ys ys.length) (k:=v); first|omega|(simp; omega)) (by have:=yl (P:=og (aJ r) i ys ys.length) (k:=v); simp only [maxLen]; first|omega|(simp; omega)) (by rw [zU ((xL hcx hbb).1 h144)]; simp) (by rw [zU ((xL hcx hbb).1 h144)]; simp) rfl fun a90 c91=>?_
  try dsimp only
  refine rP 1 [] mn ?_
  refine aB<|ax<|KK hK87<|ak<|rP 3 [] mn ?_
  refine aB ?_
  have hb92:(vI (((v+1)+1:Nat):Int))=(vI (((v+1:Nat):Int)+1)):=by exact cI om
  refine aN (hJ83 ⟨((v+1),a90,c91),(by first|omega|(simp only []; omega))⟩ _ _ _ rfl os (cv 5<|aY rfl hb92<|dK.nil _) (aG [1,2,3,4,5]))
 refine WK hK42<|ai fun _ hK45=>av<|ai fun _ hK46=>?_
 obtain ⟨y,hy⟩:=aO ys x om
 have hym:=bI iC hy
 refine ak<|rP 2 [] mn ?_
 refine RK hK46<|ai fun _ hK47=>WS fun _ hK48=>rP 1 [] mn ?_
 refine RK hK48<|av ?_
 have hinit:(0≤r.aF.length)∧((0:Int)=(ig (fM r 0) i y:Int))∧((0:Int)=(j1 (fM r 0) i y:Int)):=by exact ⟨Nat.zero_le _,rfl,rfl⟩
 refine cp (ι:={z:Nat×Int×Int // (z.1≤r.aF.length)∧(z.2.1=(ig (fM r z.1) i y:Int))∧(z.2.2=(j1 (fM r z.1) i y:Int))}) (fun z=>[(1,(Value.map (some gs))),(2,(vI i)),(3,(vP b2)),(8,(vS a ys.length c)),(12,(vS (some ⟨b38,0,none⟩) (r.aF.length+1) (r.aF.length+1))),(13,(vI ((x:Nat):Int))),(14,(vI z.1.2.1)),(15,(vI z.1.2.2)),(16,(vI ((z.1.1:Nat):Int)))]) (fun z=>[(own (some ⟨b38,0,none⟩) (r.aF.length+1) 4 1 (B.map iw)),(own a c 3 1 (ys.map iC)),(br b2 32 (eT.cells (kx r kA kC cA cC bA bC slA slC drA drC heA heC))),(gQ iV gs (bw dF (aJ r))).ro]) (fun z=>r.aF.length-z.1.1) ⟨(0,(0:Int),(0:Int)),hinit⟩ (aL rfl) (aG [0,1,2,3]) ?_
 clear hinit
 rintro ⟨⟨q,s,t⟩,⟨hl18_0,hl18_1,hl18_2⟩⟩ J49 hJ49
 try dsimp only at hl18_0 hl18_1 hl18_2
 try dsimp only
 have hs3:=xW (m:=fM r q) (i:=i) (n:=y)
 have hs4:=Ap (m:=fM r q) (i:=i) (n:=y)
 have hs5:=w9 (r:=r) (k:=q)
 refine ai fun _ hK50=>WS fun _ hK51=>rP 5 [] (mc 2 rfl mn) ?_
 refine RK hK51 ?_
 refine bM rfl (aQ fun h52=>?_) (aP fun h52=>?_)
 ·refine bp ?_
  refine ae<|ae<|au<|KK hK47<|WS fun _ hK68=>rP 2 [] mn ?_
  refine RK hK68<|av ?_
  have hinit:(s≤(s.toNat:Int)∧((s.toNat:Int)≤t+1∨(s.toNat:Int)=s))∧(B.length=r.aF.length+1)∧(nS B (fun u=>og (aJ r) i ys x u∨(s+1≤u∧u≤(s.toNat:Int)))):=by exact ⟨om,hl14_1,r9 hl14_2 fun u=>⟨.inl,fun z=>z.elim id fun z=>by omega⟩⟩
  have hb69:(vI ((s.toNat:Nat):Int))=(vI s):=by exact cI om
  refine cp (ι:={z:Nat×(List Bool) // (s≤(z.1:Int)∧((z.1:Int)≤t+1∨(z.1:Int)=s))∧(z.2.length=r.aF.length+1)∧(nS z.2 (fun u=>og (aJ r) i ys x u∨(s+1≤u∧u≤(z.1:Int))))}) (fun z=>[(1,(Value.map (some gs))),(2,(vI i)),(3,(vP b2)),(8,(vS a ys.length c)),(12,(vS (some ⟨b38,0,none⟩) (r.aF.length+1) (r.aF.length+1))),(13,(vI ((x:Nat):Int))),(14,(vI s)),(15,(vI t)),(19,(vI ((z.1.1:Nat):Int)))]) (fun z=>[(own (some ⟨b38,0,none⟩) (r.aF.length+1) 4 1 (z.1.2.map iw)),(own a c 3 1 (ys.map iC)),(br b2 32 (eT.cells (kx r kA kC cA cC bA bC slA slC drA drC heA heC))),(gQ iV gs (bw dF (aJ r))).ro]) (fun z=>(t+1-(z.1.1:Int)).toNat) ⟨(s.toNat,B),hinit⟩ (cv 8<|aY rfl hb69<|dK.nil _) (aG [0,1,2,3]) ?_
  clear hinit
  rintro ⟨⟨z,B2⟩,⟨hl27_0,hl27_1,hl27_2⟩⟩ J70 hJ70
  try dsimp only at hl27_0 hl27_1 hl27_2
  try dsimp only
  have hs6:=ye hi (x:=y)
  have hs7:t=(j1 (aJ r) i y:Int):=by rw [hl18_2,show q=r.aF.length by omega,kZ]
  refine ai fun _ hK71=>WS fun _ hK72=>rP 3 [] mn ?_
  refine RK hK72 ?_
  refine bM rfl (aQ fun h73=>?_) (aP fun h73=>?_)
  ·refine bp ?_
   refine ae<|ae<|au<|ax<|KK hK45<|ak<|rP 3 [] mn ?_
   refine aB ?_
   have hb78:(vI (((x+1):Nat):Int))=(vI (((x:Nat):Int)+1)):=by exact cI om
   refine aN (hJ41 ⟨((x+1),B2),⟨om,hl27_1,Fc (a:=s) (b:=t) (by rw [hl18_1,show q=r.aF.length by omega,kZ]) (by rw [hl18_2,show q=r.aF.length by omega,kZ]) hy (r9 hl27_2 fun u=>⟨fun z=>z.elim .inl fun z=> .inr om,fun z=>z.elim .inl fun z=> .inr om⟩)⟩⟩ _ _ _ rfl os (cv 5<|aY rfl hb78<|dK.nil _) (aG [0,1,2,3]))
  refine WK hK71<|ai fun _ hK74=>av<|ak<|rP 3 [] mn ?_
  obtain ⟨x75,hx76⟩:=aO B2 (z+1) om
  have hx76m:=bI iw hx76
  refine rS (IA (z+1) rfl (aK (n:=(r.aF.length+1)) 0 rfl sq) Cm dc om om)<|hZ (k:=(z+1)) (o:=0) (vs:=[(vB true)]) (es':=(List.map iw (B2.set (z+1) true))) (C':=[(own (some ⟨b38,0,none⟩) (r.aF.length+1) 4 1 (List.map iw (B2.set (z+1) true))),_,_,_]) 0 rfl rfl rfl N9 rfl rfl rfl rfl hx76m rfl dc (by exact (List.map_set (f:=iw) (l:=B2) (i:=(z+1)) (a:=true)).symm) rfl<|aB<|ax<|KK hK74<|ak<|rP 3 [] mn ?_
  refine aB ?_
  have hb77:(vI (((z+1):Nat):Int))=(vI (((z:Nat):Int)+1)):=by exact cI om
  refine aN (hJ70 ⟨((z+1),(B2.set (z+1) true)),⟨om,by rw [List.length_set]; exact hl27_1,r9 (H4 hl27_2) fun u=>Jc hl27_0.1⟩⟩ _ _ _ rfl dso (cv 8<|aY rfl hb77<|dK.nil _) (aG [0,1,2,3]))
 refine WK hK50<|ai fun _ hK53=>av<|WS fun _ hK54=>?_
 have hlk:(aJ r).lookup ((q:Nat):Int)=dz r.aD r.ay q r.ay.length:=vk om
 refine rP 2 [] mn ?_
 refine rS (SX (iY (kV:=iV) (x:=((q:Nat):Int)) (l:=(aJ r)) (f:=dF) (z:=(aa.mk 0 0)) rfl rfl rfl nJ (eK oZ) xz (by exact mg 3 rfl)) rfl rfl)<|rP 3 [] mn ?_
 refine AL rfl cV fun b55=>f_ rfl bY rfl<|rP 1 [] mn ?_
 refine RK hK54<|ai fun _ hK56=>WS fun _ hK57=>rP 3 [] mn ?_
 refine c8 (t:=102) rfl (fun h102=>?_) (fun h102=>?_)
 ·rw [Bool.not_eq_true'] at h102
  refine rP 4 [] mn ?_
  refine RK hK57<|aI rfl<|bp<|ae<|au<|KK hK53<|ak<|rP 3 [] mn ?_
  refine aB ?_
  have hb58:(vI (((q+1):Nat):Int))=(vI (((q:Nat):Int)+1)):=by exact cI om
  refine aN (hJ49 ⟨((q+1),s,t),(by refine ⟨om,?_,?_⟩<;>dsimp only <;>first|(have e:=mN (a:=i) (x:=y) (hlk.symm.trans (Option.not_isSome_iff_eq_none.1 (by rw [h102]; decide))); omega)|(have e:=mm (r:=r) (x:=y) h106; omega)|(have e:=hH (x:=y) hs1 h106; rw [if_pos h113] at e; first|omega|(rw [if_pos h122] at e; omega)|(rw [if_neg h122] at e; omega))|(have e:=hH (x:=y) hs1 h106; rw [if_neg h113] at e; first|omega|(rw [if_pos h122] at e; omega)|(rw [if_neg h122] at e; omega)))⟩ _ _ _ rfl os (cv 8<|aY rfl hb58<|dK.nil _) (aG [1,2,3,4]))
 rw [Bool.not_eq_false'] at h102
 refine rP 4 [] mn ?_
 refine RK hK57 ?_
 refine cP rfl (aP fun h106=>?_) (aQ fun h106=>?_)
 ·refine bp ?_
  refine ae<|au<|KK hK53<|ak<|rP 3 [] mn ?_
  refine aB ?_
  have hb59:(vI (((q+1):Nat):Int))=(vI (((q:Nat):Int)+1)):=by exact cI om
  refine aN (hJ49 ⟨((q+1),s,t),(by refine ⟨om,?_,?_⟩<;>dsimp only <;>first|(have e:=mN (a:=i) (x:=y) (hlk.symm.trans (Option.not_isSome_iff_eq_none.1 (by rw [h102]; decide))); omega)|(have e:=mm (r:=r) (x:=y) h106; omega)|(have e:=hH (x:=y) hs1 h106; rw [if_pos h113] at e; first|omega|(rw [if_pos h122] at e; omega)|(rw [if_neg h122] at e; omega))|(have e:=hH (x:=y) hs1 h106; rw [if_neg h113] at e; first|omega|(rw [if_pos h122] at e; omega)|(rw [if_neg h122] at e; omega)))⟩ _ _ _ rfl os (cv 8<|aY rfl hb59<|dK.nil _) (aG [1,2,3,4]))
 refine WK hK56<|ai fun _ hK60=>ai fun _ hK61=>dC cD 7 kr ?_
 obtain ⟨s0,hs0⟩:=Option.isSome_iff_exists.1 h102
 have hs1:=hlk.symm.trans hs0
 have hs2:=lI (i:=((q:Nat):Int)) hb
 rw [show aC (aJ r) ((q:Nat):Int)=s0 from by unfold aC; rw [hs0]; rfl] at hs2
 rw [show ((List.lookup ((q:Nat):Int) (aJ r)).getD (aa.mk 0 0))=s0 from by rw [hs0]; rfl]
 refine dP 4 [] (mc 0 rfl mn) ?_
 refine dS (IA x rfl (aK (n:=ys.length) 2 rfl sm) dB dc om om)<|dS (gU x 0 (vI y) rfl bJ (aK (n:=ys.length) 2 rfl sm) hym rfl dc rfl)<|dP 1 [] mn ?_
 refine cO<|RK hK61 ?_
 refine bM rfl (aQ fun h113=>?_) (aP fun h113=>?_)
 ·refine WK hK60 ?_
  refine ai fun _ hK65=>dC cD 7 kr<|dP 4 [] (mc 0 rfl mn) ?_
  refine dS (IA x rfl (aK (n:=ys.length) 2 rfl sm) dB dc om om)<|dS (gU x 0 (vI y) rfl bJ (aK (n:=ys.length) 2 rfl sm) hym rfl dc rfl)<|dP 1 [] mn ?_
  refine cO<|RK hK65 ?_
  refine bM rfl (aQ fun h122=>?_) (aP fun h122=>?_)
  ·refine bZ ?_
   refine ax<|KK hK53<|ak<|rP 3 [] mn ?_
   refine aB ?_
   have hb67:(vI (((q+1):Nat):Int))=(vI (((q:Nat):Int)+1)):=by exact cI om
   refine aN (hJ49 ⟨((q+1),s,t),(by refine ⟨om,?_,?_⟩<;>dsimp only <;>first|(have e:=mN (a:=i) (x:=y) (hlk.symm.trans (Option.not_isSome_iff_eq_none.1 (by rw [h102]; decide))); omega)|(have e:=mm (r:=r) (x:=y) h106; omega)|(have e:=hH (x:=y) hs1 h106; rw [if_pos h113] at e; first|omega|(rw [if_pos h122] at e; omega)|(rw [if_neg h122] at e; omega))|(have e:=hH (x:=y) hs1 h106; rw [if_neg h113] at e; first|omega|(rw [if_pos h122] at e; omega)|(rw [if_neg h122] at e; omega)))⟩ _ _ _ rfl os (cv 8<|aY rfl hb67<|dK.nil _) (aG [1,2,3,4]))
  refine ak<|rP 3 [] mn ?_
  refine aB<|ax<|KK hK53<|ak<|rP 3 [] mn ?_
  refine aB ?_
  have hb66:(vI (((q+1):Nat):Int))=(vI (((q:Nat):Int)+1)):=by exact cI om
  refine aN (hJ49 ⟨((q+1),s,(t+1)),(by refine ⟨om,?_,?_⟩<;>dsimp only <;>first|(have e:=mN (a:=i) (x:=y) (hlk.symm.trans (Option.not_isSome_iff_eq_none.1 (by rw [h102]; decide))); omega)|(have e:=mm (r:=r) (x:=y) h106; omega)|(have e:=hH (x:=y) hs1 h106; rw [if_pos h113] at e; first|omega|(rw [if_pos h122] at e; omega)|(rw [if_neg h122] at e; omega))|(have e:=hH (x:=y) hs1 h106; rw [if_neg h113] at e; first|omega|(rw [if_pos h122] at e; omega)|(rw [if_neg h122] at e; omega)))⟩ _ _ _ rfl os (cv 8<|aY rfl hb66<|dK.nil _) (aG [1,2,3,4]))
 refine ak<|rP 3 [] mn ?_
 refine RK hK60<|ai fun _ hK62=>dC cD 7 kr<|dP 4 [] (mc 0 rfl mn) ?_
 refine dS (IA x rfl (aK (n:=ys.length) 2 rfl sm) dB dc om om)<|dS (gU x 0 (vI y) rfl bJ (aK (n:=ys.length) 2 rfl sm) hym rfl dc rfl)<|dP 1 [] mn ?_
 refine cO<|RK hK62 ?_
 refine bM rfl (aQ fun h122=>?_) (aP fun h122=>?_)
 ·refine bZ ?_
  refine ax<|KK hK53<|ak<|rP 3 [] mn ?_
  refine aB ?_
  have hb64:(vI (((q+1):Nat):Int))=(vI (((q:Nat):Int)+1)):=by exact cI om
  refine aN (hJ49 ⟨((q+1),(s+1),t),(by refine ⟨om,?_,?_⟩<;>dsimp only <;>first|(have e:=mN (a:=i) (x:=y) (hlk.symm.trans (Option.not_isSome_iff_eq_none.1 (by rw [h102]; decide))); omega)|(have e:=mm (r:=r) (x:=y) h106; omega)|(have e:=hH (x:=y) hs1 h106; rw [if_pos h113] at e; first|omega|(rw [if_pos h122] at e; omega)|(rw [if_neg h122] at e; omega))|(have e:=hH (x:=y) hs1 h106; rw [if_neg h113] at e; first|omega|(rw [if_pos h122] at e; omega)|(rw [if_neg h122] at e; omega)))⟩ _ _ _ rfl os (cv 8<|aY rfl hb64<|dK.nil _) (aG [1,2,3,4]))
 refine ak<|rP 3 [] mn ?_
 refine aB<|ax<|KK hK53<|ak<|rP 3 [] mn ?_
 refine aB ?_
 have hb63:(vI (((q+1):Nat):Int))=(vI (((q:Nat):Int)+1)):=by exact cI om
 refine aN (hJ49 ⟨((q+1),(s+1),(t+1)),(by refine ⟨om,?_,?_⟩<;>dsimp only <;>first|(have e:=mN (a:=i) (x:=y) (hlk.symm.trans (Option.not_isSome_iff_eq_none.1 (by rw [h102]; decide))); omega)|(have e:=mm (r:=r) (x:=y) h106; omega)|(have e:=hH (x:=y) hs1 h106; rw [if_pos h113] at e; first|omega|(rw [if_pos h122] at e; omega)|(rw [if_neg h122] at e; omega))|(have e:=hH (x:=y) hs1 h106; rw [if_neg h113] at e; first|omega|(rw [if_pos h122] at e; omega)|(rw [if_neg h122] at e; omega)))⟩ _ _ _ rfl os (cv 8<|aY rfl hb63<|dK.nil _) (aG [1,2,3,4]))
end
section
open Go.RowKit
theorem EB (r:dg) (kA:OA) (kC:Nat) (az:List RA) (cA:OA) (cC:Nat) (bA:OA) (bC:Nat) (slA:OA) (slC:Nat) (drA:OA) (drC:Nat) (ha:List gZ) (heA:OA) (heC:Nat) (i:Int) (hin:iT r az ha):
 oY Tryz.prog 8 [(vA (eT.cells (kx r kA kC cA cC bA bC slA slC drA drC heA heC))),(vI i)] [(rd kA r.aD.aH.length 9 (r.aD.aH.map ah.cells)),(rd cA r.aD.aj.length 2 (List.zipWith al.cells r.aD.aj az)),(du (aU al.fK r.aD.aj az)),(rd bA r.aD.ab.length 4 (r.aD.ab.map bx.cells)),(rd slA r.aF.length 1 (r.aF.map iC)),(rd drA r.cG.length 1 (r.cG.map iC)),(rd heA r.ay.length 1 (List.zipWith eO r.ay ha)),(du (aU gf r.ay ha))] (fun (x:(OA)×Nat)=>(vT [(vS x.1 ((iJ r i).length) x.2),(vI (nt r i))])) (fun (x:(OA)×Nat)=>True) (fun (x:(OA)×Nat)=>[(own x.1 x.2 3 1 ((iJ r i).map iC))]):=by
 have hline:=hin.line
 have hhl:=hin.jZ
 have hhs:=hin.has
 have hsll:=hin.j6
 have hdrl:=hin.draw
 have htal:=eA (r:=r)
 refine ff kr Tryz.func8 rfl rfl fun w0 Q hQ hN=>?_
 try dsimp only
 refine WS fun _ hK1=>fP rfl fun b2=>rP 2 [] mn ?_
 refine RK hK1<|WS fun _ hK3=>rP 1 [] (mc 0 rfl mn) ?_
 refine cX (wZ r kA kC az cA cC bA bC slA slC drA drC ha heA heC hin) (bh [1,2,3,4,5,6,7,8]) rfl fun y4 hy5=>?_
 obtain ⟨ok10,ec6,tA7,tC8,tz9⟩:=y4
 cases ok10
 ·obtain ⟨hec,he⟩:=hy5.2 rfl
  try dsimp only at hec he
  subst hec
  try dsimp only [cond_true,cond_false,List.cons_append,List.nil_append]
  refine rP 5 [] mn ?_
  refine RK hK3<|ai fun _ hK11=>WS fun _ hK12=>rP 2 [] mn ?_
  refine RK hK12 ?_
  refine bM rfl (bj fun h17=>?_) (bk fun h17=>?_)
  ·exact absurd h17 he
  refine ai fun _ hK13=>?_
  have hse:=rm (i:=i) he
  have hse2: ¬ nt r i=0:=fun q=>he (hse.symm.trans q)
  refine fI 3 1 ?_
  rw [show (own none 0 3 1 ([]:List (List Value)))=own none 0 3 1 ((iJ r i).map iC) from by rw [jl hse2]; rfl]
  refine ak<|rP 1 [] mn ?_
  refine rP 2 [] mn ?_
  refine RK hK13<|an ?_
  refine hQ _ _ _ (aZ (vs:=[(vS none 0 0),(vI (fV r))]) ⟨rfl,rfl,trivial⟩ fun w hs=>ej (none,0) [0] ?_ ?_ rfl rfl rfl hs)
  ·first|rfl|(rw [hse]; rfl)|(rw [jl hse2,hse]; rfl)
  ·trivial
 obtain ⟨he,htz⟩:=hy5.1 rfl
 try dsimp only [cond_true,cond_false,List.cons_append,List.nil_append]
 try dsimp only at htz
 have hok0:=(mE he).2
 have hsb0:=u_ he
 have hsl0:=vn he
 have hnm:=hok0.num
 refine rP 5 [] mn ?_
 refine RK hK3<|ai fun _ hK14=>WS fun _ hK15=>rP 1 [] mn ?_
 refine rS (SX (cb (r:= .bool false) rfl rfl rfl qj) rfl rfl)<|RK hK15<|aW rfl<|WK hK14<|ai fun _ hK16=>WS fun _ hK17=>rP 2 [] (mc 2 rfl mn) ?_
 refine rS (CL (xT r kA kC az cA cC bA bC slA slC drA drC ha heA heC i hin) (bh [3,4,5,6,7,8,9,10]) rfl)<|rP 1 [] mn ?_
 refine RK hK17 ?_
 refine cP rfl (bk fun h22=>?_) (bj fun h22=>?_)
 ·refine ai fun _ hK18=>?_
  have hse:=rV (i:=i) he h22
  have hse2: ¬ nt r i=0:=fun q=>by rw [hse] at q; cases q
  refine fI 3 1 ?_
  rw [show (own none 0 3 1 ([]:List (List Value)))=own none 0 3 1 ((iJ r i).map iC) from by rw [jl hse2]; rfl]
  refine ak<|rP 2 [] mn ?_
  refine RK hK18<|an ?_
  refine hQ _ _ _ (aZ (vs:=[(vS none 0 0),(vI 2)]) ⟨rfl,rfl,trivial⟩ fun w hs=>ej (none,0) [0] ?_ ?_ rfl rfl rfl hs)
  ·first|rfl|(rw [hse]; rfl)|(rw [jl hse2,hse]; rfl)
  ·trivial
 refine WK hK16<|WS fun _ hK19=>rP 2 [] (mc 2 rfl mn) ?_
 refine cX (Kb r kA kC az cA cC bA bC slA slC drA drC ha heA heC tz9 tA7 tC8 hin sd (by exact hok0.qO)) (cw 3 rfl rfl<|cw 4 rfl rfl<|cw 5 rfl rfl<|cw 6 rfl rfl<|cw 7 rfl rfl<|cw 8 rfl rfl<|cw 9 rfl rfl<|cw 10 rfl rfl<|bq (aK (n:=(bX r).length) 0 rfl (p7 (by rw [htal]; exact htz)))<|bq (j7 1 rfl xg)<|aT) rfl fun gs22 hy21=>?_
 try dsimp only
 refine rP 1 [] mn ?_
 refine RK hK19<|ai fun _ hK23=>WS fun _ hK24=>rP 2 [] mn ?_
 refine rS (SX (iY (kV:=iV) (x:=i) (l:=(aJ r)) (f:=dF) (z:=(aa.mk 0 0)) rfl rfl rfl nJ (eK oZ) xz (by exact aA 0 rfl)) rfl rfl)<|rP 3 [] mn ?_
 refine AL rfl cV fun b25=>f_ rfl bY rfl<|rP 1 [] mn ?_
 refine RK hK24<|WS fun _ hK26=>rP 2 [] mn ?_
 refine RK hK26 ?_
 refine cP rfl (fun h33=>?_) (fun h33=>?_)
 ·rw [Bool.not_eq_true'] at h33
  refine ai fun _ hK27=>?_
  have hse:=pU (i:=i) he h22 h33
  have hse2: ¬ nt r i=0:=fun q=>by rw [hse] at q; cases q
  refine fI 3 1 ?_
  rw [show (own none 0 3 1 ([]:List (List Value)))=own none 0 3 1 ((iJ r i).map iC) from by rw [jl hse2]; rfl]
  refine ak<|rP 2 [] mn ?_
  refine RK hK27<|an ?_
  refine hQ _ _ _ (aZ (vs:=[(vS none 0 0),(vI 6)]) ⟨rfl,rfl,trivial⟩ fun w hs=>ej (none,0) [0] ?_ ?_ rfl rfl rfl hs)
  ·first|rfl|(rw [hse]; rfl)|(rw [jl hse2,hse]; rfl)
  ·trivial
 rw [Bool.not_eq_false'] at h33
 refine WK hK23<|WS fun _ hK28=>?_
 have hse:=Cz (i:=i) he h22 h33
 refine rP 3 [] (mc 4 rfl mn) ?_
 refine cX (Gn r kA kC cA cC bA bC slA slC drA drC heA heC gs22 i (by exact hsb0) (by exact pV h33) om) (bh [1]) rfl fun y29 hy30=>?_
 obtain ⟨a31,c32⟩:=y29
 try dsimp only
 rw [show (iI (aJ r) i (aC (aJ r) i))=iJ r i from (xh hse).symm]
 refine rP 2 [] mn ?_
 refine RK hK28<|an ?_
 refine hQ _ _ _ (aZ (vs:=[(vS a31 ((iJ r i).length) c32),(vI 0)]) ⟨rfl,rfl,trivial⟩ fun w hs=>ej (a31,c32) [0] ?_ ?_ rfl rfl rfl hs)
 ·first|rfl|(rw [hse]; rfl)|(rw [jl hse2,hse]; rfl)
 ·trivial
theorem Es (r:dg) (kA:OA) (kC:Nat) (az:List RA) (cA:OA) (cC:Nat) (bA:OA) (bC:Nat) (slA:OA) (slC:Nat) (drA:OA) (drC:Nat) (ha:List gZ) (heA:OA) (heC:Nat) (a b:Int) (hin:iT r az ha):
 eu Tryz.prog 39 [(vA (eT.cells (kx r kA kC cA cC bA bC slA slC drA drC heA heC))),(vI a),(vI b)] [(rd kA r.aD.aH.length 9 (r.aD.aH.map ah.cells)),(rd cA r.aD.aj.length 2 (List.zipWith al.cells r.aD.aj az)),(du (aU al.fK r.aD.aj az)),(rd bA r.aD.ab.length 4 (r.aD.ab.map bx.cells)),(rd slA r.aF.length 1 (r.aF.map iC)),(rd drA r.cG.length 1 (r.cG.map iC)),(rd heA r.ay.length 1 (List.zipWith eO r.ay ha)),(du (aU gf r.ay ha))] (vT [(vA (aa.cells (gJ r a b a))),(vA (aa.cells (gJ r a b b))),(vI (ku r a b))]):=by
 have hline:=hin.line
 have hhl:=hin.jZ
 have hhs:=hin.has
 have hsll:=hin.j6
 have hdrl:=hin.draw
 have htal:=eA (r:=r)
 refine bu kr Tryz.func39 rfl rfl fun w0 Q hQ hN=>?_
 try dsimp only
 refine WS fun _ hK1=>fP rfl fun b2=>AL rfl cV fun b3=>AL rfl cV fun b4=>rP 1 [] mn ?_
 refine RK hK1<|WS fun _ hK5=>rP 1 [] (mc 2 rfl mn) ?_
 refine cX (wZ r kA kC az cA cC bA bC slA slC drA drC ha heA heC hin) (bh [3,4,5,6,7,8,9,10]) rfl fun y6 hy7=>?_
 obtain ⟨ok12,ec8,tA9,tC10,tz11⟩:=y6
 cases ok12
 ·obtain ⟨hec,he⟩:=hy7.2 rfl
  try dsimp only at hec he
  subst hec
  try dsimp only [cond_true,cond_false,List.cons_append,List.nil_append]
  refine rP 5 [] mn ?_
  refine RK hK5<|ai fun _ hK13=>WS fun _ hK14=>rP 2 [] mn ?_
  refine RK hK14 ?_
  refine bM rfl (bj fun h21=>?_) (bk fun h21=>?_)
  ·exact absurd h21 he
  refine WS fun _ hK15=>rS (SX (bg (xs:=[]) (cs:=(aa.cells (aa.mk 0 0))) rfl rfl (bf fg rfl)) rfl rfl)<|rS (SX (bg (xs:=[]) (cs:=(aa.cells (aa.mk 0 0))) rfl rfl (bf fg rfl)) rfl rfl)<|rP 1 [] mn ?_
  refine oV rfl bY rfl<|f_ rfl bY rfl<|rP 1 [] mn ?_
  refine RK hK15<|an ?_
  refine hQ _ _ _ (aZ (vs:=[(vA (aa.cells (aa.mk 0 0))),(vA (aa.cells (aa.mk 0 0))),(vI (fV r))]) ⟨⟨_,rfl,.inl ⟨_,_,bJ,bQ (vs:=(aa.cells (aa.mk 0 0))) 1 rfl rfl,rfl,rfl⟩⟩,⟨_,rfl,.inl ⟨_,_,bJ,bQ (vs:=(aa.cells (aa.mk 0 0))) 0 rfl rfl,rfl,rfl⟩⟩,rfl,trivial⟩ fun w hs=>eM ?_ hs)
  show (vT [(vA (aa.cells (aa.mk 0 0))),(vA (aa.cells (aa.mk 0 0))),(vI (fV r))])=(vT [(vA (aa.cells (gJ r a b a))),(vA (aa.cells (gJ r a b b))),(vI (ku r a b))])
  clear hs w hQ hN hK15 hK14 hK13 hK5 hK1
  first|(have e:=jh (a:=a) (b:=b) he; have e2: ∀ x,gJ r a b x=cK:=fun x=>if_neg (fun q=>by rw [e] at q; exact he q); rw [e,e2,e2]; first|done|rfl)|(have e:=je (a:=a) (b:=b) he om; have e2: ∀ x,gJ r a b x=cK:=fun x=>if_neg (fun q=>by rw [e] at q; cases q); rw [e,e2,e2]; first|done|rfl)|(have e:=hO (a:=a) (b:=b) he om (by first|exact .inl (by rw [dk om]; assumption)|exact .inr (by rw [dk om]; assumption)); have e2: ∀ x,gJ r a b x=cK:=fun x=>if_neg (fun q=>by rw [e] at q; cases q); rw [e,e2,e2]; first|done|rfl)|(have e:=nc (a:=a) (b:=b) he om (by rw [dk om]; assumption) (by rw [dk om]; assumption); have e2: ∀ x,gJ r a b x=aC (aJ r) x:=fun x=>if_pos e; rw [e,e2,e2,← ia (a:=a) om,← ia (a:=b) om]; first|done|rfl)
 obtain ⟨he,htz⟩:=hy7.1 rfl
 try dsimp only [cond_true,cond_false,List.cons_append,List.nil_append]
 try dsimp only at htz
 have hok0:=(mE he).2
 have hsb0:=u_ he
 have hsl0:=vn he
 have hnm:=hok0.num
 refine rP 5 [] mn ?_
 refine RK hK5<|ai fun _ hK16=>WS fun _ hK17=>rP 1 [] mn ?_
 refine rS (SX (cb (r:= .bool false) rfl rfl rfl qj) rfl rfl)<|RK hK17<|aW rfl<|WK hK16<|ai fun _ hK18=>WS fun _ hK19=>rP 2 [] (mc 4 rfl mn) ?_
 refine rS (CL (xT r kA kC az cA cC bA bC slA slC drA drC ha heA heC a hin) (bh [5,6,7,8,9,10,11,12]) rfl)<|rP 2 [] mn ?_
 refine c8 (t:=29) rfl (bk fun h29=>?_) (bj fun h29=>?_)
 ·refine rP 10 [] mn ?_
  refine RK hK19<|aI rfl<|WS fun _ hK20=>rS (SX (bg (xs:=[]) (cs:=(aa.cells (aa.mk 0 0))) rfl rfl (bf fg rfl)) rfl rfl)<|rS (SX (bg (xs:=[]) (cs:=(aa.cells (aa.mk 0 0))) rfl rfl (bf fg rfl)) rfl rfl)<|GZ rfl bY rfl<|wb rfl bY rfl<|rP 1 [] mn ?_
  refine RK hK20<|an ?_
  refine hQ _ _ _ (aZ (vs:=[(vA (aa.cells (aa.mk 0 0))),(vA (aa.cells (aa.mk 0 0))),(vI 2)]) ⟨⟨_,rfl,.inl ⟨_,_,bJ,bQ (vs:=(aa.cells (aa.mk 0 0))) 3 rfl rfl,rfl,rfl⟩⟩,⟨_,rfl,.inl ⟨_,_,bJ,bQ (vs:=(aa.cells (aa.mk 0 0))) 2 rfl rfl,rfl,rfl⟩⟩,rfl,trivial⟩ fun w hs=>eM ?_ hs)
  show (vT [(vA (aa.cells (aa.mk 0 0))),(vA (aa.cells (aa.mk 0 0))),(vI 2)])=(vT [(vA (aa.cells (gJ r a b a))),(vA (aa.cells (gJ r a b b))),(vI (ku r a b))])
  clear hs w hQ hN hK20 hK19 hK18 hK17 hK16 hK5 hK1
  first|(have e:=jh (a:=a) (b:=b) he; have e2: ∀ x,gJ r a b x=cK:=fun x=>if_neg (fun q=>by rw [e] at q; exact he q); rw [e,e2,e2]; first|done|rfl)|(have e:=je (a:=a) (b:=b) he om; have e2: ∀ x,gJ r a b x=cK:=fun x=>if_neg (fun q=>by rw [e] at q; cases q); rw [e,e2,e2]; first|done|rfl)|(have e:=hO (a:=a) (b:=b) he om (by first|exact .inl (by rw [dk om]; assumption)|exact .inr (by rw [dk om]; assumption)); have e2: ∀ x,gJ r a b x=cK:=fun x=>if_neg (fun q=>by rw [e] at q; cases q); rw [e,e2,e2]; first|done|rfl)|(have e:=nc (a:=a) (b:=b) he om (by rw [dk om]; assumption) (by rw [dk om]; assumption); have e2: ∀ x,gJ r a b x=aC (aJ r) x:=fun x=>if_pos e; rw [e,e2,e2,← ia (a:=a) om,← ia (a:=b) om]; first|done|rfl)
 refine rP 2 [] (mc 4 rfl mn) ?_
 refine rS (CL (xT r kA kC az cA cC bA bC slA slC drA drC ha heA heC b hin) (bh [5,6,7,8,9,10,11,12]) rfl)<|rP 3 [] mn ?_
 refine c8 (t:=35) rfl (bk fun h35=>?_) (bj fun h35=>?_)
 ·refine rP 4 [] mn ?_
  refine RK hK19<|aI rfl<|WS fun _ hK21=>rS (SX (bg (xs:=[]) (cs:=(aa.cells (aa.mk 0 0))) rfl rfl (bf fg rfl)) rfl rfl)<|rS (SX (bg (xs:=[]) (cs:=(aa.cells (aa.mk 0 0))) rfl rfl (bf fg rfl)) rfl rfl)<|GZ rfl bY rfl<|wb rfl bY rfl<|rP 1 [] mn ?_
  refine RK hK21<|an ?_
  refine hQ _ _ _ (aZ (vs:=[(vA (aa.cells (aa.mk 0 0))),(vA (aa.cells (aa.mk 0 0))),(vI 2)]) ⟨⟨_,rfl,.inl ⟨_,_,bJ,bQ (vs:=(aa.cells (aa.mk 0 0))) 3 rfl rfl,rfl,rfl⟩⟩,⟨_,rfl,.inl ⟨_,_,bJ,bQ (vs:=(aa.cells (aa.mk 0 0))) 2 rfl rfl,rfl,rfl⟩⟩,rfl,trivial⟩ fun w hs=>eM ?_ hs)
  show (vT [(vA (aa.cells (aa.mk 0 0))),(vA (aa.cells (aa.mk 0 0))),(vI 2)])=(vT [(vA (aa.cells (gJ r a b a))),(vA (aa.cells (gJ r a b b))),(vI (ku r a b))])
  clear hs w hQ hN hK21 hK19 hK18 hK17 hK16 hK5 hK1
  first|(have e:=jh (a:=a) (b:=b) he; have e2: ∀ x,gJ r a b x=cK:=fun x=>if_neg (fun q=>by rw [e] at q; exact he q); rw [e,e2,e2]; first|done|rfl)|(have e:=je (a:=a) (b:=b) he om; have e2: ∀ x,gJ r a b x=cK:=fun x=>if_neg (fun q=>by rw [e] at q; cases q); rw [e,e2,e2]; first|done|rfl)|(have e:=hO (a:=a) (b:=b) he om (by first|exact .inl (by rw [dk om]; assumption)|exact .inr (by rw [dk om]; assumption)); have e2: ∀ x,gJ r a b x=cK:=fun x=>if_neg (fun q=>by rw [e] at q; cases q); rw [e,e2,e2]; first|done|rfl)|(have e:=nc (a:=a) (b:=b) he om (by rw [dk om]; assumption) (by rw [dk om]; assumption); have e2: ∀ x,gJ r a b x=aC (aJ r) x:=fun x=>if_pos e; rw [e,e2,e2,← ia (a:=a) om,← ia (a:=b) om]; first|done|rfl)
 refine rP 4 [] mn ?_
 refine RK hK19 ?_
 refine cP rfl (aP fun h39=>?_) (aQ fun h39=>?_)
 ·refine WS fun _ hK22=>?_
  refine rS (SX (bg (xs:=[]) (cs:=(aa.cells (aa.mk 0 0))) rfl rfl (bf fg rfl)) rfl rfl)<|rS (SX (bg (xs:=[]) (cs:=(aa.cells (aa.mk 0 0))) rfl rfl (bf fg rfl)) rfl rfl)<|GZ rfl bY rfl<|wb rfl bY rfl<|rP 1 [] mn ?_
  refine RK hK22<|an ?_
  refine hQ _ _ _ (aZ (vs:=[(vA (aa.cells (aa.mk 0 0))),(vA (aa.cells (aa.mk 0 0))),(vI 2)]) ⟨⟨_,rfl,.inl ⟨_,_,bJ,bQ (vs:=(aa.cells (aa.mk 0 0))) 3 rfl rfl,rfl,rfl⟩⟩,⟨_,rfl,.inl ⟨_,_,bJ,bQ (vs:=(aa.cells (aa.mk 0 0))) 2 rfl rfl,rfl,rfl⟩⟩,rfl,trivial⟩ fun w hs=>eM ?_ hs)
  show (vT [(vA (aa.cells (aa.mk 0 0))),(vA (aa.cells (aa.mk 0 0))),(vI 2)])=(vT [(vA (aa.cells (gJ r a b a))),(vA (aa.cells (gJ r a b b))),(vI (ku r a b))])
  clear hs w hQ hN hK22 hK19 hK18 hK17 hK16 hK5 hK1
  first|(have e:=jh (a:=a) (b:=b) he; have e2: ∀ x,gJ r a b x=cK:=fun x=>if_neg (fun q=>by rw [e] at q; exact he q); rw [e,e2,e2]; first|done|rfl)|(have e:=je (a:=a) (b:=b) he om; have e2: ∀ x,gJ r a b x=cK:=fun x=>if_neg (fun q=>by rw [e] at q; cases q); rw [e,e2,e2]; first|done|rfl)|(have e:=hO (a:=a) (b:=b) he om (by first|exact .inl (by rw [dk om]; assumption)|exact .inr (by rw [dk om]; assumption)); have e2: ∀ x,gJ r a b x=cK:=fun x=>if_neg (fun q=>by rw [e] at q; cases q); rw [e,e2,e2]; first|done|rfl)|(have e:=nc (a:=a) (b:=b) he om (by rw [dk om]; assumption) (by rw [dk om]; assumption); have e2: ∀ x,gJ r a b x=aC (aJ r) x:=fun x=>if_pos e; rw [e,e2,e2,← ia (a:=a) om,← ia (a:=b) om]; first|done|rfl)
 refine WK hK18<|WS fun _ hK23=>rP 6 [] (mc 4 rfl mn) ?_
 refine rS (CL (Bh r kA kC az cA cC bA bC slA slC drA drC ha heA heC tz11 tA9 tC10 ((r.ay.length:Nat):Int) a hin sd sd om (by exact hok0.qO)) (cw 5 rfl rfl<|cw 6 rfl rfl<|cw 7 rfl rfl<|cw 8 rfl rfl<|cw 9 rfl rfl<|cw 10 rfl rfl<|cw 11 rfl rfl<|cw 12 rfl rfl<|bq (aK (n:=(bX r).length) 0 rfl (p7 (by rw [htal]; exact htz)))<|bq (j7 1 rfl xg)<|aT) rfl)<|rP 3 [] mn ?_
 refine AL rfl cV fun b24=>f_ rfl bY rfl<|rP 1 [] mn ?_
 refine RK hK23<|WS fun _ hK25=>rP 6 [] (mc 5 rfl mn) ?_
 refine rS (CL (Bh r kA kC az cA cC bA bC slA slC drA drC ha heA heC tz11 tA9 tC10 ((r.ay.length:Nat):Int) b hin sd sd om (by exact hok0.qO)) (cw 6 rfl rfl<|cw 7 rfl rfl<|cw 8 rfl rfl<|cw 9 rfl rfl<|cw 10 rfl rfl<|cw 11 rfl rfl<|cw 12 rfl rfl<|cw 13 rfl rfl<|bq (aK (n:=(bX r).length) 1 rfl (p7 (by rw [htal]; exact htz)))<|bq (j7 2 rfl xg)<|aT) rfl)<|rP 3 [] mn ?_
 refine AL rfl cV fun b26=>f_ rfl bY rfl<|rP 1 [] mn ?_
 refine RK hK25<|ai fun _ hK27=>WS fun _ hK28=>rP 3 [] mn ?_
 refine c8 (t:=64) rfl (fun h64=>?_) (fun h64=>?_)
 ·rw [Bool.not_eq_true'] at h64
  refine rP 3 [] mn ?_
  refine RK hK28<|aI rfl<|WS fun _ hK29=>rS (SX (bg (xs:=[]) (cs:=(aa.cells (aa.mk 0 0))) rfl rfl (bf fg rfl)) rfl rfl)<|rS (SX (bg (xs:=[]) (cs:=(aa.cells (aa.mk 0 0))) rfl rfl (bf fg rfl)) rfl rfl)<|Jp rfl bY rfl<|Kw rfl bY rfl<|rP 1 [] mn ?_
  refine RK hK29<|an ?_
  refine hQ _ _ _ (aZ (vs:=[(vA (aa.cells (aa.mk 0 0))),(vA (aa.cells (aa.mk 0 0))),(vI 6)]) ⟨⟨_,rfl,.inl ⟨_,_,bJ,bQ (vs:=(aa.cells (aa.mk 0 0))) 5 rfl rfl,rfl,rfl⟩⟩,⟨_,rfl,.inl ⟨_,_,bJ,bQ (vs:=(aa.cells (aa.mk 0 0))) 4 rfl rfl,rfl,rfl⟩⟩,rfl,trivial⟩ fun w hs=>eM ?_ hs)
  show (vT [(vA (aa.cells (aa.mk 0 0))),(vA (aa.cells (aa.mk 0 0))),(vI 6)])=(vT [(vA (aa.cells (gJ r a b a))),(vA (aa.cells (gJ r a b b))),(vI (ku r a b))])
  clear hs w hQ hN hK29 hK28 hK27 hK25 hK23 hK19 hK18 hK17 hK16 hK5 hK1
  first|(have e:=jh (a:=a) (b:=b) he; have e2: ∀ x,gJ r a b x=cK:=fun x=>if_neg (fun q=>by rw [e] at q; exact he q); rw [e,e2,e2]; first|done|rfl)|(have e:=je (a:=a) (b:=b) he om; have e2: ∀ x,gJ r a b x=cK:=fun x=>if_neg (fun q=>by rw [e] at q; cases q); rw [e,e2,e2]; first|done|rfl)|(have e:=hO (a:=a) (b:=b) he om (by first|exact .inl (by rw [dk om]; assumption)|exact .inr (by rw [dk om]; assumption)); have e2: ∀ x,gJ r a b x=cK:=fun x=>if_neg (fun q=>by rw [e] at q; cases q); rw [e,e2,e2]; first|done|rfl)|(have e:=nc (a:=a) (b:=b) he om (by rw [dk om]; assumption) (by rw [dk om]; assumption); have e2: ∀ x,gJ r a b x=aC (aJ r) x:=fun x=>if_pos e; rw [e,e2,e2,← ia (a:=a) om,← ia (a:=b) om]; first|done|rfl)
 rw [Bool.not_eq_false'] at h64
 refine rP 3 [] mn ?_
 refine RK hK28 ?_
 refine cP rfl (fun h67=>?_) (fun h67=>?_)
 ·rw [Bool.not_eq_true'] at h67
  refine WS fun _ hK30=>rS (SX (bg (xs:=[]) (cs:=(aa.cells (aa.mk 0 0))) rfl rfl (bf fg rfl)) rfl rfl)<|rS (SX (bg (xs:=[]) (cs:=(aa.cells (aa.mk 0 0))) rfl rfl (bf fg rfl)) rfl rfl)<|Jp rfl bY rfl<|Kw rfl bY rfl<|rP 1 [] mn ?_
  refine RK hK30<|an ?_
  refine hQ _ _ _ (aZ (vs:=[(vA (aa.cells (aa.mk 0 0))),(vA (aa.cells (aa.mk 0 0))),(vI 6)]) ⟨⟨_,rfl,.inl ⟨_,_,bJ,bQ (vs:=(aa.cells (aa.mk 0 0))) 5 rfl rfl,rfl,rfl⟩⟩,⟨_,rfl,.inl ⟨_,_,bJ,bQ (vs:=(aa.cells (aa.mk 0 0))) 4 rfl rfl,rfl,rfl⟩⟩,rfl,trivial⟩ fun w hs=>eM ?_ hs)
  show (vT [(vA (aa.cells (aa.mk 0 0))),(vA (aa.cells (aa.mk 0 0))),(vI 6)])=(vT [(vA (aa.cells (gJ r a b a))),(vA (aa.cells (gJ r a b b))),(vI (ku r a b))])
  clear hs w hQ hN hK30 hK28 hK27 hK25 hK23 hK19 hK18 hK17 hK16 hK5 hK1
  first|(have e:=jh (a:=a) (b:=b) he; have e2: ∀ x,gJ r a b x=cK:=fun x=>if_neg (fun q=>by rw [e] at q; exact he q); rw [e,e2,e2]; first|done|rfl)|(have e:=je (a:=a) (b:=b) he om; have e2: ∀ x,gJ r a b x=cK:=fun x=>if_neg (fun q=>by rw [e] at q; cases q); rw [e,e2,e2]; first|done|rfl)|(have e:=hO (a:=a) (b:=b) he om (by first|exact .inl (by rw [dk om]; assumption)|exact .inr (by rw [dk om]; assumption)); have e2: ∀ x,gJ r a b x=cK:=fun x=>if_neg (fun q=>by rw [e] at q; cases q); rw [e,e2,e2]; first|done|rfl)|(have e:=nc (a:=a) (b:=b) he om (by rw [dk om]; assumption) (by rw [dk om]; assumption); have e2: ∀ x,gJ r a b x=aC (aJ r) x:=fun x=>if_pos e; rw [e,e2,e2,← ia (a:=a) om,← ia (a:=b) om]; first|done|rfl)
 rw [Bool.not_eq_false'] at h67
 refine WK hK27<|ai fun _ hK31=>ep cD [2,3] [] [] [0,1,2,3,6,7,8,9,10,11,12,13,14] [] rfl rfl rfl rfl rfl<|eS rfl (LW 1 rfl bJ rfl rfl)<|eS rfl (LW 0 rfl bJ rfl rfl)<|eS rfl (AG rfl)<|fp rfl<|cr rfl fun T32 hT32=>Jp rfl bY rfl ?_
 refine aB (hT32 _ _ (aG [0,1,2,3,6,7,8,9,10,11,12,13,14]) ?_)
 refine cr rfl fun T33 hT33=>Kw rfl bY rfl ?_
 refine aB (hT33 _ _ (aG [0,1,2,3,6,7,8,9,10,11,12,13,14]) ?_)
 refine gh rfl<|KK hK31<|an ?_
 refine hQ _ _ _ (aZ (vs:=[(vA (aa.cells ((dz r.aD r.ay (a).toNat (((r.ay.length:Nat):Int)).toNat).getD cK))),(vA (aa.cells ((dz r.aD r.ay (b).toNat (((r.ay.length:Nat):Int)).toNat).getD cK))),(vI 0)]) ⟨⟨_,rfl,.inl ⟨_,_,bJ,bQ (vs:=(aa.cells ((dz r.aD r.ay (a).toNat (((r.ay.length:Nat):Int)).toNat).getD cK))) 5 rfl rfl,rfl,rfl⟩⟩,⟨_,rfl,.inl ⟨_,_,bJ,bQ (vs:=(aa.cells ((dz r.aD r.ay (b).toNat (((r.ay.length:Nat):Int)).toNat).getD cK))) 4 rfl rfl,rfl,rfl⟩⟩,rfl,trivial⟩ fun w hs=>eM ?_ hs)
 show (vT [(vA (aa.cells ((dz r.aD r.ay (a).toNat (((r.ay.length:Nat):Int)).toNat).getD cK))),(vA (aa.cells ((dz r.aD r.ay (b).toNat (((r.ay.length:Nat):Int)).toNat).getD cK))),(vI 0)])=(vT [(vA (aa.cells (gJ r a b a))),(vA (aa.cells (gJ r a b b))),(vI (ku r a b))])
 clear hs w hQ hN hT33 T33 hT32 T32 hK31 hK28 hK27 hK25 hK23 hK19 hK18 hK17 hK16 hK5 hK1
 first|(have e:=jh (a:=a) (b:=b) he; have e2: ∀ x,gJ r a b x=cK:=fun x=>if_neg (fun q=>by rw [e] at q; exact he q); rw [e,e2,e2]; first|done|rfl)|(have e:=je (a:=a) (b:=b) he om; have e2: ∀ x,gJ r a b x=cK:=fun x=>if_neg (fun q=>by rw [e] at q; cases q); rw [e,e2,e2]; first|done|rfl)|(have e:=hO (a:=a) (b:=b) he om (by first|exact .inl (by rw [dk om]; assumption)|exact .inr (by rw [dk om]; assumption)); have e2: ∀ x,gJ r a b x=cK:=fun x=>if_neg (fun q=>by rw [e] at q; cases q); rw [e,e2,e2]; first|done|rfl)|(have e:=nc (a:=a) (b:=b) he om (by rw [dk om]; assumption) (by rw [dk om]; assumption); have e2: ∀ x,gJ r a b x=aC (aJ r) x:=fun x=>if_pos e; rw [e,e2,e2,← ia (a:=a) om,← ia (a:=b) om]; first|done|rfl)
end
section
open Go.RowKit
theorem Dt (r:dg) (kA:OA) (kC:Nat) (az:List RA) (cA:OA) (cC:Nat) (bA:OA) (bC:Nat) (slA:OA) (slC:Nat) (drA:OA) (drC:Nat) (ha:List gZ) (heA:OA) (heC:Nat) (a b:Int) (hin:iT r az ha):
 eu Tryz.prog 10 [(vA (eT.cells (kx r kA kC cA cC bA bC slA slC drA drC heA heC))),(vI a),(vI b)] [(rd kA r.aD.aH.length 9 (r.aD.aH.map ah.cells)),(rd cA r.aD.aj.length 2 (List.zipWith al.cells r.aD.aj az)),(du (aU al.fK r.aD.aj az)),(rd bA r.aD.ab.length 4 (r.aD.ab.map bx.cells)),(rd slA r.aF.length 1 (r.aF.map iC)),(rd drA r.cG.length 1 (r.cG.map iC)),(rd heA r.ay.length 1 (List.zipWith eO r.ay ha)),(du (aU gf r.ay ha))] (vT [(Value.int .u8 (vl r a b)),(vI (ku r a b))]):=by
 have hline:=hin.line
 have hhl:=hin.jZ
 have hhs:=hin.has
 have hsll:=hin.j6
 have hdrl:=hin.draw
 have htal:=eA (r:=r)
 refine bu kr Tryz.func10 rfl rfl fun w0 Q hQ hN=>?_
 try dsimp only
 refine WS fun _ hK1=>fP rfl fun b2=>rP 2 [] mn ?_
 refine RK hK1<|WS fun _ hK3=>rP 3 [] (mc 0 rfl mn) ?_
 refine rS (CL (Es r kA kC az cA cC bA bC slA slC drA drC ha heA heC a b hin) (bh [1,2,3,4,5,6,7,8]) rfl)<|rP 4 [] mn ?_
 refine AL rfl cV fun b4=>AL rfl cV fun b5=>oV rfl bY rfl<|f_ rfl bY rfl<|rP 1 [] mn ?_
 refine RK hK3<|ai fun _ hK6=>av<|WS fun _ hK7=>rP 3 [] mn ?_
 refine RK hK7 ?_
 refine cP rfl (bk fun h19=>?_) (bj fun h19=>?_)
 ·refine WS fun _ hK8=>?_
  refine rP 3 [] mn ?_
  refine RK hK8<|an<|Q2 hQ rfl rfl rfl rfl ?_
  first|(rw [show vl r a b=0 from if_neg h19]; done)|(rw [h19,Ig h19]; unfold xQ; first|rw [if_pos h23]|rw [if_neg h23,if_pos h29]|rw [if_neg h23,if_neg h29])
 refine WS fun _ hK9=>rP 6 [0,1] (mc 1 rfl (mc 0 rfl mn)) ?_
 refine RK hK9 ?_
 refine cP rfl (aP fun h23=>?_) (aQ fun h23=>?_)
 ·refine WS fun _ hK10=>?_
  refine rP 2 [] mn ?_
  refine RK hK10<|an<|Q2 hQ rfl rfl rfl rfl ?_
  first|(rw [show vl r a b=0 from if_neg h19]; done)|(rw [h19,Ig h19]; unfold xQ; first|rw [if_pos h23]|rw [if_neg h23,if_pos h29]|rw [if_neg h23,if_neg h29])
 refine WS fun _ hK11=>rP 6 [0,1] (mc 1 rfl (mc 0 rfl mn)) ?_
 refine RK hK11 ?_
 refine cP rfl (aP fun h29=>?_) (aQ fun h29=>?_)
 ·refine WS fun _ hK12=>?_
  refine rP 2 [] mn ?_
  refine RK hK12<|an<|Q2 hQ rfl rfl rfl rfl ?_
  first|(rw [show vl r a b=0 from if_neg h19]; done)|(rw [h19,Ig h19]; unfold xQ; first|rw [if_pos h23]|rw [if_neg h23,if_pos h29]|rw [if_neg h23,if_neg h29])
 refine bZ<|ax<|KK hK6<|WS fun _ hK13=>rP 2 [] mn ?_
 refine RK hK13<|an<|Q2 hQ rfl rfl rfl rfl ?_
 first|(rw [show vl r a b=0 from if_neg h19]; done)|(rw [h19,Ig h19]; unfold xQ; first|rw [if_pos h23]|rw [if_neg h23,if_pos h29]|rw [if_neg h23,if_neg h29])
theorem Hr (r:dg) (kA:OA) (kC:Nat) (az:List RA) (cA:OA) (cC:Nat) (bA:OA) (bC:Nat) (slA:OA) (slC:Nat) (drA:OA) (drC:Nat) (ha:List gZ) (heA:OA) (heC:Nat) (a b:Int) (hin:iT r az ha):
 eu Tryz.prog 12 [(vA (eT.cells (kx r kA kC cA cC bA bC slA slC drA drC heA heC))),(vI a),(vI b)] [(rd kA r.aD.aH.length 9 (r.aD.aH.map ah.cells)),(rd cA r.aD.aj.length 2 (List.zipWith al.cells r.aD.aj az)),(du (aU al.fK r.aD.aj az)),(rd bA r.aD.ab.length 4 (r.aD.ab.map bx.cells)),(rd slA r.aF.length 1 (r.aF.map iC)),(rd drA r.cG.length 1 (r.cG.map iC)),(rd heA r.ay.length 1 (List.zipWith eO r.ay ha)),(du (aU gf r.ay ha))] (vT [(Value.int .u8 (kp r a b)),(vI (ku r a b))]):=by
 have hline:=hin.line
 have hhl:=hin.jZ
 have hhs:=hin.has
 have hsll:=hin.j6
 have hdrl:=hin.draw
 have htal:=eA (r:=r)
 refine bu kr Tryz.func12 rfl rfl fun w0 Q hQ hN=>?_
 try dsimp only
 refine WS fun _ hK1=>fP rfl fun b2=>rP 2 [] mn ?_
 refine RK hK1<|WS fun _ hK3=>rP 3 [] (mc 0 rfl mn) ?_
 refine rS (CL (Es r kA kC az cA cC bA bC slA slC drA drC ha heA heC a b hin) (bh [1,2,3,4,5,6,7,8]) rfl)<|rP 4 [] mn ?_
 refine AL rfl cV fun b4=>AL rfl cV fun b5=>oV rfl bY rfl<|f_ rfl bY rfl<|rP 1 [] mn ?_
 refine RK hK3<|ai fun _ hK6=>av<|WS fun _ hK7=>rP 3 [] mn ?_
 refine RK hK7 ?_
 refine cP rfl (bk fun h19=>?_) (bj fun h19=>?_)
 ·refine WS fun _ hK8=>?_
  refine rP 3 [] mn ?_
  refine RK hK8<|an<|Q2 hQ rfl rfl rfl rfl ?_
  first|(rw [show kp r a b=0 from if_neg h19]; done)|(rw [h19,tP h19]; unfold ko; first|rw [if_pos (show _∧_ from ⟨h27,h23⟩)]|(rw [if_neg (by first|exact fun q=>h27 q.1|exact fun q=>h23 q.2)]; first|rw [if_pos (show _∧_ by omega)]|rw [if_neg om]))
 refine WS fun _ hK9=>rP 2 [0,1] (mc 1 rfl (mc 0 rfl mn)) ?_
 refine rS (BI rfl (tL _ _ (gJ r a b a) (gJ r a b b)))<|rP 1 [] mn ?_
 refine dp (t:=27) rfl (aQ fun h27=>?_) (aP fun h27=>?_)
 ·refine rP 7 [] mn ?_
  refine RK hK9<|aW rfl<|WS fun _ hK15=>rP 6 [0,1] (mc 1 rfl (mc 0 rfl mn)) ?_
  refine dp (t:=40) rfl (aQ fun h40=>?_) (aP fun h40=>?_)
  ·refine rP 7 [] mn ?_
   refine RK hK15<|aW rfl<|bZ<|ax<|KK hK6<|WS fun _ hK18=>rP 2 [] mn ?_
   refine RK hK18<|an<|Q2 hQ rfl rfl rfl rfl ?_
   first|(rw [show kp r a b=0 from if_neg h19]; done)|(rw [h19,tP h19]; unfold ko; first|rw [if_pos (show _∧_ from ⟨h27,h23⟩)]|(rw [if_neg (by first|exact fun q=>h27 q.1|exact fun q=>h23 q.2)]; first|rw [if_pos (show _∧_ by omega)]|rw [if_neg om]))
  refine rP 7 [0,1] (mc 0 rfl (mc 1 rfl mn)) ?_
  refine RK hK15 ?_
  refine cP rfl (aP fun h34=>?_) (aQ fun h34=>?_)
  ·refine WS fun _ hK16=>?_
   refine rP 2 [] mn ?_
   refine RK hK16<|an<|Q2 hQ rfl rfl rfl rfl ?_
   first|(rw [show kp r a b=0 from if_neg h19]; done)|(rw [h19,tP h19]; unfold ko; first|rw [if_pos (show _∧_ from ⟨h27,h23⟩)]|(rw [if_neg (by first|exact fun q=>h27 q.1|exact fun q=>h23 q.2)]; first|rw [if_pos (show _∧_ by omega)]|rw [if_neg om]))
  refine bZ<|ax<|KK hK6<|WS fun _ hK17=>rP 2 [] mn ?_
  refine RK hK17<|an<|Q2 hQ rfl rfl rfl rfl ?_
  first|(rw [show kp r a b=0 from if_neg h19]; done)|(rw [h19,tP h19]; unfold ko; first|rw [if_pos (show _∧_ from ⟨h27,h23⟩)]|(rw [if_neg (by first|exact fun q=>h27 q.1|exact fun q=>h23 q.2)]; first|rw [if_pos (show _∧_ by omega)]|rw [if_neg om]))
 refine rP 7 [] (mc 1 rfl mn) ?_
 refine RK hK9 ?_
 refine cP rfl (aP fun h23=>?_) (aQ fun h23=>?_)
 ·refine WS fun _ hK10=>?_
  refine rP 2 [] mn ?_
  refine RK hK10<|an<|Q2 hQ rfl rfl rfl rfl ?_
  first|(rw [show kp r a b=0 from if_neg h19]; done)|(rw [h19,tP h19]; unfold ko; first|rw [if_pos (show _∧_ from ⟨h27,h23⟩)]|(rw [if_neg (by first|exact fun q=>h27 q.1|exact fun q=>h23 q.2)]; first|rw [if_pos (show _∧_ by omega)]|rw [if_neg om]))
 refine WS fun _ hK11=>rP 6 [0,1] (mc 1 rfl (mc 0 rfl mn)) ?_
 refine dp (t:=40) rfl (aQ fun h40=>?_) (aP fun h40=>?_)
 ·refine rP 7 [] mn ?_
  refine RK hK11<|aW rfl<|bZ<|ax<|KK hK6<|WS fun _ hK14=>rP 2 [] mn ?_
  refine RK hK14<|an<|Q2 hQ rfl rfl rfl rfl ?_
  first|(rw [show kp r a b=0 from if_neg h19]; done)|(rw [h19,tP h19]; unfold ko; first|rw [if_pos (show _∧_ from ⟨h27,h23⟩)]|(rw [if_neg (by first|exact fun q=>h27 q.1|exact fun q=>h23 q.2)]; first|rw [if_pos (show _∧_ by omega)]|rw [if_neg om]))
 refine rP 7 [0,1] (mc 0 rfl (mc 1 rfl mn)) ?_
 refine RK hK11 ?_
 refine cP rfl (aP fun h34=>?_) (aQ fun h34=>?_)
 ·refine WS fun _ hK12=>?_
  refine rP 2 [] mn ?_
  refine RK hK12<|an<|Q2 hQ rfl rfl rfl rfl ?_
  first|(rw [show kp r a b=0 from if_neg h19]; done)|(rw [h19,tP h19]; unfold ko; first|rw [if_pos (show _∧_ from ⟨h27,h23⟩)]|(rw [if_neg (by first|exact fun q=>h27 q.1|exact fun q=>h23 q.2)]; first|rw [if_pos (show _∧_ by omega)]|rw [if_neg om]))
 refine bZ<|ax<|KK hK6<|WS fun _ hK13=>rP 2 [] mn ?_
 refine RK hK13<|an<|Q2 hQ rfl rfl rfl rfl ?_
 first|(rw [show kp r a b=0 from if_neg h19]; done)|(rw [h19,tP h19]; unfold ko; first|rw [if_pos (show _∧_ from ⟨h27,h23⟩)]|(rw [if_neg (by first|exact fun q=>h27 q.1|exact fun q=>h23 q.2)]; first|rw [if_pos (show _∧_ by omega)]|rw [if_neg om]))
end
section
open Go.RowKit
theorem zg (r:dg) (kA:OA) (kC:Nat) (az:List RA) (cA:OA) (cC:Nat) (bA:OA) (bC:Nat) (slA:OA) (slC:Nat) (drA:OA) (drC:Nat) (ha:List gZ) (heA:OA) (heC:Nat) (a b:Int) (hraw:qW r az ha):
 eu Tryz.prog 3 [(vA (eT.cells (kx r kA kC cA cC bA bC slA slC drA drC heA heC))),(vI a),(vI b)] [(rd g0 3 2 fQ),(rd kA r.aD.aH.length 9 (r.aD.aH.map ah.cells)),(rd cA r.aD.aj.length 2 (List.zipWith al.cells r.aD.aj az)),(du (aU al.fK r.aD.aj az)),(rd bA r.aD.ab.length 4 (r.aD.ab.map bx.cells)),(rd slA r.aF.length 1 (r.aF.map iC)),(rd drA r.cG.length 1 (r.cG.map iC)),(rd heA r.ay.length 1 (List.zipWith eO r.ay ha)),(du (aU gf r.ay ha))] (vB true):=by
 refine bu kr Tryz.func3 rfl rfl fun w0 Q hQ hN=>?_
 try dsimp only
 refine WS fun _ hK1=>fP rfl fun b2=>rP 1 [] mn ?_
 refine RK hK1<|ai fun _ hK3=>WS fun _ hK4=>rP 1 [] (mc 0 rfl mn) ?_
 refine rS (CL (yx r kA kC az cA cC bA bC slA slC drA drC ha heA heC hraw) (bh [2,3,4,5,6,7,8,9]) rfl)<|RK hK4 ?_
 refine cP rfl (aP fun h20=>?_) (aQ fun h20=>?_)
 ·refine WS fun _ hK5=>?_
  refine rP 1 [] mn ?_
  refine RK hK5<|an<|Q1 hQ rfl rfl rfl ?_
  first|exact cB (bW rfl)|rfl
 refine WK hK3<|WS fun _ hK6=>?_
 have hin:=hraw.small h20
 have hline:=hin.line
 have hhl:=hin.jZ
 have hhs:=hin.has
 have hsll:=hin.j6
 have hdrl:=hin.draw
 have htal:=eA (r:=r)
 have hrl:=Bq (r:=r) (i:=a)
 refine rP 2 [] (mc 0 rfl mn) ?_
 refine cX (HI a r kA kC az cA cC bA bC slA slC drA drC ha heA heC sd) (bh [1,2,3,4,5,6,7,8,9]) rfl fun y7 hy8=>?_
 obtain ⟨a9,c10⟩:=y7
 try dsimp only
 refine rP 5 [] mn ?_
 refine RK hK6<|WS fun _ hK11=>rP 2 [] (mc 1 rfl mn) ?_
 refine cX (EB r kA kC az cA cC bA bC slA slC drA drC ha heA heC a sd) (bh [3,4,5,6,7,8,9,10]) rfl fun y12 hy13=>?_
 obtain ⟨a14,c15⟩:=y12
 try dsimp only
 refine rP 5 [] mn ?_
 refine RK hK11<|WS fun _ hK16=>rP 3 [] (mc 2 rfl mn) ?_
 refine rS (CL (Fq a b r kA kC az cA cC bA bC slA slC drA drC ha heA heC sd) (bh [3,4,5,6,7,8,9,10,11]) rfl)<|rP 5 [] mn ?_
 refine RK hK16<|WS fun _ hK17=>rP 3 [] (mc 2 rfl mn) ?_
 refine rS (CL (Dt r kA kC az cA cC bA bC slA slC drA drC ha heA heC a b sd) (bh [4,5,6,7,8,9,10,11]) rfl)<|rP 5 [] mn ?_
 refine RK hK17<|WS fun _ hK18=>rP 3 [] (mc 2 rfl mn) ?_
 refine rS (CL (JT a b r kA kC az cA cC bA bC slA slC drA drC ha heA heC sd) (bh [3,4,5,6,7,8,9,10,11]) rfl)<|rP 5 [] mn ?_
 refine RK hK18<|WS fun _ hK19=>rP 3 [] (mc 2 rfl mn) ?_
 refine rS (CL (Hr r kA kC az cA cC bA bC slA slC drA drC ha heA heC a b sd) (bh [4,5,6,7,8,9,10,11]) rfl)<|rP 5 [] mn ?_
 refine RK hK19<|WS fun _ hK20=>rP 2 [] mn ?_
 refine rS (CL (yD (iJ r a) a9 c10 (iJ r a) a14 c15 sd sd) (bq (aK (n:=(iJ r a).length) 1 rfl sm)<|bq (aK (n:=(iJ r a).length) 0 rfl sm)<|aT) rfl)<|rP 1 [] mn ?_
 refine dp (t:=64) rfl (aQ fun h21=>?_) (aP fun h21=>?_)
 ·exact absurd rfl h21
 refine rP 5 [] mn ?_
 refine dp (t:=69) rfl (aQ fun h22=>?_) (aP fun h22=>?_)
 ·exact absurd rfl h22
 refine rP 2 [] mn ?_
 refine rS (BI rfl oR)<|rP 2 [] mn ?_
 refine dp (t:=74) rfl (aQ fun h23=>?_) (aP fun h23=>?_)
 ·exact absurd rfl h23
 refine rP 5 [] mn ?_
 refine dp (t:=79) rfl (aQ fun h24=>?_) (aP fun h24=>?_)
 ·exact absurd rfl h24
 refine rP 2 [] mn ?_
 refine rS (BI rfl oR)<|rP 2 [] mn ?_
 refine dp (t:=84) rfl (aQ fun h25=>?_) (aP fun h25=>?_)
 ·exact absurd rfl h25
 refine rP 5 [] mn ?_
 refine RK hK20<|an<|Q1 hQ rfl rfl rfl ?_
 first|exact cB (bW rfl)|rfl
end
section
open Go.RowKit
def hU {α:Type} (cells:α→List Value) (sz:Nat) (R:World→α→Prop) (w:World) (s:bB):Prop:= ∃ l:List α,s.n=l.length∧(rd s.a l.length sz (l.map cells)).holds w∧(∀ x∈l,R w x)∧l.length≤maxLen∧s.n≤s.c
theorem tQ {w:World} {R:World→cR→Prop}: ∀ {l:List cy},(∀ x∈l,hU cR.cells 3 R w x.aR)→ ∃ (ms:List al) (az:List RA),l.map cy.cells=List.zipWith al.cells ms az∧ms.length=l.length∧az.length=l.length∧(∀ X∈aU al.fK ms az,X.holds w)∧
 (∀ (k:Nat) m (a:RA),ms[k]? =some m→az[k]? =some a→m.aR.length≤a.2∧m.aR.length≤9223372036854775807)∧ms.map (fun m=>m.cJ)=l.map (fun x=>x.cJ)∧ ∀ (k:Nat) m y,ms[k]? =some m→y∈m.aR→R w y
 |[],_=>⟨[],[],rfl,rfl,rfl,(fun X hX=>by cases hX),(fun k m a h=>by simp at h),rfl,(fun k m y h=>by simp at h)⟩
 |x::l,h=>by
  obtain ⟨ms,az,h1,h2,h3,h4,h5,h6,h7⟩:=tQ (fun y hy=>h y (dY _ hy))
  obtain ⟨sy,e1,e2,e3,e4,e5⟩:=h x sm
  have e4':sy.length≤9223372036854775807:=e4
  refine ⟨⟨x.cJ,sy⟩::ms,(x.aR.a,x.aR.c)::az,?_,by simp [h2],by simp [h3],fun X hX=>?_,fun k m a hm ha=>?_,by simp [h6],fun k m y hm hy=>?_⟩
  ·obtain ⟨dr,⟨a,n,c⟩⟩:=x
   simp only at e1
   subst e1
   simp only [List.map_cons,List.zipWith_cons_cons,h1]
   rfl
  ·rcases List.mem_append.1 hX with hX|hX
   ·simp only [al.fK,bU] at hX
    subst hX; exact e2
   ·exact h4 X hX
  ·cases k with
   |zero=>
    simp only [List.getElem?_cons_zero,Option.some.injEq] at hm ha
    subst hm ha
    exact ⟨by simp only; omega,e4'⟩
   |succ k=>exact h5 k m a (by simpa using hm) (by simpa using ha)
  ·cases k with
   |zero=>
    simp only [List.getElem?_cons_zero,Option.some.injEq] at hm
    subst hm
    exact e3 y hy
   |succ k=>exact h7 k m y (by simpa using hm) hy
theorem CT {w:World} {s:cE} {R1:World→ah→Prop} {R2:World→cy→Prop} {R3:World→bx→Prop} {R4:World→cR→Prop} (h1:hU ah.cells 9 R1 w s.aH.kl) (hs: ∀ x,R1 w x→0≤x.iy∧x.iy≤255) (h2:hU cy.cells 2 R2 w s.aj) (hc: ∀ x,R2 w x→hU cR.cells 3 R4 w x.aR) (h3:hU bx.cells 4 R3 w s.ab):
 ∃ (l:aV) (az:List RA) (kA:OA) (kC:Nat) (cA:OA) (cC:Nat) (bA:OA) (bC:Nat),s=cE.mk (bL.mk (bB.mk kA l.aH.length kC)) l.lX (bB.mk cA l.aj.length cC) (bB.mk bA l.ab.length bC) l.cz l.iH l.e8∧qY l az∧
  ((rd kA l.aH.length 9 (l.aH.map ah.cells)).holds w∧(rd cA l.aj.length 2 (List.zipWith al.cells l.aj az)).holds w∧(du (aU al.fK l.aj az)).holds w∧(rd bA l.ab.length 4 (l.ab.map bx.cells)).holds w)∧l.lX=s.lX∧l.cz=s.cz∧l.iH=s.iH∧l.e8=s.e8:=by
 obtain ⟨⟨⟨ka,kn,kc⟩⟩,fa,⟨ca,cn,cc⟩,⟨ba,bn,bc⟩,fi,fk,mi⟩:=s
 obtain ⟨ts,t1,t2,t3,t4,t5⟩:=h1
 obtain ⟨cs,c1,c2,c3,c4,c5⟩:=h2
 obtain ⟨bs,b1,b2,b3,b4,b5⟩:=h3
 simp only at t1 c1 b1
 subst t1 c1 b1
 obtain ⟨ms,az,m1,m2,m3,m4,m5,_⟩:=tQ (fun x hx=>hc x (c3 x hx))
 have t4':ts.length≤9223372036854775807:=t4
 have c4':cs.length≤9223372036854775807:=c4
 have b4':bs.length≤9223372036854775807:=b4
 refine ⟨⟨ts,fa,ms,bs,fi,fk,mi⟩,az,ka,kc,ca,cc,ba,bc,by simp only [m2],⟨t4',fun x hx=>hs x (t3 x hx),by simp only; omega,by simp only; omega,b4',m5⟩,⟨t2,?_,m4,b2⟩,rfl,rfl,rfl,rfl⟩
 simp only at c2 ⊢
 rw [m2,← m1]; exact c2
end
section
open Go.RowKit
theorem uO {w:World} {R:World→aM→Prop}: ∀ {l:List bD},(∀ x∈l,hU aM.cells 2 R w x.bP.ag)→ ∃ (ms:List aS) (az:List RA),l.map bD.cells=List.zipWith aS.cells ms az∧ms.length=l.length∧az.length=l.length∧(∀ X∈aU aS.fK ms az,X.holds w)∧
 ∀ d∈ms,d.bP.ag.length≤9223372036854775807
 |[],_=>⟨[],[],rfl,rfl,rfl,(fun X hX=>by cases hX),fun d h=>by cases h⟩
 |x::l,h=>by
  obtain ⟨ms,az,h1,h2,h3,h4,h5⟩:=uO (fun y hy=>h y (dY _ hy))
  obtain ⟨sg,e1,e2,e3,e4,e5⟩:=h x sm
  have e4':sg.length≤9223372036854775807:=e4
  refine ⟨⟨x.Out,x.dM,x.Time,⟨x.bP.Start,x.bP.fR,sg⟩⟩::ms,(x.bP.ag.a,x.bP.ag.c)::az,?_,by simp [h2],by simp [h3],fun X hX=>?_,fun d hd=>?_⟩
  ·obtain ⟨o,f,t,⟨st,nw,⟨a,n,c⟩⟩⟩:=x
   simp only at e1
   subst e1
   simp only [List.map_cons,List.zipWith_cons_cons,h1]
   rfl
  ·rcases List.mem_append.1 hX with hX|hX
   ·simp only [aS.fK,bU] at hX
    subst hX; exact e2
   ·exact h4 X hX
  ·rcases List.mem_cons.1 hd with rfl|hd
   ·exact e4'
   ·exact h5 d hd
theorem vC {w:World} {R2:World→bD→Prop} {R:World→aM→Prop} (hc: ∀ x,R2 w x→hU aM.cells 2 R w x.bP.ag): ∀ {l:List bB},(∀ x∈l,hU bD.cells 7 R2 w x)→ ∃ (ms:List (List aS)) (ha:List gZ),(l.map fun s=>[vS s.a s.n s.c])=List.zipWith eO ms ha∧ms.length=l.length∧ha.length=l.length∧(∀ X∈aU gf ms ha,X.holds w)∧
 ∀ (k:Nat) h (a:gZ),ms[k]? =some h→ha[k]? =some a→h.length≤9223372036854775807∧a.2.length=h.length∧ ∀ d∈h,d.bP.ag.length≤9223372036854775807
 |[],_=>⟨[],[],rfl,rfl,rfl,(fun X hX=>by cases hX),(fun k h a q=>by simp at q)⟩
 |x::l,h=>by
  obtain ⟨ms,ha,h1,h2,h3,h4,h5⟩:=vC hc (fun y hy=>h y (dY _ hy))
  obtain ⟨ds,e1,e2,e3,e4,e5⟩:=h x sm
  obtain ⟨dm,az,d1,d2,d3,d4,d5⟩:=uO fun y hy=>hc y (e3 y hy)
  have e4':ds.length≤9223372036854775807:=e4
  refine ⟨dm::ms,((x.a,x.c),az)::ha,?_,by simp [h2],by simp [h3],fun X hX=>?_,fun k m a hm ha2=>?_⟩
  ·obtain ⟨a,n,c⟩:=x
   simp only at e1
   subst e1
   simp only [List.map_cons,List.zipWith_cons_cons,h1,eO,d2]
  ·rcases List.mem_append.1 hX with hX|hX
   ·unfold gf at hX
    rcases List.mem_cons.1 hX with rfl|hX
    ·simp only
     rw [d2,← d1]; exact e2
    ·exact d4 X hX
   ·exact h4 X hX
  ·cases k with
   |zero=>
    simp only [List.getElem?_cons_zero,Option.some.injEq] at hm ha2
    subst hm ha2
    exact ⟨om,by simp only; omega,d5⟩
   |succ k=>exact h5 k m a (by simpa using hm) (by simpa using ha2)
theorem CE {w:World} {s:eT} {R1:World→ah→Prop} {R2:World→cy→Prop} {R3:World→bx→Prop} {R4:World→cR→Prop} {R5:World→Int→Prop} {R6:World→bB→Prop} {R7:World→bD→Prop} {R8:World→aM→Prop}
 (h1:hU ah.cells 9 R1 w s.aD.aH.kl) (hs: ∀ x,R1 w x→0≤x.iy∧x.iy≤255) (h2:hU cy.cells 2 R2 w s.aD.aj) (hc: ∀ x,R2 w x→hU cR.cells 3 R4 w x.aR) (h3:hU bx.cells 4 R3 w s.aD.ab)
 (h4:hU iC 1 R5 w s.aF) (h5:hU iC 1 R5 w s.cG) (h6:hU (fun s=>[vS s.a s.n s.c]) 1 R6 w s.ay) (h7: ∀ x,R6 w x→hU bD.cells 7 R7 w x) (h8: ∀ x,R7 w x→hU aM.cells 2 R8 w x.bP.ag):
 ∃ (r:dg) (az:List RA) (ha:List gZ) (kA:OA) (kC:Nat) (cA:OA) (cC:Nat) (bA:OA) (bC:Nat) (slA:OA) (slC:Nat) (drA:OA) (drC:Nat) (heA:OA) (heC:Nat),
  s=kx r kA kC cA cC bA bC slA slC drA drC heA heC∧qW r az ha∧
  ((rd kA r.aD.aH.length 9 (r.aD.aH.map ah.cells)).holds w∧(rd cA r.aD.aj.length 2 (List.zipWith al.cells r.aD.aj az)).holds w∧(du (aU al.fK r.aD.aj az)).holds w∧(rd bA r.aD.ab.length 4 (r.aD.ab.map bx.cells)).holds w∧
   (rd slA r.aF.length 1 (r.aF.map iC)).holds w∧(rd drA r.cG.length 1 (r.cG.map iC)).holds w∧(rd heA r.ay.length 1 (List.zipWith eO r.ay ha)).holds w∧(du (aU gf r.ay ha)).holds w):=by
 obtain ⟨ln,⟨sa,sn,sc⟩,⟨da,dn,dc⟩,tu,⟨ea,en,ec⟩⟩:=s
 obtain ⟨l,az,kA,kC,cA,cC,bA,bC,e,hraw,hh,_⟩:=CT (s:=ln) h1 hs h2 hc h3
 subst e
 obtain ⟨sl,s1,s2,s3,s4,s5⟩:=h4
 obtain ⟨dr,d1,d2,d3,d4,d5⟩:=h5
 obtain ⟨he,q1,q2,q3,q4,q5⟩:=h6
 obtain ⟨ms,ha,m1,m2,m3,m4,m5⟩:=vC h8 (fun x hx=>h7 x (q3 x hx))
 simp only at s1 d1 q1
 subst s1 d1 q1
 have s4':sl.length≤9223372036854775807:=s4
 have d4':dr.length≤9223372036854775807:=d4
 have q4':he.length≤9223372036854775807:=q4
 refine ⟨⟨l,sl,dr,tu,ms⟩,az,ha,kA,kC,cA,cC,bA,bC,sa,sc,da,dc,ea,ec,by unfold kx; simp only [m2],⟨hraw,s4',d4',by simp only; omega,by simp only; omega,m5⟩,hh.1,hh.2.1,hh.2.2.1,hh.2.2.2,s2,d2,?_,m4⟩
 simp only at q2 ⊢
 rw [m2,← m1]; exact q2
end
section
open Go.ChangeShapes Go.WideShapes Go.ChangeAt Go.RowKit
theorem Ni:Tryz.prog.cellsOf 32=11:=by kernel_rfl
theorem Ln:Tryz.prog.cellsOf 28=7:=by kernel_rfl
theorem LK:Tryz.prog.cellsOf 24=1:=by kernel_rfl
theorem M8:Tryz.prog.cellsOf 22=1:=by kernel_rfl
theorem II:Tryz.prog.cellsOf 163=9:=by kernel_rfl
theorem yj:Tryz.prog.cellsOf 3=1:=by kernel_rfl
def wP (w:World) (n:Int):Prop:=o4 n
theorem yg:qJ Tryz.prog 3 Int iC wP:=JO oZ
theorem Ao:Tryz.prog.cellsOf 47=2:=by kernel_rfl
structure Ay (w:World) (s:aa):Prop where
 Lo:wP w s.Lo
 Hi:wP w s.Hi
theorem Nv:fL Tryz.prog 47=some [(3,0),(3,1)]:=by kernel_rfl
theorem Dr:qJ Tryz.prog 47 aa aa.cells Ay:=fun {H} enc w base sp held fuel cs x h=>by
 obtain ⟨hl,hp⟩:=jc Nv h
 obtain ⟨n0,y0,h0⟩:=hp 0 3 0 rfl
 obtain ⟨s0,c0,r0⟩:=yg _ _ _ _ _ _ _ _ h0
 obtain ⟨n1,y1,h1⟩:=hp 1 3 1 rfl
 obtain ⟨s1,c1,r1⟩:=yg _ _ _ _ _ _ _ _ h1
 refine ⟨⟨s0,s1⟩,?_,⟨r0,r1⟩⟩
 have e1:=gI (hl.trans Ao) (by rw [yj]) c1
 have e0:=df c0 (m:=1) (by rw [yj]) e1
 exact e0
theorem Ob:Tryz.prog.cellsOf 5=1:=by kernel_rfl
def NX (w:World) (n:Int):Prop:=0≤n∧n≤255
theorem Oc:qJ Tryz.prog 5 Int Gl NX:=Md ML
structure Ex (w:World) (s:ah):Prop where
 Id:wP w s.Id
 j5:Ay w s.j5
 kU:Ay w s.kU
 dR:Ay w s.dR
 iy:NX w s.iy
 xH:wP w s.xH
theorem KE:fL Tryz.prog 163=some [(3,0),(47,1),(47,3),(47,5),(5,7),(3,8)]:=by kernel_rfl
theorem Mi:qJ Tryz.prog 163 ah ah.cells Ex:=fun {H} enc w base sp held fuel cs x h=>by
 obtain ⟨hl,hp⟩:=jc KE h
 obtain ⟨n0,y0,h0⟩:=hp 0 3 0 rfl
 obtain ⟨s0,c0,r0⟩:=yg _ _ _ _ _ _ _ _ h0
 obtain ⟨n1,y1,h1⟩:=hp 1 47 1 rfl
 obtain ⟨s1,c1,r1⟩:=Dr _ _ _ _ _ _ _ _ h1
 obtain ⟨n2,y2,h2⟩:=hp 2 47 3 rfl
 obtain ⟨s2,c2,r2⟩:=Dr _ _ _ _ _ _ _ _ h2
 obtain ⟨n3,y3,h3⟩:=hp 3 47 5 rfl
 obtain ⟨s3,c3,r3⟩:=Dr _ _ _ _ _ _ _ _ h3
 obtain ⟨n4,y4,h4⟩:=hp 4 5 7 rfl
 obtain ⟨s4,c4,r4⟩:=Oc _ _ _ _ _ _ _ _ h4
 obtain ⟨n5,y5,h5⟩:=hp 5 3 8 rfl
 obtain ⟨s5,c5,r5⟩:=yg _ _ _ _ _ _ _ _ h5
 refine ⟨⟨s0,s1,s2,s3,s4,s5⟩,?_,⟨r0,r1,r2,r3,r4,r5⟩⟩
 have e5:=gI (hl.trans II) (by rw [yj]) c5
 have e4:=df c4 (m:=8) (by rw [Ob]) e5
 have e3:=df c3 (m:=7) (by rw [Ao]) e4
 have e2:=df c2 (m:=5) (by rw [Ao]) e3
 have e1:=df c1 (m:=3) (by rw [Ao]) e2
 have e0:=df c0 (m:=1) (by rw [yj]) e1
 exact e0
def LM (w:World) (s:bB):Prop:= ∃ l:List ah,s.n=l.length∧(rd s.a l.length 9 (l.map ah.cells)).holds w∧(∀ x∈l,Ex w x)∧l.length≤maxLen∧s.n≤s.c
theorem Nd:qJ Tryz.prog 22 bB (fun s=>[vS s.a s.n s.c]) LM:=lQ L9 II Mi
structure KZ (w:World) (s:bL):Prop where
 kl:LM w s.kl
theorem NP:fL Tryz.prog 24=some [(22,0)]:=by kernel_rfl
theorem ND:qJ Tryz.prog 24 bL bL.cells KZ:=fun {H} enc w base sp held fuel cs x h=>by
 obtain ⟨hl,hp⟩:=jc NP h
 obtain ⟨n0,y0,h0⟩:=hp 0 22 0 rfl
 obtain ⟨s0,c0,r0⟩:=Nd _ _ _ _ _ _ _ _ h0
 refine ⟨⟨s0⟩,?_,⟨r0⟩⟩
 have e0:=gI (hl.trans LK) (by rw [M8]) c0
 exact e0
theorem M7:Tryz.prog.cellsOf 25=1:=by kernel_rfl
theorem I5:Tryz.prog.cellsOf 119=2:=by kernel_rfl
theorem Mu:Tryz.prog.cellsOf 117=1:=by kernel_rfl
theorem I0:Tryz.prog.cellsOf 137=3:=by kernel_rfl
structure Fy (w:World) (s:cR):Prop where
 At:wP w s.At
 d_:Ay w s.d_
theorem L8:fL Tryz.prog 137=some [(3,0),(47,1)]:=by kernel_rfl
theorem KM:qJ Tryz.prog 137 cR cR.cells Fy:=fun {H} enc w base sp held fuel cs x h=>by
 obtain ⟨hl,hp⟩:=jc L8 h
 obtain ⟨n0,y0,h0⟩:=hp 0 3 0 rfl
 obtain ⟨s0,c0,r0⟩:=yg _ _ _ _ _ _ _ _ h0
 obtain ⟨n1,y1,h1⟩:=hp 1 47 1 rfl
 obtain ⟨s1,c1,r1⟩:=Dr _ _ _ _ _ _ _ _ h1
 refine ⟨⟨s0,s1⟩,?_,⟨r0,r1⟩⟩
 have e1:=gI (hl.trans I0) (by rw [Ao]) c1
 have e0:=df c0 (m:=1) (by rw [yj]) e1
 exact e0
def IT (w:World) (s:bB):Prop:= ∃ l:List cR,s.n=l.length∧(rd s.a l.length 3 (l.map cR.cells)).holds w∧(∀ x∈l,Fy w x)∧l.length≤maxLen∧s.n≤s.c
theorem K7:qJ Tryz.prog 117 bB (fun s=>[vS s.a s.n s.c]) IT:=lQ LO I0 KM
structure Ek (w:World) (s:cy):Prop where
 cJ:wP w s.cJ
 aR:IT w s.aR
theorem KX:fL Tryz.prog 119=some [(3,0),(117,1)]:=by kernel_rfl
theorem Lm:qJ Tryz.prog 119 cy cy.cells Ek:=fun {H} enc w base sp held fuel cs x h=>by
 obtain ⟨hl,hp⟩:=jc KX h
 obtain ⟨n0,y0,h0⟩:=hp 0 3 0 rfl
 obtain ⟨s0,c0,r0⟩:=yg _ _ _ _ _ _ _ _ h0
 obtain ⟨n1,y1,h1⟩:=hp 1 117 1 rfl
 obtain ⟨s1,c1,r1⟩:=K7 _ _ _ _ _ _ _ _ h1
 refine ⟨⟨s0,s1⟩,?_,⟨r0,r1⟩⟩
 have e1:=gI (hl.trans I5) (by rw [Mu]) c1
 have e0:=df c0 (m:=1) (by rw [yj]) e1
 exact e0
def Mq (w:World) (s:bB):Prop:= ∃ l:List cy,s.n=l.length∧(rd s.a l.length 2 (l.map cy.cells)).holds w∧(∀ x∈l,Ek w x)∧l.length≤maxLen∧s.n≤s.c
theorem Nt:qJ Tryz.prog 25 bB (fun s=>[vS s.a s.n s.c]) Mq:=lQ Nl I5 Lm
theorem Nw:Tryz.prog.cellsOf 26=1:=by kernel_rfl
theorem IJ:Tryz.prog.cellsOf 141=4:=by kernel_rfl
theorem IP:Tryz.prog.cellsOf 139=3:=by kernel_rfl
structure Iz (w:World) (s:cL):Prop where
 ar:wP w s.ar
 gk:Ay w s.gk
theorem Mz:fL Tryz.prog 139=some [(3,0),(47,1)]:=by kernel_rfl
theorem Ll:qJ Tryz.prog 139 cL cL.cells Iz:=fun {H} enc w base sp held fuel cs x h=>by
 obtain ⟨hl,hp⟩:=jc Mz h
 obtain ⟨n0,y0,h0⟩:=hp 0 3 0 rfl
 obtain ⟨s0,c0,r0⟩:=yg _ _ _ _ _ _ _ _ h0
 obtain ⟨n1,y1,h1⟩:=hp 1 47 1 rfl
 obtain ⟨s1,c1,r1⟩:=Dr _ _ _ _ _ _ _ _ h1
 refine ⟨⟨s0,s1⟩,?_,⟨r0,r1⟩⟩
 have e1:=gI (hl.trans IP) (by rw [Ao]) c1
 have e0:=df c0 (m:=1) (by rw [yj]) e1
 exact e0
structure GG (w:World) (s:bx):Prop where
 lU:Iz w s.lU
 jK:wP w s.jK
theorem K_:fL Tryz.prog 141=some [(139,0),(3,3)]:=by kernel_rfl
theorem K3:qJ Tryz.prog 141 bx bx.cells GG:=fun {H} enc w base sp held fuel cs x h=>by
 obtain ⟨hl,hp⟩:=jc K_ h
 obtain ⟨n0,y0,h0⟩:=hp 0 139 0 rfl
 obtain ⟨s0,c0,r0⟩:=Ll _ _ _ _ _ _ _ _ h0
 obtain ⟨n1,y1,h1⟩:=hp 1 3 3 rfl
 obtain ⟨s1,c1,r1⟩:=yg _ _ _ _ _ _ _ _ h1
 refine ⟨⟨s0,s1⟩,?_,⟨r0,r1⟩⟩
 have e1:=gI (hl.trans IJ) (by rw [yj]) c1
 have e0:=df c0 (m:=3) (by rw [IP]) e1
 exact e0
def Ml (w:World) (s:bB):Prop:= ∃ l:List bx,s.n=l.length∧(rd s.a l.length 4 (l.map bx.cells)).holds w∧(∀ x∈l,GG w x)∧l.length≤maxLen∧s.n≤s.c
theorem NR:qJ Tryz.prog 26 bB (fun s=>[vS s.a s.n s.c]) Ml:=lQ Mc IJ K3
structure KD (w:World) (s:cE):Prop where
 aH:KZ w s.aH
 lX:wP w s.lX
 aj:Mq w s.aj
 ab:Ml w s.ab
 cz:wP w s.cz
 iH:wP w s.iH
 e8:wP w s.e8
theorem Nn:fL Tryz.prog 28=some [(24,0),(3,1),(25,2),(26,3),(3,4),(3,5),(3,6)]:=by kernel_rfl
theorem Nj:qJ Tryz.prog 28 cE cE.cells KD:=fun {H} enc w base sp held fuel cs x h=>by
 obtain ⟨hl,hp⟩:=jc Nn h
 obtain ⟨n0,y0,h0⟩:=hp 0 24 0 rfl
 obtain ⟨s0,c0,r0⟩:=ND _ _ _ _ _ _ _ _ h0
 obtain ⟨n1,y1,h1⟩:=hp 1 3 1 rfl
 obtain ⟨s1,c1,r1⟩:=yg _ _ _ _ _ _ _ _ h1
 obtain ⟨n2,y2,h2⟩:=hp 2 25 2 rfl
 obtain ⟨s2,c2,r2⟩:=Nt _ _ _ _ _ _ _ _ h2
 obtain ⟨n3,y3,h3⟩:=hp 3 26 3 rfl
 obtain ⟨s3,c3,r3⟩:=NR _ _ _ _ _ _ _ _ h3
 obtain ⟨n4,y4,h4⟩:=hp 4 3 4 rfl
 obtain ⟨s4,c4,r4⟩:=yg _ _ _ _ _ _ _ _ h4
 obtain ⟨n5,y5,h5⟩:=hp 5 3 5 rfl
 obtain ⟨s5,c5,r5⟩:=yg _ _ _ _ _ _ _ _ h5
 obtain ⟨n6,y6,h6⟩:=hp 6 3 6 rfl
 obtain ⟨s6,c6,r6⟩:=yg _ _ _ _ _ _ _ _ h6
 refine ⟨⟨s0,s1,s2,s3,s4,s5,s6⟩,?_,⟨r0,r1,r2,r3,r4,r5,r6⟩⟩
 have e6:=gI (hl.trans Ln) (by rw [yj]) c6
 have e5:=df c5 (m:=6) (by rw [yj]) e6
 have e4:=df c4 (m:=5) (by rw [yj]) e5
 have e3:=df c3 (m:=4) (by rw [Nw]) e4
 have e2:=df c2 (m:=3) (by rw [M7]) e3
 have e1:=df c1 (m:=2) (by rw [yj]) e2
 have e0:=df c0 (m:=1) (by rw [LK]) e1
 exact e0
theorem LB:Tryz.prog.cellsOf 29=1:=by kernel_rfl
def Jj (w:World) (s:bB):Prop:= ∃ l:List Int,s.n=l.length∧(rd s.a l.length 1 (l.map iC)).holds w∧(∀ x∈l,wP w x)∧l.length≤maxLen∧s.n≤s.c
theorem Lt:qJ Tryz.prog 29 bB (fun s=>[vS s.a s.n s.c]) Jj:=lQ No yj yg
theorem M3:Tryz.prog.cellsOf 30=1:=by kernel_rfl
theorem Np:Tryz.prog.cellsOf 71=1:=by kernel_rfl
theorem L5:Tryz.prog.cellsOf 76=7:=by kernel_rfl
theorem NY:Tryz.prog.cellsOf 4=1:=by kernel_rfl
def Nb (w:World) (n:Bool):Prop:=True
theorem N8:qJ Tryz.prog 4 Bool (fun b=>[vB b]) Nb:=HU NU
theorem LR:Tryz.prog.cellsOf 74=3:=by kernel_rfl
theorem Nm:Tryz.prog.cellsOf 72=1:=by kernel_rfl
theorem IN:Tryz.prog.cellsOf 165=2:=by kernel_rfl
structure Ei (w:World) (s:aM):Prop where
 fO:wP w s.fO
 Read:wP w s.Read
theorem KG:fL Tryz.prog 165=some [(3,0),(3,1)]:=by kernel_rfl
theorem KW:qJ Tryz.prog 165 aM aM.cells Ei:=fun {H} enc w base sp held fuel cs x h=>by
 obtain ⟨hl,hp⟩:=jc KG h
 obtain ⟨n0,y0,h0⟩:=hp 0 3 0 rfl
 obtain ⟨s0,c0,r0⟩:=yg _ _ _ _ _ _ _ _ h0
 obtain ⟨n1,y1,h1⟩:=hp 1 3 1 rfl
 obtain ⟨s1,c1,r1⟩:=yg _ _ _ _ _ _ _ _ h1
 refine ⟨⟨s0,s1⟩,?_,⟨r0,r1⟩⟩
 have e1:=gI (hl.trans IN) (by rw [yj]) c1
 have e0:=df c0 (m:=1) (by rw [yj]) e1
 exact e0
def K9 (w:World) (s:bB):Prop:= ∃ l:List aM,s.n=l.length∧(rd s.a l.length 2 (l.map aM.cells)).holds w∧(∀ x∈l,Ei w x)∧l.length≤maxLen∧s.n≤s.c
theorem NM:qJ Tryz.prog 72 bB (fun s=>[vS s.a s.n s.c]) K9:=lQ NL IN KW
structure KH (w:World) (s:eE):Prop where
 Start:wP w s.Start
 fR:wP w s.fR
 ag:K9 w s.ag
theorem MW:fL Tryz.prog 74=some [(3,0),(3,1),(72,2)]:=by kernel_rfl
theorem M0:qJ Tryz.prog 74 eE eE.cells KH:=fun {H} enc w base sp held fuel cs x h=>by
 obtain ⟨hl,hp⟩:=jc MW h
 obtain ⟨n0,y0,h0⟩:=hp 0 3 0 rfl
 obtain ⟨s0,c0,r0⟩:=yg _ _ _ _ _ _ _ _ h0
 obtain ⟨n1,y1,h1⟩:=hp 1 3 1 rfl
 obtain ⟨s1,c1,r1⟩:=yg _ _ _ _ _ _ _ _ h1
 obtain ⟨n2,y2,h2⟩:=hp 2 72 2 rfl
 obtain ⟨s2,c2,r2⟩:=NM _ _ _ _ _ _ _ _ h2
 refine ⟨⟨s0,s1,s2⟩,?_,⟨r0,r1,r2⟩⟩
 have e2:=gI (hl.trans LR) (by rw [Nm]) c2
 have e1:=df c1 (m:=2) (by rw [yj]) e2
 have e0:=df c0 (m:=1) (by rw [yj]) e1
 exact e0
structure JK (w:World) (s:bD):Prop where
 Out:Nb w s.Out
 dM:Nb w s.dM
 Time:Ay w s.Time
 bP:KH w s.bP
theorem Ns:fL Tryz.prog 76=some [(4,0),(4,1),(47,2),(74,4)]:=by kernel_rfl
theorem M6:qJ Tryz.prog 76 bD bD.cells JK:=fun {H} enc w base sp held fuel cs x h=>by
 obtain ⟨hl,hp⟩:=jc Ns h
 obtain ⟨n0,y0,h0⟩:=hp 0 4 0 rfl
 obtain ⟨s0,c0,r0⟩:=N8 _ _ _ _ _ _ _ _ h0
 obtain ⟨n1,y1,h1⟩:=hp 1 4 1 rfl
 obtain ⟨s1,c1,r1⟩:=N8 _ _ _ _ _ _ _ _ h1
 obtain ⟨n2,y2,h2⟩:=hp 2 47 2 rfl
 obtain ⟨s2,c2,r2⟩:=Dr _ _ _ _ _ _ _ _ h2
 obtain ⟨n3,y3,h3⟩:=hp 3 74 4 rfl
 obtain ⟨s3,c3,r3⟩:=M0 _ _ _ _ _ _ _ _ h3
 refine ⟨⟨s0,s1,s2,s3⟩,?_,⟨r0,r1,r2,r3⟩⟩
 have e3:=gI (hl.trans L5) (by rw [LR]) c3
 have e2:=df c2 (m:=4) (by rw [Ao]) e3
 have e1:=df c1 (m:=2) (by rw [NY]) e2
 have e0:=df c0 (m:=1) (by rw [NY]) e1
 exact e0
def JI (w:World) (s:bB):Prop:= ∃ l:List bD,s.n=l.length∧(rd s.a l.length 7 (l.map bD.cells)).holds w∧(∀ x∈l,JK w x)∧l.length≤maxLen∧s.n≤s.c
theorem Nq:qJ Tryz.prog 71 bB (fun s=>[vS s.a s.n s.c]) JI:=lQ MZ L5 M6
def KF (w:World) (s:bB):Prop:= ∃ l:List bB,s.n=l.length∧(rd s.a l.length 1 (l.map (fun s=>[vS s.a s.n s.c]))).holds w∧(∀ x∈l,JI w x)∧l.length≤maxLen∧s.n≤s.c
theorem Ng:qJ Tryz.prog 30 bB (fun s=>[vS s.a s.n s.c]) KF:=lQ M9 Np Nq
structure Na (w:World) (s:eT):Prop where
 aD:KD w s.aD
 aF:Jj w s.aF
 cG:Jj w s.cG
 qV:wP w s.qV
 ay:KF w s.ay
theorem MA:fL Tryz.prog 32=some [(28,0),(29,7),(29,8),(3,9),(30,10)]:=by kernel_rfl
theorem MY:qJ Tryz.prog 32 eT eT.cells Na:=fun {H} enc w base sp held fuel cs x h=>by
 obtain ⟨hl,hp⟩:=jc MA h
 obtain ⟨n0,y0,h0⟩:=hp 0 28 0 rfl
 obtain ⟨s0,c0,r0⟩:=Nj _ _ _ _ _ _ _ _ h0
 obtain ⟨n1,y1,h1⟩:=hp 1 29 7 rfl
 obtain ⟨s1,c1,r1⟩:=Lt _ _ _ _ _ _ _ _ h1
 obtain ⟨n2,y2,h2⟩:=hp 2 29 8 rfl
 obtain ⟨s2,c2,r2⟩:=Lt _ _ _ _ _ _ _ _ h2
 obtain ⟨n3,y3,h3⟩:=hp 3 3 9 rfl
 obtain ⟨s3,c3,r3⟩:=yg _ _ _ _ _ _ _ _ h3
 obtain ⟨n4,y4,h4⟩:=hp 4 30 10 rfl
 obtain ⟨s4,c4,r4⟩:=Ng _ _ _ _ _ _ _ _ h4
 refine ⟨⟨s0,s1,s2,s3,s4⟩,?_,⟨r0,r1,r2,r3,r4⟩⟩
 have e4:=gI (hl.trans Ni) (by rw [M3]) c4
 have e3:=df c3 (m:=10) (by rw [yj]) e4
 have e2:=df c2 (m:=9) (by rw [LB]) e3
 have e1:=df c1 (m:=8) (by rw [LB]) e2
 have e0:=df c0 (m:=7) (by rw [Ln]) e1
 exact e0
theorem we:ownKnob Tryz.prog.godebug=none:=by kernel_rfl
theorem vg:laidOutB Tryz.prog=true:=by kernel_rfl
theorem sR (os:Os) (started:os.Started) (H:Type) (enc:TypeId×Value→H):
 ReturnsInHanded {} Tryz.checked os 3 .any (fun w args=>(Rows.raceRanksSpec.pre enc Tryz.prog Tryz.f3 [] false w args∧laidMetH Tryz.prog [("kreisel/race.table",Rows.laid_kreisel_race_table)] w)∧sizedMet enc Tryz.prog Tryz.f3 (OpenSpec.ofChange Rows.raceRanksSpec) false w args) (Rows.raceRanksSpec.post enc Tryz.prog Tryz.f3 false true false false):=by
 refine returnsInHanded_of_change_and (C:=Tryz.checked) (X:=(fun w _=>laidMetH Tryz.prog [("kreisel/race.table",Rows.laid_kreisel_race_table)] w)) (fun _ _ _ hh h=>h.of_heap hh) we started kr Tryz.func3
  (ChangeSpec.witness_shaped (enc:=enc) (C:=Tryz.checked) (os:=os) (X:=(fun w _=>laidMetH Tryz.prog [("kreisel/race.table",Rows.laid_kreisel_race_table)] w)) false (World.doorLaid Tryz.prog 400 os) #[.agg #[(vS none 0 0),(vI 0),(vS none 0 0),(vS none 0 0),(vI 0),(vI 0),(vI 0),(vS none 0 0),(vS none 0 0),(vI 0),(vS none 0 0)],vI 0,vI 0] 8 rfl (World.shaped_of_RefB kr kr) kr kr kr (AT os _)) ?_
 intro W base args ds gs before hval0 hW _ _ hL _
 have hval: ∀ (j:Nat) t v,Tryz.f3.params[j]? =some t→args[j]? =some v→Value.okWide Tryz.prog W .any base t v:=hval0
 have hW':=hW
 obtain ⟨p,q,hA0,hV,rfl,hfz,hnd⟩:=hW
 have hA:DataW.TrodAll enc Tryz.prog W 0 (fun _=>true) true Tryz.f3.params.toList args.toList ds p:=hA0
 have hA1:=hA
 rw [Tryz.params3] at hA hval
 obtain ⟨v0,vs0,d0,ds0,p0,q0,hargs,rfl,rfl,h0,r0⟩:=trodAll_cons hA
 obtain ⟨v1,vs1,d1,ds1,p1,q1,rfl,rfl,rfl,h1,r1⟩:=trodAll_cons r0
 obtain ⟨v2,vs2,d2,ds2,p2,q2,rfl,rfl,rfl,h2,r2⟩:=trodAll_cons r1
 obtain ⟨rfl,rfl,rfl⟩:=trodAll_nil r2
 obtain rfl:args= #[v0,v1,v2]:=by cases args; simp_all
 obtain ⟨rfl,rfl⟩:=trodVars_none hV
 obtain ⟨s0,rfl,R0⟩:=AZ MA MY (hval 0 32 v0 rfl rfl) h0
 obtain ⟨s1,rfl,R1⟩:=Cn (k:= .i64) oZ (hval 1 3 v1 rfl rfl) h1
 obtain ⟨s2,rfl,R2⟩:=Cn (k:= .i64) oZ (hval 2 3 v2 rfl rfl) h2
 simp only [List.append_nil] at hW' hA1
 have htab:=wm hL
 obtain ⟨r,az,ha,kA,kC,cA,cC,bA,bC,slA,slC,drA,drC,heA,heC,rfl,hraw,hm8⟩:=CE (R1:=Ex) (R2:=Ek) (R3:=GG) (R4:=Fy) (R5:=wP) (R6:=JI) (R7:=JK) (R8:=Ei) R0.aD.aH.kl (fun x hx=>hx.iy) R0.aD.aj (fun x hx=>hx.aR) R0.aD.ab R0.aF R0.cG R0.ay (fun x hx=>hx) (fun x hx=>hx.bP.ag)
 have hrun:=(zg r kA kC az cA cC bA bC slA slC drA drC ha heA heC s1 s2 hraw).run W (by intro A hA; simp only [dZ,List.not_mem_nil,or_false] at hA; rcases hA with rfl|rfl|rfl|rfl|rfl|rfl|rfl|rfl|rfl; exact htab; exact hm8.1; exact hm8.2.1; exact hm8.2.2.1; exact hm8.2.2.2.1; exact hm8.2.2.2.2.1; exact hm8.2.2.2.2.2.1; exact hm8.2.2.2.2.2.2.1; exact hm8.2.2.2.2.2.2.2)
 refine (hrun).mono fun e W' ⟨he,hk⟩=>?_
 subst he
 exact ⟨_,rfl,E8 vg hW' hA1 rfl rfl kr hk.below kr NU⟩
theorem tY:Rows.RaceRanksSaid:=
 OpenClaim.holds_of_wide 3 Tryz.f3 rfl rfl rfl rfl rfl rfl rfl ⟨rfl,rfl,rfl,rfl,rfl⟩ rfl rfl rfl rfl rfl kr Tryz.func3 sM
  (of_decide_eq_true kr) (by unfold Func.isWrapper; first|(rw [if_pos (by decide+kernel)]; kernel_rfl)|(rw [if_neg (by decide+kernel)]; exact ⟨rfl,rfl⟩))
  (fun os started H enc _=>sR os started H enc)
/-- the statement -/
theorem raceRanks_said:Rows.RaceRanksCardSaid:=
 Claim7.holds_tied_plain_at .later [] [.funcsDeep] true (true,"981a7e6aa00b04bbbf7562520f02155a1be509dd9d233787eb37c6cf32ecaf8a") true
  tY (fun _ h=>by cases h) kr (fun _ h=>by cases h) raceRanks_row_tie rfl ⟨rfl,rfl⟩ kr rfl
  (fun f fn hf hfn=>by
   obtain rfl:f=3:=Option.some.inj ((show Tryz.prog.funcNamed "kreisel/kreisellaw06.RaceRanks"=some 3 by kernel_rfl).symm.trans hf) |>.symm
   obtain rfl:fn=Tryz.f3:=(Option.some.inj (Tryz.func3.symm.trans hfn)).symm
   exact ⟨kr,fun j t ht=>by
    rw [Tryz.params3] at ht
    have hm:t∈([32,3,3]:List Nat):=by simpa using Array.mem_of_getElem? ht
    have hall:(([32,3,3]:List Nat).all fun u=> !Tryz.prog.wantsStandIn u)=true:=by kernel_rfl
    exact (show Tryz.prog.wantsStandIn t=false by simpa using List.all_eq_true.1 hall t hm)⟩)
  kr
#print axioms raceRanks_said
end
end Go.Proofs.YtcoejkiaokbmpaaGreatDoor
