/-
 The statement raceRanks_said, part 6 of 8: V8, Wh2, Rc2, Rc3, Rc4, Rs3, Rs4, Rs6, Rs7, Rs8, RkB, RaB, RtB, Rp0, Rp1, Rp2, Rt1, Rr1, B7.
 Conditions: none.
-/
import Derived.Test.YtcoejkiaokbmpaaGreatDoorQa1
import Derived.Test.YtcoejkiaokbmpaaGreatDoorQa2
import Derived.Test.YtcoejkiaokbmpaaGreatDoorQa3
import Derived.Test.YtcoejkiaokbmpaaGreatDoorQa4
import Derived.Test.YtcoejkiaokbmpaaGreatDoorQa5
namespace Go.Proofs.YtcoejkiaokbmpaaGreatDoor
set_option maxRecDepth 100000
set_option maxHeartbeats 4000000
set_option linter.unusedVariables false
section
open Go.RowKit
theorem Hn (l:aV) (kA:OA) (kC:Nat) (az:List RA) (cA:OA) (cC:Nat) (bA:OA) (bC:Nat) (r:cq) (sgA:OA) (sgC:Nat) (f:Value) (X:aq) (me:Int) (gm:Nat) (hf:Ev Tryz.prog f [] [X] (.int .i64 me)) (hin:eN l az) (hsl:r.ag.length≤1000000):
 oY Tryz.prog 205 [(vA (cE.cells (jx l kA kC cA cC bA bC))),(vA (eE.cells (ke r sgA sgC))),(vS (some ⟨gm,0,none⟩) 1 1)] [(rd kA l.aH.length 9 (l.aH.map ah.cells)),(rd cA l.aj.length 2 (List.zipWith al.cells l.aj az)),(du (aU al.fK l.aj az)),(rd bA l.ab.length 4 (l.ab.map bx.cells)),(rd sgA r.ag.length 2 (r.ag.map aM.cells)),X,(br gm 268 [f])] (fun (x:Bool×Int×Nat×(OA)×Nat×(OA)×Nat×(List Nat)×(List FM)×(List Nat)×(OA)×Nat×(List FM)×(List Nat)×(OA)×Nat)=>bif x.1 then (vT [(Value.pointer (some ⟨x.2.2.1,0,none⟩)),(vI 0)]) else (vT [(Value.pointer none),(vI x.2.1)])) (fun (x:Bool×Int×Nat×(OA)×Nat×(OA)×Nat×(List Nat)×(List FM)×(List Nat)×(OA)×Nat×(List FM)×(List Nat)×(OA)×Nat)=>(x.1=true→(dN l r me=0∧vU (b_ l r) x.2.2.2.2.2.2.2.2.1∧sU (b_ l r) x.2.2.2.2.2.2.2.2.2.2.2.2.1∧x.2.2.2.2.2.2.2.2.2.1.length=x.2.2.2.2.2.2.2.2.1.length∧x.2.2.2.2.2.2.2.2.2.2.2.2.2.1.length=x.2.2.2.2.2.2.2.2.2.2.2.2.1.length∧x.2.2.2.2.2.2.2.1.length=(dT l r.ag r.ag.length).length))∧(x.1=false→(x.2.1=dN l r me∧ ¬ dN l r me=0))) (fun (x:Bool×Int×Nat×(OA)×Nat×(OA)×Nat×(List Nat)×(List FM)×(List Nat)×(OA)×Nat×(List FM)×(List Nat)×(OA)×Nat)=>bif x.1 then [(br x.2.2.1 276 (bK.cells (bK.mk (jx l kA kC cA cC bA bC) (ke r sgA sgC) (bB.mk x.2.2.2.1 ((bS l l.ab.length).length) x.2.2.2.2.1) (bB.mk x.2.2.2.2.2.1 ((dT l r.ag r.ag.length).length) x.2.2.2.2.2.2.1) (bB.mk x.2.2.2.2.2.2.2.2.2.2.1 x.2.2.2.2.2.2.2.2.1.length x.2.2.2.2.2.2.2.2.2.2.2.1) (bB.mk x.2.2.2.2.2.2.2.2.2.2.2.2.2.2.1 x.2.2.2.2.2.2.2.2.2.2.2.2.1.length x.2.2.2.2.2.2.2.2.2.2.2.2.2.2.2)))),(own x.2.2.2.1 x.2.2.2.2.1 3 1 ((bS l l.ab.length).map iC)),(own x.2.2.2.2.2.1 x.2.2.2.2.2.2.1 86 1 (List.zipWith eV (dT l r.ag r.ag.length) x.2.2.2.2.2.2.2.1)),(bV (aU n8 (dT l r.ag r.ag.length) x.2.2.2.2.2.2.2.1)),(own x.2.2.2.2.2.2.2.2.2.2.1 x.2.2.2.2.2.2.2.2.2.2.2.1 280 1 (List.zipWith eV x.2.2.2.2.2.2.2.2.1 x.2.2.2.2.2.2.2.2.2.1)),(bV (aU lx x.2.2.2.2.2.2.2.2.1 x.2.2.2.2.2.2.2.2.2.1)),(own x.2.2.2.2.2.2.2.2.2.2.2.2.2.2.1 x.2.2.2.2.2.2.2.2.2.2.2.2.2.2.2 280 1 (List.zipWith eV x.2.2.2.2.2.2.2.2.2.2.2.2.1 x.2.2.2.2.2.2.2.2.2.2.2.2.2.1)),(bV (aU lx x.2.2.2.2.2.2.2.2.2.2.2.2.1 x.2.2.2.2.2.2.2.2.2.2.2.2.2.1))] else []):=by
 have htk:=hin.r_
 have hck:=hin.se
 have has:=hin.qa
 have hbm:=hin.sb
 have hsd:=hin.side
 refine ff kr Tryz.func205 rfl rfl fun w0 Q hQ hN=>?_
 try dsimp only
 refine WS fun _ hK1=>fP rfl fun b2=>fP rfl fun b3=>rP 2 [] mn ?_
 refine RK hK1<|ai fun _ hK4=>WS fun _ hK5=>rP 1 [] (mc 1 rfl mn) ?_
 refine rS (CL (yM l kA kC az cA cC bA bC hin) (bh [2,3,4,5]) rfl)<|rP 1 [] mn ?_
 refine RK hK5<|WS fun _ hK6=>rP 2 [] mn ?_
 refine RK hK6 ?_
 refine cP rfl (bk fun h21=>?_) (bj fun h21=>?_)
 ·refine WS fun _ hK7=>?_
  refine rP 3 [] mn ?_
  refine RK hK7<|an ?_
  refine hQ _ _ _ (aZ (vs:=[(Value.pointer none),(vI (dh l))]) ⟨rfl,rfl,trivial⟩ fun w hs=>ej (false,(dh l),0,none,0,none,0,[],[],[],none,0,[],[],none,0) [] ?_ ?_ rfl rfl (by first|rfl|(show List.all _ _=true; simp only [cond_true,cg,List.all_nil,nG,pD,Bool.and_true]; rfl)) hs)
  ·rfl
  ·refine ⟨fun q=>Bool.noConfusion (show false=true from q),fun _=>?_⟩; first|(have e:=eQ (r:=r) (me:=me) h21; exact ⟨e.symm,fun q=>h21 (e.symm.trans q)⟩)|(have e:=db (me:=me) h10 (fun q:ed l r=>by have q1:=q.time; have q2:=q.len; omega); exact ⟨e.symm,fun q=>absurd (e.symm.trans q) dc⟩)|(have e:=db (me:=me) h10 (lE hx (by unfold ib iN; omega)); exact ⟨e.symm,fun q=>absurd (e.symm.trans q) dc⟩)|(have e:=gd h10 hro h156; exact ⟨e.symm,fun q=>h156 (e.symm.trans q)⟩)|(have e:=fE (me:=me) h10 hro (by first|rfl|exact h156) (show gR (b_ l r)=[] from fX (Int.natCast_eq_zero.1 h164)); exact ⟨e.symm,fun q=>absurd (e.symm.trans q) dc⟩)
 refine WK hK4<|ai fun _ hK8=>WS fun _ hK9=>?_
 have h10:dh l=0:=h21
 obtain ⟨htr,hok⟩:=gr h10
 have hhd:=hok.head
 unfold dU at hhd
 refine rP 2 [] (mc 0 rfl mn) ?_
 refine fc (xs:=[.tmp 24]) (cs:=[(vI r.Start)]) rfl dB lT rfl rfl rfl rfl (by simp [Value.cells]) rfl rfl fun b10=>rS (CL (eu.eq (iz 0 86400000 ([r.Start]) (some ⟨b10,0,none⟩) 1 sd) dx) (bq (a_ 0 rfl rfl (by simp [bT]) rfl)<|aT) rfl)<|rP 2 [] mn ?_
 refine c8 (t:=28) rfl (bk fun h28=>?_) (bj fun h28=>?_)
 ·refine rP 14 [] mn ?_
  refine RK hK9<|aI rfl<|WS fun _ hK11=>rP 2 [] mn ?_
  refine RK hK11<|an ?_
  refine hQ _ _ _ (aZ (vs:=[(Value.pointer none),(vI 51)]) ⟨rfl,rfl,trivial⟩ fun w hs=>ej (false,51,0,none,0,none,0,[],[],[],none,0,[],[],none,0) [] ?_ ?_ rfl rfl (by first|rfl|(show List.all _ _=true; simp only [cond_true,cg,List.all_nil,nG,pD,Bool.and_true]; rfl)) hs)
  ·rfl
  ·refine ⟨fun q=>Bool.noConfusion (show false=true from q),fun _=>?_⟩; first|(have e:=eQ (r:=r) (me:=me) h21; exact ⟨e.symm,fun q=>h21 (e.symm.trans q)⟩)|(have e:=db (me:=me) h10 (fun q:ed l r=>by have q1:=q.time; have q2:=q.len; omega); exact ⟨e.symm,fun q=>absurd (e.symm.trans q) dc⟩)|(have e:=db (me:=me) h10 (lE hx (by unfold ib iN; omega)); exact ⟨e.symm,fun q=>absurd (e.symm.trans q) dc⟩)|(have e:=gd h10 hro h156; exact ⟨e.symm,fun q=>h156 (e.symm.trans q)⟩)|(have e:=fE (me:=me) h10 hro (by first|rfl|exact h156) (show gR (b_ l r)=[] from fX (Int.natCast_eq_zero.1 h164)); exact ⟨e.symm,fun q=>absurd (e.symm.trans q) dc⟩)
 refine rP 4 [] (mc 1 rfl mn) ?_
 refine fc (xs:=[.tmp 32]) (cs:=[(vI r.fR)]) rfl dB lT rfl rfl rfl rfl (by simp [Value.cells]) rfl rfl fun b12=>rS (CL (eu.eq (iz r.Start 86400000 ([r.fR]) (some ⟨b12,0,none⟩) 1 sd) dx) (bq (a_ 0 rfl rfl (by simp [bT]) rfl)<|aT) rfl)<|rP 3 [] mn ?_
 refine c8 (t:=37) rfl (bk fun h37=>?_) (bj fun h37=>?_)
 ·refine rP 5 [] mn ?_
  refine RK hK9<|aI rfl<|WS fun _ hK13=>rP 2 [] mn ?_
  refine RK hK13<|an ?_
  refine hQ _ _ _ (aZ (vs:=[(Value.pointer none),(vI 51)]) ⟨rfl,rfl,trivial⟩ fun w hs=>ej (false,51,0,none,0,none,0,[],[],[],none,0,[],[],none,0) [] ?_ ?_ rfl rfl (by first|rfl|(show List.all _ _=true; simp only [cond_true,cg,List.all_nil,nG,pD,Bool.and_true]; rfl)) hs)
  ·rfl
  ·refine ⟨fun q=>Bool.noConfusion (show false=true from q),fun _=>?_⟩; first|(have e:=eQ (r:=r) (me:=me) h21; exact ⟨e.symm,fun q=>h21 (e.symm.trans q)⟩)|(have e:=db (me:=me) h10 (fun q:ed l r=>by have q1:=q.time; have q2:=q.len; omega); exact ⟨e.symm,fun q=>absurd (e.symm.trans q) dc⟩)|(have e:=db (me:=me) h10 (lE hx (by unfold ib iN; omega)); exact ⟨e.symm,fun q=>absurd (e.symm.trans q) dc⟩)|(have e:=gd h10 hro h156; exact ⟨e.symm,fun q=>h156 (e.symm.trans q)⟩)|(have e:=fE (me:=me) h10 hro (by first|rfl|exact h156) (show gR (b_ l r)=[] from fX (Int.natCast_eq_zero.1 h164)); exact ⟨e.symm,fun q=>absurd (e.symm.trans q) dc⟩)
 refine rP 5 [] (mc 2 rfl mn) ?_
 refine RK hK9 ?_
 refine cP rfl (aP fun h42=>?_) (aQ fun h42=>?_)
 ·refine WS fun _ hK14=>?_
  refine rP 2 [] mn ?_
  refine RK hK14<|an ?_
  refine hQ _ _ _ (aZ (vs:=[(Value.pointer none),(vI 51)]) ⟨rfl,rfl,trivial⟩ fun w hs=>ej (false,51,0,none,0,none,0,[],[],[],none,0,[],[],none,0) [] ?_ ?_ rfl rfl (by first|rfl|(show List.all _ _=true; simp only [cond_true,cg,List.all_nil,nG,pD,Bool.and_true]; rfl)) hs)
  ·rfl
  ·refine ⟨fun q=>Bool.noConfusion (show false=true from q),fun _=>?_⟩; first|(have e:=eQ (r:=r) (me:=me) h21; exact ⟨e.symm,fun q=>h21 (e.symm.trans q)⟩)|(have e:=db (me:=me) h10 (fun q:ed l r=>by have q1:=q.time; have q2:=q.len; omega); exact ⟨e.symm,fun q=>absurd (e.symm.trans q) dc⟩)|(have e:=db (me:=me) h10 (lE hx (by unfold ib iN; omega)); exact ⟨e.symm,fun q=>absurd (e.symm.trans q) dc⟩)|(have e:=gd h10 hro h156; exact ⟨e.symm,fun q=>h156 (e.symm.trans q)⟩)|(have e:=fE (me:=me) h10 hro (by first|rfl|exact h156) (show gR (b_ l r)=[] from fX (Int.natCast_eq_zero.1 h164)); exact ⟨e.symm,fun q=>absurd (e.symm.trans q) dc⟩)
 refine WK hK8<|WS fun _ hK15=>rS (SX (bg (xs:=[(0,.const (vI (-1)))]) (cs:=(aM.cells (aM.mk (-1) 0))) rfl rfl (bf Mn rfl)) rfl rfl)<|AL rfl EU fun b16=>f_ rfl uU rfl<|RK hK15<|ai fun _ hK17=>ep cD [5,6,7,8] [] [] [0,1,2,3,4,5,6,7,8,9,10,11] [] rfl rfl rfl rfl rfl<|eS rfl (LW 4 rfl bJ rfl rfl)<|eS rfl (LW 3 rfl bJ rfl rfl) ?_
 refine eS rfl (FA 3 rfl gp rfl)<|eS rfl (L1 (vS bA l.ab.length bC) 4 rfl bJ rfl rfl)<|eS rfl (LN rfl Mc)<|fp rfl<|cr rfl fun T18 hT18=>tR (n:=l.ab.length) (es:=(List.map oC (List.replicate l.ab.length (none:Option Nat)))) rfl rfl rfl KO om om (by simp only [maxLen]; omega) (by rw [List.map_replicate]; rfl) rfl fun b19=>?_
 try dsimp only
 refine aB (hT18 _ _ (aG [1,2,3,4,5,6,7,8,9,10,11,12]) ?_)
 refine cr rfl fun T20 hT20=>rS (SX (bg (xs:=[(0,.tmp 44),(1,.tmp 45),(3,.tmp 49)]) (cs:=(bK.cells (bK.mk (jx l kA kC cA cC bA bC) (ke r sgA sgC) (bB.mk none 0 0) (bB.mk (some ⟨b19,0,none⟩) l.ab.length l.ab.length) (bB.mk none 0 0) (bB.mk none 0 0)))) rfl rfl (bf LL rfl)) rfl rfl) ?_
 refine aB (hT20 _ _ (aG [1,2,3,4,5,6,7,8,9,10,11,12]) ?_)
 refine cr rfl fun T21 hT21=>fP rfl fun b22=>?_
 refine aB (hT21 _ _ (aG [2,3,4,5,6,7,8,9,10,11,12,13]) ?_)
 refine cr rfl fun T23 hT23=>rS (AG rfl) ?_
 refine aB (hT23 _ _ (aG [2,3,4,5,6,7,8,9,10,11,12,13]) ?_)
 refine gh rfl<|KK hK17<|ai fun _ hK24=>WS fun _ hK25=>rP 4 [] (mc 6 rfl mn) ?_
 refine RK hK25<|av ?_
 rw [xp]
 refine fI 3 1<|sD ?_
 have hinit:(0≤l.ab.length)∧(([]:List Nat).length=0):=by exact ⟨Nat.zero_le _,rfl⟩
 refine cp (ι:={z:Nat×(OA)×Nat×(List Nat) // (z.1≤l.ab.length)∧(z.2.2.2.length=z.1)}) (fun z=>[(2,(vS (some ⟨gm,0,none⟩) 1 1)),(3,(vP b2)),(4,(vP b3)),(6,(Value.pointer none)),(7,(vI 0)),(9,(vP b16)),(10,(vP b22)),(54,(vI ((l.ab.length:Nat):Int))),(55,(vI ((z.1.1:Nat):Int)))]) (fun z=>[(bV (aU n8 (List.replicate z.1.1 ([]:TM)) z.1.2.2.2)),(own z.1.2.1 z.1.2.2.1 3 1 ((bS l z.1.1).map iC)),(br b22 276 (bK.cells (bK.mk (jx l kA kC cA cC bA bC) (ke r sgA sgC) (bB.mk z.1.2.1 ((bS l z.1.1).length) z.1.2.2.1) (bB.mk (some ⟨b19,0,none⟩) l.ab.length l.ab.length) (bB.mk none 0 0) (bB.mk none 0 0)))),(own (some ⟨b19,0,none⟩) l.ab.length 86 1 (List.map oC (dL z.1.2.2.2 l.ab.length))),(br b16 165 (aM.cells (aM.mk (-1) 0))),(br b3 74 (eE.cells (ke r sgA sgC))),(br b2 28 (cE.cells (jx l kA kC cA cC bA bC))),(rd kA l.aH.length 9 (l.aH.map ah.cells)).ro,(rd cA l.aj.length 2 (List.zipWith al.cells l.aj az)).ro,(du (aU al.fK l.aj az)).ro,(rd bA l.ab.length 4 (l.ab.map bx.cells)).ro,(rd sgA r.ag.length 2 (r.ag.map aM.cells)).ro,X.ro,(br gm 268 [f]).ro]) (fun z=>l.ab.length-z.1.1) ⟨(0,none,0,([]:List Nat)),hinit⟩ (aL rfl) (aG [0,1,2,3,4,7,8,9,10,11,12,13,14,15]) ?_
 clear hinit
 rintro ⟨⟨b,a,c,fb⟩,⟨hl9_0,hl9_1⟩⟩ J26 hJ26
 try dsimp only at hl9_0 hl9_1
 try dsimp only
 have hlf:(dL fb l.ab.length).length=l.ab.length:=pQ om
 refine WS fun _ hK27=>rP 1 [] mn ?_
 refine RK hK27<|ai fun _ hK28=>?_
 refine cP rfl (aP fun h29=>?_) (aQ fun h29=>?_)
 ·refine WK hK28 ?_
  refine ai fun _ hK30=>av<|WS fun _ hK31=>rP 2 [] mn ?_
  refine RK hK31<|ai fun _ hK32=>ep cD [12,13,16] [4] [0] [0,3,4,5,6,7,8,9,10,11,12,13] [0,1,2,3,4,5,6,7,8,9,10,11,12,13] rfl rfl rfl rfl rfl<|eS rfl (MV rfl)<|eS rfl (MV rfl)<|eS rfl (SX (cf rfl rfl) rfl rfl)<|eS rfl (FA 10 rfl gp rfl)<|fS rfl (L1 (vS a ((bS l b).length) c) 2 rfl bJ rfl rfl)<|eS rfl (LW 4 rfl bJ rfl rfl)<|eS rfl (MV rfl) ?_
  refine eS rfl (CL (IL l kA kC az cA cC bA bC ((b:Nat):Int) hin sd (by exact hok.lJ) sd) (bh [5,6,7,8]) rfl) ?_
  have hwb:=Bz htr hok.lJ b
  have hwy:=hok.wc b om
  simp only [Int.toNat_natCast]
  refine eS rfl (BI rfl (Cf ⟨om,om⟩))<|eS rfl (FA 1 rfl gp rfl)<|eS rfl (L1 (vI l.lX) 4 rfl bJ rfl rfl)<|eS rfl (CL (Iy (1000*(mh l ((b:Nat):Int).toNat)) l.lX sd sd) (aT) rfl)<|eS rfl (SX (cf rfl rfl) rfl rfl)<|eS rfl (FA 10 rfl gp rfl)<|fp rfl<|l8 rfl fun T33 hT33=>fc (xs:=[.tmp 69]) (cs:=[(vI (n7 (1000*(mh l ((b:Nat):Int).toNat)) l.lX))]) rfl dB lT rfl rfl rfl rfl (by simp [Value.cells]) rfl rfl fun b34=>?_
  refine aB (hT33 _ _ (aG [1,4,5,6,7,8,9,10,11,12,13,14]) (aG [1,2,3,4,5,6,7,8,9,10,11,12,13,14]) ?_)
  refine cr rfl fun T35 hT35=>er (es2:=(List.map iC (bS l (b+1)))) (m':=(bS l (b+1)).length) 2 rfl rfl rfl qe rfl rfl (by simp [dQ]) (a_ (es:=List.map iC [(n7 (1000*(mh l ((b:Nat):Int).toNat)) l.lX)]) 0 rfl rfl (by simp [bT]) rfl) (kK _) (by have:=dQ (l:=l) (n:=b); first|omega|(simp; omega)) (by simp only [maxLen,dQ]; omega) (by rw [tD]; simp [dE]) (by simp [dQ]) rfl fun a36 c37=>?_
  try dsimp only
  refine aB (hT35 _ _ (aG [1,4,5,6,7,8,9,10,11,12,13,14]) ?_)
  refine cr rfl fun T38 hT38=>Jo (bK.cells (bK.mk (jx l kA kC cA cC bA bC) (ke r sgA sgC) (bB.mk a36 ((bS l (b+1)).length) c37) (bB.mk (some ⟨b19,0,none⟩) l.ab.length l.ab.length) (bB.mk none 0 0) (bB.mk none 0 0))) rfl Ho rfl rfl ?_
  refine aB (hT38 _ _ (aG [1,4,5,6,7,8,9,10,11,12,13,14]) ?_)
  refine gh rfl<|KK hK32<|ak<|rP 1 [] mn ?_
  refine rS (SX (cf rfl rfl) rfl rfl)<|rP 3 [] (mc 3 rfl mn) ?_
  refine mD (kV:=iV) rfl rfl fun b39=>?_
  try dsimp only
  obtain ⟨x40,hx41⟩:=aO (dL fb l.ab.length) b om
  have hx41m:(List.map oC (dL fb l.ab.length))[b]? =some (oC x40):=by rw [fq,hx41]; rfl
  refine rS (IA b rfl (aK (n:=l.ab.length) 5 rfl sq) BX dc om om) ?_
  have hb42:((dL fb l.ab.length).set b (some b39))=(dL (fb++[b39]) l.ab.length):=by exact s_ om om
  refine hZ (k:=b) (o:=0) (vs:=[(Value.map (some b39))]) (es':=(List.map oC (dL (fb++[b39]) l.ab.length))) (C':=[_,_,_,_,_,(own (some ⟨b19,0,none⟩) l.ab.length 86 1 (List.map oC (dL (fb++[b39]) l.ab.length))),_,_,_,_,_,_,_,_,_,_]) 5 rfl rfl rfl Jh rfl rfl rfl rfl hx41m rfl dc (by exact (List.map_set (f:=oC) (l:=(dL fb l.ab.length)) (i:=b) (a:=(some b39))).symm.trans (congrArg _ hb42)) rfl<|aB<|ax<|KK hK30<|ak<|rP 2 [] mn ?_
  refine aB<|zI (X':=aU n8 (List.replicate (b+1) ([]:TM)) (fb++[b39])) 2 0 rfl rfl (H2 hl9_1) ?_
  try dsimp only
  have hb43:(vI (((b+1):Nat):Int))=(vI (((b:Nat):Int)+1)):=by exact cI om
  refine aN (hJ26 ⟨((b+1),a36,c37,(fb++[b39])),⟨om,by simp; omega⟩⟩ _ _ _ rfl os (cv 8<|aY rfl hb43<|dK.nil _) (aG [0,2,3,4,5,6,7,8,9,10,11,12,13,14]))
 refine bp<|ae<|ae<|au<|KK hK24<|ai fun _ hK44=>WS fun _ hK45=>rP 4 [] (mc 5 rfl mn) ?_
 refine RK hK45<|av ?_
 rw [show (List.replicate b ([]:TM))=dT l r.ag 0 from by rw [AH,show b=l.ab.length by omega]]
 rw [show bS l b=bS l l.ab.length from by rw [show b=l.ab.length by omega]]
 have hinit:(0≤r.ag.length)∧(pq l r.ag 0):=by exact ⟨Nat.zero_le _,w6⟩
 refine cp (ι:={z:Nat // (z≤r.ag.length)∧(pq l r.ag z)}) (fun z=>[(2,(vS (some ⟨gm,0,none⟩) 1 1)),(3,(vP b2)),(4,(vP b3)),(6,(Value.pointer none)),(7,(vI 0)),(9,(vP b16)),(10,(vP b22)),(83,(vS sgA r.ag.length sgC)),(84,(vI ((r.ag.length:Nat):Int))),(85,(vI ((z.1:Nat):Int)))]) (fun z=>[(bV (aU n8 (dT l r.ag z.1) fb)),(own a c 3 1 ((bS l l.ab.length).map iC)),(br b22 276 (bK.cells (bK.mk (jx l kA kC cA cC bA bC) (ke r sgA sgC) (bB.mk a ((bS l l.ab.length).length) c) (bB.mk (some ⟨b19,0,none⟩) l.ab.length l.ab.length) (bB.mk none 0 0) (bB.mk none 0 0)))),(own (some ⟨b19,0,none⟩) l.ab.length 86 1 (List.map oC (dL fb l.ab.length))),(br b16 165 (aM.cells (nX r.ag z.1))),(br b3 74 (eE.cells (ke r sgA sgC))),(br b2 28 (cE.cells (jx l kA kC cA cC bA bC))),(rd kA l.aH.length 9 (l.aH.map ah.cells)).ro,(rd cA l.aj.length 2 (List.zipWith al.cells l.aj az)).ro,(du (aU al.fK l.aj az)).ro,(rd bA l.ab.length 4 (l.ab.map bx.cells)).ro,(rd sgA r.ag.length 2 (r.ag.map aM.cells)).ro,X.ro,(br gm 268 [f]).ro]) (fun z=>r.ag.length-z.1) ⟨0,hinit⟩ (aL rfl) (aG [0,1,2,3,4,5,6,7,8,9,10,11,12,13]) ?_
 clear hinit
 rintro ⟨i,⟨hl15_0,hl15_1⟩⟩ J46 hJ46
 try dsimp only
 have htlen:(dT l r.ag i).length=l.ab.length:=iR
 have hlf:(dL fb l.ab.length).length=l.ab.length:=pQ om
 refine WS fun _ hK47=>rP 1 [] mn ?_
 refine RK hK47<|ai fun _ hK48=>?_
 refine bM rfl (aQ fun h49=>?_) (aP fun h49=>?_)
 ·refine bp ?_
  refine ae<|ae<|au<|KK hK44<|ai fun _ hK79=>ai fun _ hK80=>?_
  have hro:ed l r:=kB om om hl15_1 om
  refine ak<|rP 3 [] mn ?_
  refine RK hK80<|av<|kz 2<|ek fun R81 hR81=>WS fun _ hK82=>rS (SX (cb (r:= .bool true) rfl rfl rfl gH) rfl rfl)<|RK hK82<|ai fun _ hK83=>aI rfl<|WK hK83 ?_
  refine ai fun _ hK84=>av<|WS fun _ hK85=>rS (MF 0 0 rfl IQ rfl dc rfl)<|rP 2 [] (mr 13 rfl mn) ?_
  refine RK hK85<|WS fun _ hK86=>rP 1 [] mn ?_
  refine rS (SX (sr rfl rfl rfl (hf) (bh [12])) rfl rfl)<|rP 1 [] mn ?_
  refine RK hK86<|WS fun _ hK87=>rP 2 [] mn ?_
  refine RK hK87 ?_
  refine cP rfl (bk fun h156=>?_) (bj fun h156=>?_)
  ·refine WS fun _ hK88=>?_
   refine rP 3 [] mn ?_
   refine RK hK88<|an ?_
   refine hQ _ _ _ (aZ (vs:=[(Value.pointer none),(vI me)]) ⟨rfl,rfl,trivial⟩ fun w hs=>ej (false,me,0,none,0,none,0,[],[],[],none,0,[],[],none,0) [] ?_ ?_ rfl rfl (by first|rfl|(show List.all _ _=true; simp only [cond_true,cg,List.all_nil,nG,pD,Bool.and_true]; rfl)) hs)
   ·rfl
   ·refine ⟨fun q=>Bool.noConfusion (show false=true from q),fun _=>?_⟩; first|(have e:=eQ (r:=r) (me:=me) h21; exact ⟨e.symm,fun q=>h21 (e.symm.trans q)⟩)|(have e:=db (me:=me) h10 (fun q:ed l r=>by have q1:=q.time; have q2:=q.len; omega); exact ⟨e.symm,fun q=>absurd (e.symm.trans q) dc⟩)|(have e:=db (me:=me) h10 (lE hx (by unfold ib iN; omega)); exact ⟨e.symm,fun q=>absurd (e.symm.trans q) dc⟩)|(have e:=gd h10 hro h156; exact ⟨e.symm,fun q=>h156 (e.symm.trans q)⟩)|(have e:=fE (me:=me) h10 hro (by first|rfl|exact h156) (show gR (b_ l r)=[] from fX (Int.natCast_eq_zero.1 h164)); exact ⟨e.symm,fun q=>absurd (e.symm.trans q) dc⟩)
  refine bZ<|ax<|KK hK84<|ak<|rS (SX (cb (r:= .int .i64 1) rfl rfl rfl (g8 ⟨dc,dc⟩)) rfl rfl)<|rP 1 [] mn ?_
  refine RK hR81<|ek fun R89 hR89=>WS fun _ hK90=>rS (SX (cb (r:= .bool false) rfl rfl rfl gH) rfl rfl)<|RK hK90<|ai fun _ hK91=>aW rfl<|bp<|ae<|ae ?_
  refine au<|KK hK79<|ai fun _ hK92=>?_
  rw [show dT l r.ag i=dT l r.ag r.ag.length from by rw [show i=r.ag.length by omega]]
  have htl:(dT l r.ag r.ag.length).length=l.ab.length:=iR
  rw [show (List.map oC (dL fb l.ab.length))=(List.zipWith eV (dT l r.ag r.ag.length) fb) from NA om htl]
  rw [show (br b22 276 (bK.cells (bK.mk (jx l kA kC cA cC bA bC) (ke r sgA sgC) (bB.mk a ((bS l l.ab.length).length) c) (bB.mk (some ⟨b19,0,none⟩) l.ab.length l.ab.length) (bB.mk none 0 0) (bB.mk none 0 0))))=(br b22 276 (bK.cells (bK.mk (jx l kA kC cA cC bA bC) (ke r sgA sgC) (bB.mk a ((bS l l.ab.length).length) c) (bB.mk (some ⟨b19,0,none⟩) ((dT l r.ag r.ag.length).length) l.ab.length) (bB.mk none 0 0) (bB.mk none 0 0)))) from by rw [htl]]
  have hwo:=nM htr hok hro
  have hlel:(bS l l.ab.length).length=l.ab.length:=dQ
  refine ak<|rP 1 [] mn ?_
  refine lF 2 rfl rfl rfl rfl (E5 (jx l kA kC cA cC bA bC) (ke r sgA sgC) (bS l l.ab.length) (dT l r.ag r.ag.length) a c fb (some ⟨b19,0,none⟩) l.ab.length b22 (by exact hwo) (by exact dQ.symm) (by rw [htl]; omega)) rfl (eo 1 rfl rfl (jU sm) (eo 3 rfl rfl (jU (by rw [List.length_zipWith]; omega)) (eo 0 rfl rfl rQ nu))) rfl (fun y101 hfo=>?_)
  obtain ⟨fs93,fb94,fA95,fC96,bs97,bb98,bA99,bC100⟩:=y101
  refine Ha (X:=[(br b22 276 (bK.cells (bK.mk (jx l kA kC cA cC bA bC) (ke r sgA sgC) (bB.mk a ((bS l l.ab.length).length) c) (bB.mk (some ⟨b19,0,none⟩) ((dT l r.ag r.ag.length).length) l.ab.length) (bB.mk fA95 fs93.length fC96) (bB.mk bA99 bs97.length bC100)))),(own fA95 fC96 280 1 (List.zipWith eV fs93 fb94)),(bV (aU lx fs93 fb94)),(own bA99 bC100 280 1 (List.zipWith eV bs97 bb98)),(bV (aU lx bs97 bb98))]) 2 rfl rfl ?_
  try dsimp only
  obtain ⟨hq1,hq2,hq3,hq4⟩:=hfo
  dsimp only at hq1 hq2 hq3 hq4
  refine RK hK92<|ai fun _ hK102=>WS fun _ hK103=>rP 1 [] mn ?_
  refine cX (C6 (jx l kA kC cA cC bA bC) (ke r sgA sgC) (bS l l.ab.length) (dT l r.ag r.ag.length) a c fb (some ⟨b19,0,none⟩) l.ab.length fs93 bs97 fb94 fA95 fC96 bb98 bA99 bC100 b22 (by exact hwo) sd (by exact dQ.symm) (by exact hq1) sd) (bq (aK (n:=(bS l l.ab.length).length) 6 rfl sm)<|bq (aK (n:=(dT l r.ag r.ag.length).length) 7 rfl (by rw [List.length_zipWith]; omega))<|bq (j7 5 rfl vc)<|bq (aK (n:=fs93.length) 1 rfl (by rw [List.length_zipWith]; omega))<|bq (j7 2 rfl vc)<|bq (aK (n:=bs97.length) 3 rfl (by rw [List.length_zipWith]; omega))<|bq (j7 4 rfl vc)<|cw 0 rfl rfl<|aT) rfl fun y104 hy105=>?_
  obtain ⟨a106,c107⟩:=y104
  try dsimp only
  refine rP 2 [] mn ?_
  refine RK hK103 ?_
  refine bM rfl (aQ fun h164=>?_) (aP fun h164=>?_)
  ·refine WK hK102 ?_
   refine WS fun _ hK109=>rP 3 [] mn ?_
   refine RK hK109<|an ?_
   refine hQ _ _ _ (aZ (vs:=[(vP b22),(vI 0)]) ⟨rfl,rfl,trivial⟩ fun w hs=>ej (true,0,b22,a,c,(some ⟨b19,0,none⟩),l.ab.length,fb,fs93,fb94,fA95,fC96,bs97,bb98,bA99,bC100) [1,7,8,6,2,3,4,5] ?_ ?_ rfl rfl (by first|rfl|(show List.all _ _=true; simp only [cond_true,cg,List.all_nil,nG,pD,Bool.and_true]; rfl)) hs)
   ·rfl
   ·exact ⟨fun _=>⟨mo h10 hro (by first|rfl|exact h156) (fun q=>h164 (congrArg (fun z:List Int=>((z.length:Nat):Int)) q)),hq1,hq2,hq3,hq4,dso⟩,fun q=>Bool.noConfusion (show true=false from q)⟩
  refine WS fun _ hK108=>rP 2 [] mn ?_
  refine RK hK108<|an ?_
  refine hQ _ _ _ (aZ (vs:=[(Value.pointer none),(vI 8)]) ⟨rfl,rfl,trivial⟩ fun w hs=>ej (false,8,0,none,0,none,0,[],[],[],none,0,[],[],none,0) [] ?_ ?_ rfl rfl (by first|rfl|(show List.all _ _=true; simp only [cond_true,cg,List.all_nil,nG,pD,Bool.and_true]; rfl)) hs)
  ·rfl
  ·refine ⟨fun q=>Bool.noConfusion (show false=true from q),fun _=>?_⟩; first|(have e:=eQ (r:=r) (me:=me) h21; exact ⟨e.symm,fun q=>h21 (e.symm.trans q)⟩)|(have e:=db (me:=me) h10 (fun q:ed l r=>by have q1:=q.time; have q2:=q.len; omega); exact ⟨e.symm,fun q=>absurd (e.symm.trans q) dc⟩)|(have e:=db (me:=me) h10 (lE hx (by unfold ib iN; omega)); exact ⟨e.symm,fun q=>absurd (e.symm.trans q) dc⟩)|(have e:=gd h10 hro h156; exact ⟨e.symm,fun q=>h156 (e.symm.trans q)⟩)|(have e:=fE (me:=me) h10 hro (by first|rfl|exact h156) (show gR (b_ l r)=[] from fX (Int.natCast_eq_zero.1 h164)); exact ⟨e.symm,fun q=>absurd (e.symm.trans q) dc⟩)
 refine WK hK48<|ai fun _ hK50=>av<|WS fun _ hK51=>rP 1 [] mn ?_
 obtain ⟨x,hx⟩:=aO r.ag i om
 have hxm:=bI aM.cells hx
 refine rS (IA i rfl (aA 11 rfl) A_ dc om om)<|rS (n9 i 0 (aM.cells x) rfl bJ (aA 11 rfl) hxm rfl dc rfl rfl)<|AL rfl EU fun b52=>rP 1 [] mn ?_
 refine f_ rfl uU rfl<|RK hK51<|ai fun _ hK53=>WS fun _ hK54=>rP 6 [0,1] (mc 7 rfl (mc 0 rfl mn)) ?_
 refine fc (xs:=[.tmp 95]) (cs:=[(vI x.fO)]) rfl dB lT rfl rfl rfl rfl (by simp [Value.cells]) rfl rfl fun b55=>rS (CL (eu.eq (iz 0 (((l.ab.length:Nat):Int)-1) ([x.fO]) (some ⟨b55,0,none⟩) 1 sd) dx) (bq (a_ 0 rfl rfl (by simp [bT]) rfl)<|aT) rfl)<|rP 2 [] mn ?_
 refine c8 (t:=99) rfl (bk fun h99=>?_) (bj fun h99=>?_)
 ·refine rP 27 [] mn ?_
  refine RK hK54<|aI rfl<|WS fun _ hK56=>rP 2 [] mn ?_
  refine RK hK56<|an ?_
  refine hQ _ _ _ (aZ (vs:=[(Value.pointer none),(vI 51)]) ⟨rfl,rfl,trivial⟩ fun w hs=>ej (false,51,0,none,0,none,0,[],[],[],none,0,[],[],none,0) [] ?_ ?_ rfl rfl (by first|rfl|(show List.all _ _=true; simp only [cond_true,cg,List.all_nil,nG,pD,Bool.and_true]; rfl)) hs)
  ·rfl
  ·refine ⟨fun q=>Bool.noConfusion (show false=true from q),fun _=>?_⟩; first|(have e:=eQ (r:=r) (me:=me) h21; exact ⟨e.symm,fun q=>h21 (e.symm.trans q)⟩)|(have e:=db (me:=me) h10 (fun q:ed l r=>by have q1:=q.time; have q2:=q.len; omega); exact ⟨e.symm,fun q=>absurd (e.symm.trans q) dc⟩)|(have e:=db (me:=me) h10 (lE hx (by unfold ib iN; omega)); exact ⟨e.symm,fun q=>absurd (e.symm.trans q) dc⟩)|(have e:=gd h10 hro h156; exact ⟨e.symm,fun q=>h156 (e.symm.trans q)⟩)|(have e:=fE (me:=me) h10 hro (by first|rfl|exact h156) (show gR (b_ l r)=[] from fX (Int.natCast_eq_zero.1 h164)); exact ⟨e.symm,fun q=>absurd (e.symm.trans q) dc⟩)
 refine rP 2 [] (mc 1 rfl mn) ?_
 refine fc (xs:=[.tmp 101]) (cs:=[(vI x.Read)]) rfl dB lT rfl rfl rfl rfl (by simp [Value.cells]) rfl rfl fun b57=>rS (CL (eu.eq (iz 0 86400000 ([x.Read]) (some ⟨b57,0,none⟩) 1 sd) dx) (bq (a_ 0 rfl rfl (by simp [bT]) rfl)<|aT) rfl)<|rP 3 [] mn ?_
 refine c8 (t:=106) rfl (bk fun h106=>?_) (bj fun h106=>?_)
 ·refine rP 20 [] mn ?_
  refine RK hK54<|aI rfl<|WS fun _ hK58=>rP 2 [] mn ?_
  refine RK hK58<|an ?_
  refine hQ _ _ _ (aZ (vs:=[(Value.pointer none),(vI 51)]) ⟨rfl,rfl,trivial⟩ fun w hs=>ej (false,51,0,none,0,none,0,[],[],[],none,0,[],[],none,0) [] ?_ ?_ rfl rfl (by first|rfl|(show List.all _ _=true; simp only [cond_true,cg,List.all_nil,nG,pD,Bool.and_true]; rfl)) hs)
  ·rfl
  ·refine ⟨fun q=>Bool.noConfusion (show false=true from q),fun _=>?_⟩; first|(have e:=eQ (r:=r) (me:=me) h21; exact ⟨e.symm,fun q=>h21 (e.symm.trans q)⟩)|(have e:=db (me:=me) h10 (fun q:ed l r=>by have q1:=q.time; have q2:=q.len; omega); exact ⟨e.symm,fun q=>absurd (e.symm.trans q) dc⟩)|(have e:=db (me:=me) h10 (lE hx (by unfold ib iN; omega)); exact ⟨e.symm,fun q=>absurd (e.symm.trans q) dc⟩)|(have e:=gd h10 hro h156; exact ⟨e.symm,fun q=>h156 (e.symm.trans q)⟩)|(have e:=fE (me:=me) h10 hro (by first|rfl|exact h156) (show gR (b_ l r)=[] from fX (Int.natCast_eq_zero.1 h164)); exact ⟨e.symm,fun q=>absurd (e.symm.trans q) dc⟩)
 refine rP 7 [0,1] (mc 2 rfl (mc 7 rfl mn)) ?_
 refine c8 (t:=113) rfl (aP fun h113=>?_) (aQ fun h113=>?_)
 ·refine rP 13 [] mn ?_
  refine RK hK54<|aI rfl<|WS fun _ hK59=>rP 2 [] mn ?_
  refine RK hK59<|an ?_
  refine hQ _ _ _ (aZ (vs:=[(Value.pointer none),(vI 51)]) ⟨rfl,rfl,trivial⟩ fun w hs=>ej (false,51,0,none,0,none,0,[],[],[],none,0,[],[],none,0) [] ?_ ?_ rfl rfl (by first|rfl|(show List.all _ _=true; simp only [cond_true,cg,List.all_nil,nG,pD,Bool.and_true]; rfl)) hs)
  ·rfl
  ·refine ⟨fun q=>Bool.noConfusion (show false=true from q),fun _=>?_⟩; first|(have e:=eQ (r:=r) (me:=me) h21; exact ⟨e.symm,fun q=>h21 (e.symm.trans q)⟩)|(have e:=db (me:=me) h10 (fun q:ed l r=>by have q1:=q.time; have q2:=q.len; omega); exact ⟨e.symm,fun q=>absurd (e.symm.trans q) dc⟩)|(have e:=db (me:=me) h10 (lE hx (by unfold ib iN; omega)); exact ⟨e.symm,fun q=>absurd (e.symm.trans q) dc⟩)|(have e:=gd h10 hro h156; exact ⟨e.symm,fun q=>h156 (e.symm.trans q)⟩)|(have e:=fE (me:=me) h10 hro (by first|rfl|exact h156) (show gR (b_ l r)=[] from fX (Int.natCast_eq_zero.1 h164)); exact ⟨e.symm,fun q=>absurd (e.symm.trans q) dc⟩)
 refine rP 6 [0,1] (mc 2 rfl (mc 7 rfl mn)) ?_
 refine dp (t:=119) rfl (aQ fun h119=>?_) (aP fun h119=>?_)
 ·refine rP 7 [] mn ?_
  refine RK hK54<|aW rfl<|WK hK53<|ai fun _ hK70=>WS fun _ hK71=>rP 2 [0,1] (mc 9 rfl (mc 2 rfl mn)) ?_
  refine rS (CL (Ew l kA kC az cA cC bA bC x hin sd sd) (bh [10,11,12,13]) rfl)<|AL rfl cV fun b72=>f_ rfl bY rfl<|RK hK71<|WS fun _ hK73=>rP 5 [] (mc 0 rfl mn) ?_
  refine RK hK73 ?_
  refine bM rfl (aQ fun h134=>?_) (aP fun h134=>?_)
  ·refine WK hK70 ?_
   refine ak<|rP 1 [] (mc 3 rfl mn) ?_
   refine NW rfl uU rfl<|aB<|ax<|KK hK50 ?_
   have hb77:(aM.cells x)=(aM.cells (nX r.ag (i+1))):=by rw [oo hx]
   rw [hb77]
   refine ak<|rP 2 [] mn ?_
   refine aB ?_
   rw [show (dT l r.ag i)=(dT l r.ag (i+1)) from (uC hx h134).symm]
   have hb78:(vI (((i+1):Nat):Int))=(vI (((i:Nat):Int)+1)):=by exact cI om
   refine aN (hJ46 ⟨(i+1),⟨om,k6 hl15_1 hx (by unfold ib iN; omega)⟩⟩ _ _ _ rfl os (cv 9<|aY rfl hb78<|dK.nil _) (aG [4,5,6,7,8,9,10,11,12,13,14,15,16,17]))
  obtain ⟨mb,hmb⟩:=aO (dT l r.ag i) ((x.fO).toNat) om
  obtain ⟨ga,hga⟩:=aO fb ((x.fO).toNat) om
  refine B6 4 hmb hga rfl rfl rfl ?_
  try dsimp only
  refine dC cD 10 kr<|dP 1 [] mn ?_
  refine dS (SX (cf rfl rfl) rfl rfl)<|dP 4 [0,1] (mc 7 rfl (mc 5 rfl mn)) ?_
  have hk74:(List.map oC (dL fb l.ab.length))[(x.fO).toNat]? =some (oC (some ga)):=qn (nN hga)
  refine dS (IA ((x.fO).toNat) rfl (aK (n:=l.ab.length) 8 rfl sq) BX dc om om)<|dS (gU ((x.fO).toNat) 0 (Value.map (some ga)) rfl bJ (aK (n:=(dL fb l.ab.length).length) 8 rfl sm) hk74 rfl dc rfl)<|dP 2 [] (mc 2 rfl mn) ?_
  refine cO<|jk (kV:=iV) (x:=((i:Nat):Int)) (C':=[(gQ iV ga (bw dF (eg mb ((i:Nat):Int) (cH l x)))),_,_,_,_,_,_,_,_,_,_,_,_,_,_,_,_,_,_]) 0 rfl rfl rfl rfl nJ (eK oZ) rfl (gK _ _ _ _).symm rfl<|RK hK70<|ak<|rP 1 [] (mc 5 rfl mn) ?_
  refine N4 rfl uU rfl<|aB<|ax<|KK hK50 ?_
  have hb75:(aM.cells x)=(aM.cells (nX r.ag (i+1))):=by rw [oo hx]
  rw [hb75]
  refine ak<|rP 2 [] mn ?_
  refine aB<|EV (f:=n8) (ms:=(dT l r.ag i)) (m:=(eg mb ((i:Nat):Int) (cH l x))) 1 0 (by rw [iR]; omega) hga rfl rfl rfl ?_
  rw [wK hx om h134 hmb]
  have hb76:(vI (((i+1):Nat):Int))=(vI (((i:Nat):Int)+1)):=by exact cI om
  refine aN (hJ46 ⟨(i+1),⟨om,k6 hl15_1 hx (by unfold ib iN; omega)⟩⟩ _ _ _ rfl os (cv 9<|aY rfl hb76<|dK.nil _) (aG [0,5,6,7,8,9,10,11,12,13,14,15,16,17]))
 refine rP 7 [0,1] (mc 2 rfl (mc 7 rfl mn)) ?_
 refine RK hK54 ?_
 refine cP rfl (aP fun h126=>?_) (aQ fun h126=>?_)
 ·refine WS fun _ hK60=>?_
  refine rP 2 [] mn ?_
  refine RK hK60<|an ?_
  refine hQ _ _ _ (aZ (vs:=[(Value.pointer none),(vI 51)]) ⟨rfl,rfl,trivial⟩ fun w hs=>ej (false,51,0,none,0,none,0,[],[],[],none,0,[],[],none,0) [] ?_ ?_ rfl rfl (by first|rfl|(show List.all _ _=true; simp only [cond_true,cg,List.all_nil,nG,pD,Bool.and_true]; rfl)) hs)
  ·rfl
  ·refine ⟨fun q=>Bool.noConfusion (show false=true from q),fun _=>?_⟩; first|(have e:=eQ (r:=r) (me:=me) h21; exact ⟨e.symm,fun q=>h21 (e.symm.trans q)⟩)|(have e:=db (me:=me) h10 (fun q:ed l r=>by have q1:=q.time; have q2:=q.len; omega); exact ⟨e.symm,fun q=>absurd (e.symm.trans q) dc⟩)|(have e:=db (me:=me) h10 (lE hx (by unfold ib iN; omega)); exact ⟨e.symm,fun q=>absurd (e.symm.trans q) dc⟩)|(have e:=gd h10 hro h156; exact ⟨e.symm,fun q=>h156 (e.symm.trans q)⟩)|(have e:=fE (me:=me) h10 hro (by first|rfl|exact h156) (show gR (b_ l r)=[] from fX (Int.natCast_eq_zero.1 h164)); exact ⟨e.symm,fun q=>absurd (e.symm.trans q) dc⟩)
 refine WK hK53<|ai fun _ hK61=>WS fun _ hK62=>rP 2 [0,1] (mc 9 rfl (mc 2 rfl mn)) ?_
 refine rS (CL (Ew l kA kC az cA cC bA bC x hin sd sd) (bh [10,11,12,13]) rfl)<|AL rfl cV fun b63=>f_ rfl bY rfl<|RK hK62<|WS fun _ hK64=>rP 5 [] (mc 0 rfl mn) ?_
 refine RK hK64 ?_
 refine bM rfl (aQ fun h134=>?_) (aP fun h134=>?_)
 ·refine WK hK61 ?_
  refine ak<|rP 1 [] (mc 3 rfl mn) ?_
  refine NW rfl uU rfl<|aB<|ax<|KK hK50 ?_
  have hb68:(aM.cells x)=(aM.cells (nX r.ag (i+1))):=by rw [oo hx]
  rw [hb68]
  refine ak<|rP 2 [] mn ?_
  refine aB ?_
  rw [show (dT l r.ag i)=(dT l r.ag (i+1)) from (uC hx h134).symm]
  have hb69:(vI (((i+1):Nat):Int))=(vI (((i:Nat):Int)+1)):=by exact cI om
  refine aN (hJ46 ⟨(i+1),⟨om,k6 hl15_1 hx (by unfold ib iN; omega)⟩⟩ _ _ _ rfl os (cv 9<|aY rfl hb69<|dK.nil _) (aG [4,5,6,7,8,9,10,11,12,13,14,15,16,17]))
 obtain ⟨mb,hmb⟩:=aO (dT l r.ag i) ((x.fO).toNat) om
 obtain ⟨ga,hga⟩:=aO fb ((x.fO).toNat) om
 refine B6 4 hmb hga rfl rfl rfl ?_
 try dsimp only
 refine dC cD 10 kr<|dP 1 [] mn ?_
 refine dS (SX (cf rfl rfl) rfl rfl)<|dP 4 [0,1] (mc 7 rfl (mc 5 rfl mn)) ?_
 have hk65:(List.map oC (dL fb l.ab.length))[(x.fO).toNat]? =some (oC (some ga)):=qn (nN hga)
 refine dS (IA ((x.fO).toNat) rfl (aK (n:=l.ab.length) 8 rfl sq) BX dc om om)<|dS (gU ((x.fO).toNat) 0 (Value.map (some ga)) rfl bJ (aK (n:=(dL fb l.ab.length).length) 8 rfl sm) hk65 rfl dc rfl)<|dP 2 [] (mc 2 rfl mn) ?_
 refine cO<|jk (kV:=iV) (x:=((i:Nat):Int)) (C':=[(gQ iV ga (bw dF (eg mb ((i:Nat):Int) (cH l x)))),_,_,_,_,_,_,_,_,_,_,_,_,_,_,_,_,_,_]) 0 rfl rfl rfl rfl nJ (eK oZ) rfl (gK _ _ _ _).symm rfl<|RK hK61<|ak<|rP 1 [] (mc 5 rfl mn) ?_
 refine N4 rfl uU rfl<|aB<|ax<|KK hK50 ?_
 have hb66:(aM.cells x)=(aM.cells (nX r.ag (i+1))):=by rw [oo hx]
 rw [hb66]
 refine ak<|rP 2 [] mn ?_
 refine aB<|EV (f:=n8) (ms:=(dT l r.ag i)) (m:=(eg mb ((i:Nat):Int) (cH l x))) 1 0 (by rw [iR]; omega) hga rfl rfl rfl ?_
 rw [wK hx om h134 hmb]
 have hb67:(vI (((i+1):Nat):Int))=(vI (((i:Nat):Int)+1)):=by exact cI om
 refine aN (hJ46 ⟨(i+1),⟨om,k6 hl15_1 hx (by unfold ib iN; omega)⟩⟩ _ _ _ rfl os (cv 9<|aY rfl hb67<|dK.nil _) (aG [0,5,6,7,8,9,10,11,12,13,14,15,16,17]))
end
section
open Go.RowKit
theorem Ef (l:aV) (kA:OA) (kC:Nat) (az:List RA) (cA:OA) (cC:Nat) (bA:OA) (bC:Nat) (r:cq) (sgA:OA) (sgC:Nat) (bq_:Int) (hin:eN l az) (hsl:r.ag.length≤1000000):
 eu Tryz.prog 204 [(vA (cE.cells (jx l kA kC cA cC bA bC))),(vA (eE.cells (ke r sgA sgC))),(vI bq_)] [(rd kA l.aH.length 9 (l.aH.map ah.cells)),(rd cA l.aj.length 2 (List.zipWith al.cells l.aj az)),(du (aU al.fK l.aj az)),(rd bA l.ab.length 4 (l.ab.map bx.cells)),(rd sgA r.ag.length 2 (r.ag.map aM.cells))] (vT [(vA (aa.cells (dw l r bq_))),(vI (dv l r bq_))]):=by
 have htk:=hin.r_
 have hck:=hin.se
 have has:=hin.qa
 have hbm:=hin.sb
 have hsd:=hin.side
 refine bu kr Tryz.func204 rfl rfl fun w0 Q hQ hN=>?_
 try dsimp only
 refine WS fun _ hK1=>fP rfl fun b2=>fP rfl fun b3=>t_ rfl rfl fun b4=>AL rfl cV fun b5=>rP 1 [] mn ?_
 refine RK hK1<|WS fun _ hK6=>rP 2 [0,1] (mc 3 rfl (mc 2 rfl mn)) ?_
 refine rS (FU rfl)<|fc (xs:=[.tmp 17]) (cs:=[(Value.func (.func 206) [].toArray [(vP b2),(vP b4)].toArray)]) rfl IQ KA rfl rfl rfl rfl (by simp [Value.cells]) rfl rfl fun b7=>cX (Hn l kA kC az cA cC bA bC r sgA sgC (Value.func (.func 206) [].toArray [(vP b2),(vP b4)].toArray) (du [(rd kA l.aH.length 9 (l.aH.map ah.cells)),(rd cA l.aj.length 2 (List.zipWith al.cells l.aj az)),(du (aU al.fK l.aj az)),(rd bA l.ab.length 4 (l.ab.map bx.cells)),(br b2 28 (cE.cells (jx l kA kC cA cC bA bC))),(br b4 3 [(vI bq_)])]) (jf l bq_) b7 (by exact ob (fi:=[]) (ca:=[(vP b2),(vP b4)]) (mW (AU l kA kC az cA cC bA bC b2 bq_ b4 (by first|assumption|omega)) (bh [0,1,2,3,4,5]))) hin hsl) (cw 5 rfl rfl<|cw 6 rfl rfl<|cw 7 rfl rfl<|cw 8 rfl rfl<|cw 9 rfl rfl<|bq (mY (bh [5,6,7,8,4,2]))<|cw 0 rfl rfl<|aT) rfl fun y8 hy9=>?_
 obtain ⟨ok25,ec10,gw11,eA12,eC13,tA14,tC15,tb16,fs17,fb18,fA19,fC20,bs21,bb22,qA23,qC24⟩:=y8
 cases ok25
 ·obtain ⟨hec,he⟩:=hy9.2 rfl
  try dsimp only at hec he
  subst hec
  try dsimp only [cond_true,cond_false,List.cons_append,List.nil_append]
  refine rP 5 [] mn ?_
  refine RK hK6<|ai fun _ hK26=>WS fun _ hK27=>rP 2 [] mn ?_
  refine RK hK27 ?_
  refine bM rfl (bj fun h23=>?_) (bk fun h23=>?_)
  ·exact absurd h23 he
  refine WS fun _ hK28=>rS (SX (bg (xs:=[]) (cs:=(aa.cells (aa.mk 0 0))) rfl rfl (bf fg rfl)) rfl rfl)<|rP 1 [] mn ?_
  refine oV rfl bY rfl<|rP 1 [] mn ?_
  refine RK hK28<|an ?_
  refine hQ _ _ _ (aZ (vs:=[(vA (aa.cells (aa.mk 0 0))),(vI (dN l r (jf l bq_)))]) ⟨⟨_,rfl,.inl ⟨_,_,bJ,bQ (vs:=(aa.cells (aa.mk 0 0))) 1 rfl rfl,rfl,rfl⟩⟩,rfl,trivial⟩ fun w hs=>eM ?_ hs)
  show (vT [(vA (aa.cells (aa.mk 0 0))),(vI (dN l r (jf l bq_)))])=(vT [(vA (aa.cells (dw l r bq_))),(vI (dv l r bq_))])
  clear hs w hQ hN hK28 hK27 hK26 hK6 hK1
  first|(have e:=kg (b:=bq_) he; rw [e.1,e.2]<;>rfl)|(rw [hbq] at he ⊢; have hh:h=l0 l r b:=sW (hfw.min _ _ hm1) (hbw.max _ _ hm2) (hfw.keys _ _ hm1) (hbw.keys _ _ hm2) hr1 hfin hr0; first|(have e:=lR he (hh.symm.trans h50); rw [e.1,e.2]<;>rfl)|(have e:=lS he (fun q=>h50 (hh.trans q)); rw [e.1,e.2,hh]<;>rfl))
 obtain ⟨he,hfw,hbw,hfl,hbl,htl⟩:=hy9.1 rfl
 try dsimp only [cond_true,cond_false,List.cons_append,List.nil_append]
 dsimp only at hfw hbw hfl hbl htl
 obtain ⟨h10,hro,hme,hnn⟩:=jM he
 obtain ⟨htr,hok⟩:=gr h10
 have hhd:=hok.head
 unfold dU at hhd
 have hwo:=nM htr hok hro
 have hrt:=hro.time
 have hrl:=hro.len
 have hlel:(bS l l.ab.length).length=l.ab.length:=dQ
 have htll:(dT l r.ag r.ag.length).length=l.ab.length:=iR
 have hfn:fs17.length=l.ab.length+1:=by have:=hfw.len; rw [show (b_ l r).n=l.ab.length from dQ] at this; exact this
 have hbn:bs21.length=l.ab.length+1:=by have:=hbw.len; rw [show (b_ l r).n=l.ab.length from dQ] at this; exact this
 obtain ⟨hb0,hb1⟩:=AV hme
 obtain ⟨b,hbq⟩: ∃ b:Nat,bq_=((b:Nat):Int):=⟨bq_.toNat,om⟩
 rw [hbq]
 refine rP 5 [] mn ?_
 refine RK hK6<|ai fun _ hK29=>WS fun _ hK30=>rP 1 [] mn ?_
 refine rS (SX (cb (r:= .bool false) rfl rfl rfl qj) rfl rfl)<|RK hK30<|aW rfl<|WK hK29<|WS fun _ hK31=>rS (SX (bg (xs:=[(0,.const (vI 1))]) (cs:=(aa.cells (aa.mk 1 0))) rfl rfl (bf fg rfl)) rfl rfl)<|AL rfl cV fun b32=>f_ rfl bY rfl<|RK hK31<|WS fun _ hK33=>?_
 refine rP 1 [] (mc 0 rfl mn) ?_
 refine AL rfl cV fun b34=>f_ rfl bY rfl<|RK hK33<|ai fun _ hK35=>WS fun _ hK36=>rP 2 [] (mc 12 rfl mn) ?_
 obtain ⟨mf,hm1⟩:=aO fs17 b om
 obtain ⟨mb,hm2⟩:=aO bs21 (b+1) om
 refine cX (Gr gw11 b) (aT) rfl fun y37 hy38=>?_
 obtain ⟨x139,x240⟩:=y37
 try dsimp only
 refine RK hK36<|av ?_
 refine nA (L0:=[(3,(vP b2)),(4,(vP b3)),(5,(vP b4)),(6,(vP b5)),(7,(vI 0)),(10,(vP b32)),(11,(vP b34))]) (F:=[(own eA12 eC13 3 1 ((bS l l.ab.length).map iC)),(own tA14 tC15 86 1 (List.zipWith eV (dT l r.ag r.ag.length) tb16)),(bV (aU n8 (dT l r.ag r.ag.length) tb16)),(own fA19 fC20 280 1 (List.zipWith eV fs17 fb18)),(bV (aU lx fs17 fb18)),(own qA23 qC24 280 1 (List.zipWith eV bs21 bb22)),(bV (aU lx bs21 bb22)),(br gw11 276 (bK.cells (bK.mk (jx l kA kC cA cC bA bC) (ke r sgA sgC) (bB.mk eA12 ((bS l l.ab.length).length) eC13) (bB.mk tA14 ((dT l r.ag r.ag.length).length) tC15) (bB.mk fA19 fs17.length fC20) (bB.mk qA23 bs21.length qC24)))),(br x139 265 [(vP gw11)]),(br x240 3 [(vI ((b:Nat):Int))])]) (fun k (y:aa)=>(jX k y)∧(∀ q∈k,q∈oQ (b_ l r) b mf mb)) (fun k y=>[(br b34 47 (aa.cells y)),(br b32 47 (aa.cells (aa.mk 1 0))),(br b5 47 (aa.cells (aa.mk 0 0))),(br b4 3 [(vI ((b:Nat):Int))]),(br b3 74 (eE.cells (ke r sgA sgC))),(br b2 28 (cE.cells (jx l kA kC cA cC bA bC))),(rd kA l.aH.length 9 (l.aH.map ah.cells)).ro,(rd cA l.aj.length 2 (List.zipWith al.cells l.aj az)).ro,(du (aU al.fK l.aj az)).ro,(rd bA l.ab.length 4 (l.ab.map bx.cells)).ro,(rd sgA r.ag.length 2 (r.ag.map aM.cells)).ro]) (fun _ (_:Unit)=>False) (fun _ _=>[]) [2,3,13,14,15,16,17,18,19,20,21] [5,6,7,8,9,10,11,4,0,1] l3 rfl rfl (CI (jx l kA kC cA cC bA bC) (ke r sgA sgC) (bS l l.ab.length) (dT l r.ag r.ag.length) eA12 eC13 tb16 tA14 tC15 fs17 bs21 fb18 fA19 fC20 bb22 qA23 qC24 gw11 b x139 x240 mf mb (by rw [hlel]; omega) (by exact hwo) (by rw [htll]; omega) (by exact hfw) om (by exact hbw) om (by show r.ag.length≤1000; omega) (by exact hm1) (by exact hm2)) rfl rfl rfl (by exact ⟨zb,fun q hq=>by cases hq⟩) (by simp only [List.forall_mem_cons,List.not_mem_nil,false_imp_iff,implies_true,and_true]; exact ⟨⟨_,aw (i:=0) rfl,(jU sm)⟩,⟨_,aw (i:=1) rfl,(jU (by rw [List.length_zipWith]; omega))⟩,⟨_,aw (i:=2) rfl,rQ⟩,⟨_,aw (i:=3) rfl,(jU (by rw [List.length_zipWith]; omega))⟩,⟨_,aw (i:=4) rfl,rQ⟩,⟨_,aw (i:=5) rfl,(jU (by rw [List.length_zipWith]; omega))⟩,⟨_,aw (i:=6) rfl,rQ⟩,⟨_,aw (i:=7) rfl,(bO _)⟩,⟨_,aw (i:=8) rfl,(bO _)⟩,⟨_,aw (i:=9) rfl,(bO _)⟩⟩) (by rintro k x k2 ⟨o,_,rfl,_⟩; rfl) rfl (aL rfl) ?_ ?_ (fun _ _ _ h=>h.elim) (fun _ _ h=>h.elim)
 ·rintro k x k2 h lr ra rb S w1 K41 Qr42 hsz hx hin43 hK41 hQr42 xQr42 yQr42
  obtain ⟨q,hq,rfl,rfl⟩:=hx
  obtain ⟨hr0,hr1⟩:=hin43
  try dsimp only
  refine ak<|AL rfl cV fun b44=>f_ rfl bY rfl<|aB<|jz (fun _ _ h=>h) (aG [1,0,2,3,4,5,6,7,8,9,10,11,12]) ?_
  refine aN (hK41 _ _ ?_)
  refine av<|ai fun _ hK45=>WS fun _ hK46=>rP 2 [0,1] (mc 2 rfl (mc 3 rfl mn)) ?_
  refine rS (BI rfl (Lx _ _ h (aa.mk 1 0)))<|RK hK46 ?_
  refine bM rfl (bj fun h35=>?_) (bk fun h35=>?_)
  ·refine WK hK45 ?_
   refine ak<|rP 1 [] (mc 1 rfl mn) ?_
   refine wb rfl bY rfl<|aB<|ax ?_
   exact hQr42 q.2 _ _ (by refine ⟨wy hr0 (l5 hq) ?_,fun z hz=>?_⟩; (first|exact if_neg h35|exact if_pos h35); (rcases List.mem_append.1 hz with hz|hz; exact hr1 z hz; (rw [List.mem_singleton.1 hz]; exact hq))) (aG [0,2,3,4,5,6,7,8,9,10,11,12])
  refine ak<|rP 4 [0,1] (mc 1 rfl (mc 2 rfl mn)) ?_
  refine rS (MN rfl)<|rP 4 [0,1] (mc 1 rfl (mc 2 rfl mn)) ?_
  refine rS (MX rfl)<|rS (SX (bg (xs:=[(0,.tmp 40),(1,.tmp 45)]) (cs:=(aa.cells (aa.mk (min q.2.Lo h.Lo) (max q.2.Hi h.Hi)))) rfl rfl (bf fg rfl)) rfl rfl)<|oV rfl bY rfl<|RK hK45<|ak<|rP 1 [] (mc 1 rfl mn) ?_
  refine wb rfl bY rfl<|aB<|ax ?_
  exact hQr42 (aa.mk (min q.2.Lo h.Lo) (max q.2.Hi h.Hi)) _ _ (by refine ⟨wy hr0 (l5 hq) ?_,fun z hz=>?_⟩; (first|exact if_neg h35|exact if_pos h35); (rcases List.mem_append.1 hz with hz|hz; exact hr1 z hz; (rw [List.mem_singleton.1 hz]; exact hq))) (aG [0,2,3,4,5,6,7,8,9,10,11,12])
 rintro r47 k h hfin hin48
 obtain ⟨hr0,hr1⟩:=hin48
 try dsimp only
 refine ax<|KK hK35<|ai fun _ hK49=>WS fun _ hK50=>rP 2 [0,1] (mc 11 rfl (mc 12 rfl mn)) ?_
 refine rS (BI rfl (tL _ _ h (aa.mk 1 0)))<|RK hK50 ?_
 refine bM rfl (aQ fun h50=>?_) (aP fun h50=>?_)
 ·refine WK hK49 ?_
  refine WS fun _ hK52=>rP 1 [] (mc 11 rfl mn) ?_
  refine qQ (vs:=(aa.cells h)) (cs':=(aa.cells h)) (C':=[_,_,_,_,_,_,_,_,_,_,_,_,_,(br b5 47 (aa.cells h)),_,_,_,_,_,_,_,_]) 13 rfl rfl rfl bY rfl rfl rfl rfl rfl rfl rfl<|rP 1 [] mn ?_
  refine RK hK52<|an ?_
  refine hQ _ _ _ (oh 0 rfl rfl<|aZ (vs:=[(vA (aa.cells h)),(vI 0)]) ⟨⟨_,rfl,.inl ⟨_,_,bJ,bQ (vs:=(aa.cells h)) 13 rfl rfl,rfl,rfl⟩⟩,rfl,trivial⟩ fun w hs=>eM ?_ hs)
  show (vT [(vA (aa.cells h)),(vI 0)])=(vT [(vA (aa.cells (dw l r bq_))),(vI (dv l r bq_))])
  clear hs w hQ hN hK52 hK50 hK49 hK36 hK35 hK33 hK31 hK30 hK29 hK6 hK1
  first|(have e:=kg (b:=bq_) he; rw [e.1,e.2]<;>rfl)|(rw [hbq] at he ⊢; have hh:h=l0 l r b:=sW (hfw.min _ _ hm1) (hbw.max _ _ hm2) (hfw.keys _ _ hm1) (hbw.keys _ _ hm2) hr1 hfin hr0; first|(have e:=lR he (hh.symm.trans h50); rw [e.1,e.2]<;>rfl)|(have e:=lS he (fun q=>h50 (hh.trans q)); rw [e.1,e.2,hh]<;>rfl))
 refine WS fun _ hK51=>rS (SX (bg (xs:=[]) (cs:=(aa.cells (aa.mk 0 0))) rfl rfl (bf fg rfl)) rfl rfl)<|qQ (vs:=(aa.cells (aa.mk 0 0))) (cs':=(aa.cells (aa.mk 0 0))) (C':=[_,_,_,_,_,_,_,_,_,_,_,_,_,(br b5 47 (aa.cells (aa.mk 0 0))),_,_,_,_,_,_,_,_]) 13 rfl rfl rfl bY rfl rfl rfl rfl rfl rfl rfl<|rP 1 [] mn ?_
 refine RK hK51<|an ?_
 refine hQ _ _ _ (oh 0 rfl rfl<|aZ (vs:=[(vA (aa.cells (aa.mk 0 0))),(vI 6)]) ⟨⟨_,rfl,.inl ⟨_,_,bJ,bQ (vs:=(aa.cells (aa.mk 0 0))) 13 rfl rfl,rfl,rfl⟩⟩,rfl,trivial⟩ fun w hs=>eM ?_ hs)
 show (vT [(vA (aa.cells (aa.mk 0 0))),(vI 6)])=(vT [(vA (aa.cells (dw l r bq_))),(vI (dv l r bq_))])
 clear hs w hQ hN hK51 hK50 hK49 hK36 hK35 hK33 hK31 hK30 hK29 hK6 hK1
 first|(have e:=kg (b:=bq_) he; rw [e.1,e.2]<;>rfl)|(rw [hbq] at he ⊢; have hh:h=l0 l r b:=sW (hfw.min _ _ hm1) (hbw.max _ _ hm2) (hfw.keys _ _ hm1) (hbw.keys _ _ hm2) hr1 hfin hr0; first|(have e:=lR he (hh.symm.trans h50); rw [e.1,e.2]<;>rfl)|(have e:=lS he (fun q=>h50 (hh.trans q)); rw [e.1,e.2,hh]<;>rfl))
theorem K1 (l:aV) (kA:OA) (kC:Nat) (az:List RA) (cA:OA) (cC:Nat) (bA:OA) (bC:Nat) (r:cq) (sgA:OA) (sgC:Nat) (hin:eN l az) (hsl:r.ag.length≤1000000):
 eu Tryz.prog 203 [(vA (cE.cells (jx l kA kC cA cC bA bC))),(vA (eE.cells (ke r sgA sgC)))] [(rd kA l.aH.length 9 (l.aH.map ah.cells)),(rd cA l.aj.length 2 (List.zipWith al.cells l.aj az)),(du (aU al.fK l.aj az)),(rd bA l.ab.length 4 (l.ab.map bx.cells)),(rd sgA r.ag.length 2 (r.ag.map aM.cells))] (vT [(vA (aa.cells (kv l r))),(vI (dv l r l.cz))]):=by
 have htk:=hin.r_
 have hck:=hin.se
 have has:=hin.qa
 have hbm:=hin.sb
 have hsd:=hin.side
 refine bu kr Tryz.func203 rfl rfl fun w0 Q hQ hN=>?_
 try dsimp only
 refine WS fun _ hK1=>fP rfl fun b2=>fP rfl fun b3=>AL rfl cV fun b4=>rP 1 [] mn ?_
 refine RK hK1<|WS fun _ hK5=>rP 4 [0,1] (mc 2 rfl (mc 1 rfl mn)) ?_
 refine rS (CL (Ef l kA kC az cA cC bA bC r sgA sgC l.cz hin hsl) (bh [3,4,5,6,7]) rfl)<|rP 3 [] mn ?_
 refine AL rfl cV fun b6=>f_ rfl bY rfl<|rP 1 [] mn ?_
 refine RK hK5<|ai fun _ hK7=>WS fun _ hK8=>rP 2 [] mn ?_
 refine RK hK8 ?_
 refine cP rfl (bk fun h17=>?_) (bj fun h17=>?_)
 ·refine WS fun _ hK9=>?_
  refine rS (SX (bg (xs:=[]) (cs:=(aa.cells (aa.mk 0 0))) rfl rfl (bf fg rfl)) rfl rfl)<|rP 1 [] mn ?_
  refine oV rfl bY rfl<|rP 1 [] mn ?_
  refine RK hK9<|an ?_
  refine hQ _ _ _ (aZ (vs:=[(vA (aa.cells (aa.mk 0 0))),(vI (dv l r l.cz))]) ⟨⟨_,rfl,.inl ⟨_,_,bJ,bQ (vs:=(aa.cells (aa.mk 0 0))) 1 rfl rfl,rfl,rfl⟩⟩,rfl,trivial⟩ fun w hs=>eM ?_ hs)
  show (vT [(vA (aa.cells (aa.mk 0 0))),(vI (dv l r l.cz))])=(vT [(vA (aa.cells (kv l r))),(vI (dv l r l.cz))])
  clear hs w hQ hN hK9 hK8 hK7 hK5 hK1
  first|(rw [px h17]<;>rfl)|(rw [sI h17,h17]<;>rfl)
 refine WK hK7<|WS fun _ hK10=>rP 4 [0,1] (mc 0 rfl (mc 2 rfl mn)) ?_
 have hpb:=uG h17
 have hpr:=(tj h17).time
 refine rP 6 [0,1] (mc 0 rfl (mc 2 rfl mn)) ?_
 refine rS (SX (bg (xs:=[(0,.tmp 24),(1,.tmp 29)]) (cs:=(aa.cells (aa.mk (((dw l r l.cz).Lo)-r.Start) (((dw l r l.cz).Hi)-r.Start)))) rfl rfl (bf fg rfl)) rfl rfl)<|oV rfl bY rfl<|rP 1 [] mn ?_
 refine RK hK10<|an ?_
 refine hQ _ _ _ (aZ (vs:=[(vA (aa.cells (aa.mk (((dw l r l.cz).Lo)-r.Start) (((dw l r l.cz).Hi)-r.Start)))),(vI 0)]) ⟨⟨_,rfl,.inl ⟨_,_,bJ,bQ (vs:=(aa.cells (aa.mk (((dw l r l.cz).Lo)-r.Start) (((dw l r l.cz).Hi)-r.Start)))) 1 rfl rfl,rfl,rfl⟩⟩,rfl,trivial⟩ fun w hs=>eM ?_ hs)
 show (vT [(vA (aa.cells (aa.mk (((dw l r l.cz).Lo)-r.Start) (((dw l r l.cz).Hi)-r.Start)))),(vI 0)])=(vT [(vA (aa.cells (kv l r))),(vI (dv l r l.cz))])
 clear hs w hQ hN hK10 hK8 hK7 hK5 hK1
 first|(rw [px h17]<;>rfl)|(rw [sI h17,h17]<;>rfl)
end
section
open Go.RowKit
theorem HN (l:aV) (kA:OA) (kC:Nat) (az:List RA) (cA:OA) (cC:Nat) (bA:OA) (bC:Nat) (d:aS) (sgA:OA) (sgC:Nat) (hin:eN l az):
 eu Tryz.prog 197 [(vA (cE.cells (jx l kA kC cA cC bA bC))),(vA (bD.cells (bD.mk d.Out d.dM d.Time (ke d.bP sgA sgC))))] [(rd kA l.aH.length 9 (l.aH.map ah.cells)),(rd cA l.aj.length 2 (List.zipWith al.cells l.aj az)),(du (aU al.fK l.aj az)),(rd bA l.ab.length 4 (l.ab.map bx.cells)),(rd sgA d.bP.ag.length 2 (d.bP.ag.map aM.cells))] (vT [(vA (aa.cells d.Time)),(vB (decide (d.dM=false∧d.Time=cK∧gO d.bP)))]):=by
 refine bu kr Tryz.func197 rfl rfl fun w0 Q hQ hN=>?_
 try dsimp only
 refine WS fun _ hK1=>fP rfl fun b2=>fP rfl fun b3=>AL rfl cV fun b4=>rP 1 [] mn ?_
 refine RK hK1<|ai fun _ hK5=>ep cD [15] [] [] [1,2,3,4,5,6,7] [] rfl rfl rfl rfl rfl<|eS rfl (FA 2 rfl gp rfl)<|eS rfl (LP (aa.cells d.Time) 0 rfl bJ rfl rfl rfl)<|eS rfl (FA 1 rfl gp rfl)<|eS rfl (L1 (vB d.dM) 0 rfl bJ rfl rfl)<|eS rfl (NT rfl)<|eS rfl (MV rfl) ?_
 refine pS (t:=11) rfl (fun h6=>?_) (fun h6=>?_)
 rotate_left 1
 ·rw [Bool.not_eq_false'] at h6
  refine eS rfl (OX rfl)<|eS rfl (OX rfl)<|eS rfl (OX rfl)<|eS rfl (OX rfl)<|eS rfl (PK rfl)<|eS rfl (MV rfl)<|eS rfl (OX rfl)<|eS rfl (OX rfl)<|eS rfl (PK rfl)<|eS rfl (AG rfl) ?_
  refine fp rfl<|cr rfl fun T10 hT10=>f_ rfl bY rfl ?_
  refine aB (hT10 _ _ (aG [1,2,3,4,5,6,7]) ?_)
  refine gh rfl<|KK hK5<|an ?_
  refine hQ _ _ _ (aZ (vs:=[(vA (aa.cells d.Time)),(vB false)]) ⟨⟨_,rfl,.inl ⟨_,_,bJ,bQ (vs:=(aa.cells d.Time)) 0 rfl rfl,rfl,rfl⟩⟩,rfl,trivial⟩ fun w hs=>eM ?_ hs)
  show (vT [(vA (aa.cells d.Time)),(vB false)])=(vT [(vA (aa.cells d.Time)),(vB (decide (d.dM=false∧d.Time=cK∧gO d.bP)))])
  clear hs w hQ hN hT10 T10 hK5 hK1
  refine congrArg (fun z=>Value.tuple #[_,vB z]) ?_
  first|rfl|(simp_all [cK]; done)
 rw [Bool.not_eq_true'] at h6
 refine eS rfl (FA 2 rfl gp rfl)<|eS rfl (LP (aa.cells d.Time) 0 rfl bJ rfl rfl rfl)<|eS rfl (SX (bg (xs:=[]) (cs:=(aa.cells (aa.mk 0 0))) rfl rfl (bf fg rfl)) rfl rfl)<|eS rfl (BI rfl (tL _ _ d.Time (aa.mk 0 0)))<|eS rfl (PK rfl)<|eS rfl (MV rfl) ?_
 refine pS (t:=17) rfl (fun h7=>?_) (fun h7=>?_)
 rotate_left 1
 ·replace h7:=DF h7
  refine eS rfl (OX rfl)<|eS rfl (OX rfl)<|eS rfl (PK rfl)<|eS rfl (AG rfl)<|fp rfl<|cr rfl fun T9 hT9=>f_ rfl bY rfl ?_
  refine aB (hT9 _ _ (aG [1,2,3,4,5,6,7]) ?_)
  refine gh rfl<|KK hK5<|an ?_
  refine hQ _ _ _ (aZ (vs:=[(vA (aa.cells d.Time)),(vB false)]) ⟨⟨_,rfl,.inl ⟨_,_,bJ,bQ (vs:=(aa.cells d.Time)) 0 rfl rfl,rfl,rfl⟩⟩,rfl,trivial⟩ fun w hs=>eM ?_ hs)
  show (vT [(vA (aa.cells d.Time)),(vB false)])=(vT [(vA (aa.cells d.Time)),(vB (decide (d.dM=false∧d.Time=cK∧gO d.bP)))])
  clear hs w hQ hN hT9 T9 hK5 hK1
  refine congrArg (fun z=>Value.tuple #[_,vB z]) ?_
  first|rfl|(simp_all [cK]; done)
 replace h7:=DT h7
 refine eS rfl (LW 0 rfl bJ rfl rfl)<|eS rfl (CL (Fx d sgA sgC) (bh [6]) rfl)<|eS rfl (PK rfl)<|eS rfl (AG rfl)<|fp rfl<|cr rfl fun T8 hT8=>f_ rfl bY rfl ?_
 refine aB (hT8 _ _ (aG [1,2,3,4,5,6,7]) ?_)
 refine gh rfl<|KK hK5<|an ?_
 refine hQ _ _ _ (aZ (vs:=[(vA (aa.cells d.Time)),(vB (decide (gO d.bP)))]) ⟨⟨_,rfl,.inl ⟨_,_,bJ,bQ (vs:=(aa.cells d.Time)) 0 rfl rfl,rfl,rfl⟩⟩,rfl,trivial⟩ fun w hs=>eM ?_ hs)
 show (vT [(vA (aa.cells d.Time)),(vB (decide (gO d.bP)))])=(vT [(vA (aa.cells d.Time)),(vB (decide (d.dM=false∧d.Time=cK∧gO d.bP)))])
 clear hs w hQ hN hT8 T8 hK5 hK1
 refine congrArg (fun z=>Value.tuple #[_,vB z]) ?_
 first|rfl|(simp_all [cK]; done)
theorem Hb (l:aV) (kA:OA) (kC:Nat) (az:List RA) (cA:OA) (cC:Nat) (bA:OA) (bC:Nat) (d:aS) (sgA:OA) (sgC:Nat) (hin:eN l az):
 eu Tryz.prog 200 [(vA (cE.cells (jx l kA kC cA cC bA bC))),(vA (bD.cells (bD.mk d.Out d.dM d.Time (ke d.bP sgA sgC))))] [(rd kA l.aH.length 9 (l.aH.map ah.cells)),(rd cA l.aj.length 2 (List.zipWith al.cells l.aj az)),(du (aU al.fK l.aj az)),(rd bA l.ab.length 4 (l.ab.map bx.cells)),(rd sgA d.bP.ag.length 2 (d.bP.ag.map aM.cells))] (vT [(vA (aa.cells d.Time)),(vB (decide (jY d.Time∧gO d.bP)))]):=by
 refine bu kr Tryz.func200 rfl rfl fun w0 Q hQ hN=>?_
 try dsimp only
 refine WS fun _ hK1=>fP rfl fun b2=>fP rfl fun b3=>AL rfl cV fun b4=>rP 1 [] mn ?_
 refine RK hK1<|ai fun _ hK5=>ep cD [9] [] [] [1,2,3,4,5,6,7] [] rfl rfl rfl rfl rfl<|eS rfl (FA 2 rfl gp rfl)<|eS rfl (LP (aa.cells d.Time) 0 rfl bJ rfl rfl rfl)<|eS rfl (FA 2 rfl gp rfl)<|eS rfl (LP (aa.cells d.Time) 0 rfl bJ rfl rfl rfl)<|eS rfl (CL (HX d.Time) (aT) rfl)<|eS rfl (MV rfl) ?_
 refine pS (t:=11) rfl (fun h6=>?_) (fun h6=>?_)
 rotate_left 1
 ·replace h6:=DF h6
  refine eS rfl (OX rfl)<|eS rfl (OX rfl)<|eS rfl (PK rfl)<|eS rfl (AG rfl)<|fp rfl<|cr rfl fun T8 hT8=>f_ rfl bY rfl ?_
  refine aB (hT8 _ _ (aG [1,2,3,4,5,6,7]) ?_)
  refine gh rfl<|KK hK5<|an ?_
  refine hQ _ _ _ (aZ (vs:=[(vA (aa.cells d.Time)),(vB false)]) ⟨⟨_,rfl,.inl ⟨_,_,bJ,bQ (vs:=(aa.cells d.Time)) 0 rfl rfl,rfl,rfl⟩⟩,rfl,trivial⟩ fun w hs=>eM ?_ hs)
  show (vT [(vA (aa.cells d.Time)),(vB false)])=(vT [(vA (aa.cells d.Time)),(vB (decide (jY d.Time∧gO d.bP)))])
  clear hs w hQ hN hT8 T8 hK5 hK1
  refine congrArg (fun z=>Value.tuple #[_,vB z]) ?_
  first|rfl|(simp_all; done)
 replace h6:=DT h6
 refine eS rfl (LW 0 rfl bJ rfl rfl)<|eS rfl (CL (Fx d sgA sgC) (bh [6]) rfl)<|eS rfl (PK rfl)<|eS rfl (AG rfl)<|fp rfl<|cr rfl fun T7 hT7=>f_ rfl bY rfl ?_
 refine aB (hT7 _ _ (aG [1,2,3,4,5,6,7]) ?_)
 refine gh rfl<|KK hK5<|an ?_
 refine hQ _ _ _ (aZ (vs:=[(vA (aa.cells d.Time)),(vB (decide (gO d.bP)))]) ⟨⟨_,rfl,.inl ⟨_,_,bJ,bQ (vs:=(aa.cells d.Time)) 0 rfl rfl,rfl,rfl⟩⟩,rfl,trivial⟩ fun w hs=>eM ?_ hs)
 show (vT [(vA (aa.cells d.Time)),(vB (decide (gO d.bP)))])=(vT [(vA (aa.cells d.Time)),(vB (decide (jY d.Time∧gO d.bP)))])
 clear hs w hQ hN hT7 T7 hK5 hK1
 refine congrArg (fun z=>Value.tuple #[_,vB z]) ?_
 first|rfl|(simp_all; done)
theorem HB (l:aV) (kA:OA) (kC:Nat) (az:List RA) (cA:OA) (cC:Nat) (bA:OA) (bC:Nat) (d:aS) (sgA:OA) (sgC:Nat) (hin:eN l az) (hsl:d.bP.ag.length≤1000000):
 eu Tryz.prog 202 [(vA (cE.cells (jx l kA kC cA cC bA bC))),(vA (bD.cells (bD.mk d.Out d.dM d.Time (ke d.bP sgA sgC))))] [(rd kA l.aH.length 9 (l.aH.map ah.cells)),(rd cA l.aj.length 2 (List.zipWith al.cells l.aj az)),(du (aU al.fK l.aj az)),(rd bA l.ab.length 4 (l.ab.map bx.cells)),(rd sgA d.bP.ag.length 2 (d.bP.ag.map aM.cells))] (vT [(vA (aa.cells (kv l d.bP))),(vB (decide (dv l d.bP l.cz=0∧d.Time=cK)))]):=by
 have htk:=hin.r_
 have hck:=hin.se
 have has:=hin.qa
 have hbm:=hin.sb
 have hsd:=hin.side
 refine bu kr Tryz.func202 rfl rfl fun w0 Q hQ hN=>?_
 try dsimp only
 refine WS fun _ hK1=>fP rfl fun b2=>fP rfl fun b3=>AL rfl cV fun b4=>rP 1 [] mn ?_
 refine RK hK1<|WS fun _ hK5=>rP 2 [] (mc 2 rfl mn) ?_
 refine rS (LP (eE.cells (ke d.bP sgA sgC)) 1 rfl bJ rfl rfl rfl)<|rS (CL (K1 l kA kC az cA cC bA bC d.bP sgA sgC hin hsl) (bh [3,4,5,6,7]) rfl)<|rP 3 [] mn ?_
 refine AL rfl cV fun b6=>f_ rfl bY rfl<|rP 1 [] mn ?_
 refine RK hK5<|ai fun _ hK7=>ep cD [9] [] [] [0,2,3,4,5,6,7,8] [] rfl rfl rfl rfl rfl<|eS rfl (LW 0 rfl bJ rfl rfl)<|eS rfl (MV rfl)<|eS rfl (BI rfl oR)<|eS rfl (MV rfl) ?_
 refine pS (t:=18) rfl (fun h8=>?_) (fun h8=>?_)
 rotate_left 1
 ·replace h8:=DF h8
  refine eS rfl (OX rfl)<|eS rfl (OX rfl)<|eS rfl (OX rfl)<|eS rfl (OX rfl)<|eS rfl (PK rfl)<|eS rfl (AG rfl)<|fp rfl<|cr rfl fun T10 hT10=>oV rfl bY rfl ?_
  refine aB (hT10 _ _ (aG [0,2,3,4,5,6,7,8]) ?_)
  refine gh rfl<|KK hK7<|an ?_
  refine hQ _ _ _ (aZ (vs:=[(vA (aa.cells (kv l d.bP))),(vB false)]) ⟨⟨_,rfl,.inl ⟨_,_,bJ,bQ (vs:=(aa.cells (kv l d.bP))) 1 rfl rfl,rfl,rfl⟩⟩,rfl,trivial⟩ fun w hs=>eM ?_ hs)
  show (vT [(vA (aa.cells (kv l d.bP))),(vB false)])=(vT [(vA (aa.cells (kv l d.bP))),(vB (decide (dv l d.bP l.cz=0∧d.Time=cK)))])
  clear hs w hQ hN hT10 T10 hK7 hK5 hK1
  refine congrArg (fun z=>Value.tuple #[_,vB z]) ?_
  first|rfl|(simp_all [cK]; done)
 replace h8:=DT h8
 refine eS rfl (FA 2 rfl gp rfl)<|eS rfl (LP (aa.cells d.Time) 1 rfl bJ rfl rfl rfl)<|eS rfl (SX (bg (xs:=[]) (cs:=(aa.cells (aa.mk 0 0))) rfl rfl (bf fg rfl)) rfl rfl)<|eS rfl (BI rfl (tL _ _ d.Time (aa.mk 0 0)))<|eS rfl (PK rfl)<|eS rfl (AG rfl)<|fp rfl<|cr rfl fun T9 hT9=>oV rfl bY rfl ?_
 refine aB (hT9 _ _ (aG [0,2,3,4,5,6,7,8]) ?_)
 refine gh rfl<|KK hK7<|an ?_
 refine hQ _ _ _ (aZ (vs:=[(vA (aa.cells (kv l d.bP))),(vB (decide (d.Time=(aa.mk 0 0))))]) ⟨⟨_,rfl,.inl ⟨_,_,bJ,bQ (vs:=(aa.cells (kv l d.bP))) 1 rfl rfl,rfl,rfl⟩⟩,rfl,trivial⟩ fun w hs=>eM ?_ hs)
 show (vT [(vA (aa.cells (kv l d.bP))),(vB (decide (d.Time=(aa.mk 0 0))))])=(vT [(vA (aa.cells (kv l d.bP))),(vB (decide (dv l d.bP l.cz=0∧d.Time=cK)))])
 clear hs w hQ hN hT9 T9 hK7 hK5 hK1
 refine congrArg (fun z=>Value.tuple #[_,vB z]) ?_
 first|rfl|(simp_all [cK]; done)
theorem Dp (d:aS) (sgA:OA) (sgC g1:Nat):
 eu Tryz.prog 95 [(vA (lZ.cells (lZ.mk (Value.func (.func 196) [].toArray [].toArray) (Value.func (.func 197) [].toArray [].toArray)))),(vP g1)] [(rd sgA d.bP.ag.length 2 (d.bP.ag.map aM.cells)),(br g1 76 (bD.cells (bD.mk d.Out d.dM d.Time (ke d.bP sgA sgC))))] (vB d.Out):=by
 refine bu kr Tryz.func95 rfl rfl fun w0 Q hQ hN=>?_
 try dsimp only
 refine WS fun _ hK1=>fP rfl fun b2=>rP 1 [] mn ?_
 refine RK hK1<|WS fun _ hK3=>rP 3 [0,1] (mc 0 rfl (mr 2 rfl mn)) ?_
 refine rS (CL (KB d sgA sgC) (bh [1]) rfl)<|rP 1 [] mn ?_
 refine RK hK3<|an<|Q1 hQ rfl rfl rfl ?_
 rfl
theorem Df (d:aS) (sgA:OA) (sgC g1:Nat):
 eu Tryz.prog 95 [(vA (lZ.cells (lZ.mk (Value.func (.func 199) [].toArray [].toArray) (Value.func (.func 200) [].toArray [].toArray)))),(vP g1)] [(rd sgA d.bP.ag.length 2 (d.bP.ag.map aM.cells)),(br g1 76 (bD.cells (bD.mk d.Out d.dM d.Time (ke d.bP sgA sgC))))] (vB d.dM):=by
 refine bu kr Tryz.func95 rfl rfl fun w0 Q hQ hN=>?_
 try dsimp only
 refine WS fun _ hK1=>fP rfl fun b2=>rP 1 [] mn ?_
 refine RK hK1<|WS fun _ hK3=>rP 3 [0,1] (mc 0 rfl (mr 2 rfl mn)) ?_
 refine rS (CL (LU d sgA sgC) (bh [1]) rfl)<|rP 1 [] mn ?_
 refine RK hK3<|an<|Q1 hQ rfl rfl rfl ?_
 rfl
theorem CG (d:aS) (sgA:OA) (sgC g1:Nat):
 eu Tryz.prog 95 [(vA (lZ.cells (lZ.mk (Value.func (.func 201) [].toArray [].toArray) (Value.func (.func 202) [].toArray [].toArray)))),(vP g1)] [(rd sgA d.bP.ag.length 2 (d.bP.ag.map aM.cells)),(br g1 76 (bD.cells (bD.mk d.Out d.dM d.Time (ke d.bP sgA sgC))))] (vB true):=by
 refine bu kr Tryz.func95 rfl rfl fun w0 Q hQ hN=>?_
 try dsimp only
 refine WS fun _ hK1=>fP rfl fun b2=>rP 1 [] mn ?_
 refine RK hK1<|WS fun _ hK3=>rP 3 [0,1] (mc 0 rfl (mr 2 rfl mn)) ?_
 refine rS (CL (Mo d sgA sgC) (bh [1]) rfl)<|rP 1 [] mn ?_
 refine RK hK3<|an<|Q1 hQ rfl rfl rfl ?_
 rfl
end
section
open Go.RowKit
theorem vu (d:aS) (sgA:OA) (sgC g1:Nat):
 eu Tryz.prog 94 [(vS g0 3 3),(Value.func (.func 95) [].toArray [(vP g1)].toArray)] [(rd g0 3 2 fQ),(rd sgA d.bP.ag.length 2 (d.bP.ag.map aM.cells)),(br g1 76 (bD.cells (bD.mk d.Out d.dM d.Time (ke d.bP sgA sgC))))] (vI (nj d)):=by
 refine bu kr Tryz.func94 rfl rfl fun w0 Q hQ hN=>?_
 try dsimp only
 refine WS fun _ hK1=>rP 1 [] mn ?_
 refine RK hK1<|ai fun _ hK2=>WS fun _ hK3=>rP 3 [] mn ?_
 refine RK hK3<|av<|kz 4<|ek fun R4 hR4=>WS fun _ hK5=>rS (SX (cb (r:= .bool true) rfl rfl rfl gH) rfl rfl)<|RK hK5<|ai fun _ hK6=>aI rfl<|WK hK6 ?_
 refine ai fun _ hK7=>av<|WS fun _ hK8=>rP 2 [] mn ?_
 refine RK hK8<|WS fun _ hK9=>rP 3 [] mn ?_
 refine rS (IA 0 rfl (aA 0 rfl) FX dc rfl om)<|rS (n9 0 0 (lZ.cells (lZ.mk (Value.func (.func 196) [].toArray [].toArray) (Value.func (.func 197) [].toArray [].toArray))) rfl bJ (aA 0 rfl) (show fQ[0]? =some [(Value.func (.func 196) [].toArray [].toArray),(Value.func (.func 197) [].toArray [].toArray)] from rfl) rfl dc rfl rfl)<|rS (CL (Dp d sgA sgC g1) (bh [1,2]) rfl)<|RK hK9 ?_
 refine cP rfl (fun h10=>?_) (fun h10=>?_)
 ·refine WS fun _ hK11=>?_
  refine rP 2 [] mn ?_
  refine RK hK11<|an<|Q1 hQ rfl rfl rfl ?_
  clear hQ hN hK11 hK9 hK8 hK7 hK6 hK5 hK3 hK2 hK1
  refine cI ?_
  simp [nj, *]
 refine bZ<|ax<|KK hK7<|ak<|rS (SX (cb (r:= .int .i64 1) rfl rfl rfl (g8 ⟨dc,dc⟩)) rfl rfl)<|rP 1 [] mn ?_
 refine RK hR4<|ek fun R12 hR12=>WS fun _ hK13=>rS (SX (cb (r:= .bool true) rfl rfl rfl gH) rfl rfl)<|RK hK13<|ai fun _ hK14=>aI rfl<|WK hK14<|ai fun _ hK15=>av ?_
 refine WS fun _ hK16=>rP 2 [] mn ?_
 refine RK hK16<|WS fun _ hK17=>rP 3 [] mn ?_
 refine rS (IA 1 rfl (aA 0 rfl) FX dc rfl om)<|rS (n9 1 0 (lZ.cells (lZ.mk (Value.func (.func 199) [].toArray [].toArray) (Value.func (.func 200) [].toArray [].toArray))) rfl bJ (aA 0 rfl) (show fQ[1]? =some [(Value.func (.func 199) [].toArray [].toArray),(Value.func (.func 200) [].toArray [].toArray)] from rfl) rfl dc rfl rfl)<|rS (CL (Df d sgA sgC g1) (bh [1,2]) rfl)<|RK hK17 ?_
 refine cP rfl (fun h18=>?_) (fun h18=>?_)
 ·refine WS fun _ hK19=>?_
  refine rP 2 [] mn ?_
  refine RK hK19<|an<|Q1 hQ rfl rfl rfl ?_
  clear hQ hN hK19 hK17 hK16 hK15 hK14 hK13 hK9 hK8 hK7 hK6 hK5 hK3 hK2 hK1
  refine cI ?_
  simp [nj, *]
 refine bZ<|ax<|KK hK15<|ak<|rS (SX (cb (r:= .int .i64 2) rfl rfl rfl (g8 ⟨dc,dc⟩)) rfl rfl)<|rP 1 [] mn ?_
 refine RK hR12<|ek fun R20 hR20=>WS fun _ hK21=>rS (SX (cb (r:= .bool true) rfl rfl rfl gH) rfl rfl)<|RK hK21<|ai fun _ hK22=>aI rfl<|WK hK22<|ai fun _ hK23=>av ?_
 refine WS fun _ hK24=>rP 2 [] mn ?_
 refine RK hK24<|WS fun _ hK25=>rP 3 [] mn ?_
 refine rS (IA 2 rfl (aA 0 rfl) FX dc rfl om)<|rS (n9 2 0 (lZ.cells (lZ.mk (Value.func (.func 201) [].toArray [].toArray) (Value.func (.func 202) [].toArray [].toArray))) rfl bJ (aA 0 rfl) (show fQ[2]? =some [(Value.func (.func 201) [].toArray [].toArray),(Value.func (.func 202) [].toArray [].toArray)] from rfl) rfl dc rfl rfl)<|rS (CL (CG d sgA sgC g1) (bh [1,2]) rfl)<|RK hK25<|aI rfl<|WS fun _ hK26=>rP 2 [] mn ?_
 refine RK hK26<|an<|Q1 hQ rfl rfl rfl ?_
 clear hQ hN hK26 hK25 hK24 hK23 hK22 hK21 hK17 hK16 hK15 hK14 hK13 hK9 hK8 hK7 hK6 hK5 hK3 hK2 hK1
 refine cI ?_
 simp [nj, *]
end
section
open Go.RowKit
theorem L4 (d:aS) (sgA:OA) (sgC g1:Nat) (hk:d.Out=true):
 eu Tryz.prog 94 [(vS g0 3 3),(Value.func (.func 95) [].toArray [(vP g1)].toArray)] [(rd g0 3 2 fQ),(rd sgA d.bP.ag.length 2 (d.bP.ag.map aM.cells)),(br g1 76 (bD.cells (bD.mk d.Out d.dM d.Time (ke d.bP sgA sgC))))] (vI 0):=by
 have h:=vu d sgA sgC g1
 have e:nj d=0:=by simp [nj,hk]
 rw [e] at h
 exact h
theorem LI (d:aS) (sgA:OA) (sgC g1:Nat) (hk:d.Out=false∧d.dM=true):
 eu Tryz.prog 94 [(vS g0 3 3),(Value.func (.func 95) [].toArray [(vP g1)].toArray)] [(rd g0 3 2 fQ),(rd sgA d.bP.ag.length 2 (d.bP.ag.map aM.cells)),(br g1 76 (bD.cells (bD.mk d.Out d.dM d.Time (ke d.bP sgA sgC))))] (vI 1):=by
 have h:=vu d sgA sgC g1
 have e:nj d=1:=by simp [nj,hk]
 rw [e] at h
 exact h
theorem KI (d:aS) (sgA:OA) (sgC g1:Nat) (hk:d.Out=false∧d.dM=false):
 eu Tryz.prog 94 [(vS g0 3 3),(Value.func (.func 95) [].toArray [(vP g1)].toArray)] [(rd g0 3 2 fQ),(rd sgA d.bP.ag.length 2 (d.bP.ag.map aM.cells)),(br g1 76 (bD.cells (bD.mk d.Out d.dM d.Time (ke d.bP sgA sgC))))] (vI 2):=by
 have h:=vu d sgA sgC g1
 have e:nj d=2:=by simp [nj,hk]
 rw [e] at h
 exact h
theorem zn (l:aV) (kA:OA) (kC:Nat) (az:List RA) (cA:OA) (cC:Nat) (bA:OA) (bC:Nat) (d:aS) (sgA:OA) (sgC:Nat) (hin:eN l az) (hsl:d.bP.ag.length≤1000000) (hk:d.Out=true):
 eu Tryz.prog 71 [(vA (cE.cells (jx l kA kC cA cC bA bC))),(vA (bD.cells (bD.mk d.Out d.dM d.Time (ke d.bP sgA sgC))))] [(rd g0 3 2 fQ),(rd kA l.aH.length 9 (l.aH.map ah.cells)),(rd cA l.aj.length 2 (List.zipWith al.cells l.aj az)),(du (aU al.fK l.aj az)),(rd bA l.ab.length 4 (l.ab.map bx.cells)),(rd sgA d.bP.ag.length 2 (d.bP.ag.map aM.cells))] (vT [(vA (aa.cells (e_ l d))),(vB (decide (fD l d)))]):=by
 refine bu kr Tryz.func71 rfl rfl fun w0 Q hQ hN=>?_
 try dsimp only
 refine WS fun _ hK1=>fP rfl fun b2=>fP rfl fun b3=>AL rfl cV fun b4=>rP 1 [] mn ?_
 refine RK hK1<|WS fun _ hK5=>rS (SX (Bb rfl rfl xe) rfl rfl)<|rS (FU rfl)<|rS (CL (L4 d sgA sgC b3 hk) (JS 3 8 1 rfl rfl rfl rfl rfl rfl) rfl)<|rP 1 [] mn ?_
 refine RK hK5<|ai fun _ hK6=>dC cD 9 kr<|dP 1 [] mn ?_
 refine dS (SX (Bn (k:=0) rfl rfl rfl xe rfl om) rfl rfl)<|dS (mT ((0*2)+1) rfl (aA 3 rfl) (Nat.mul_pos om dc) gp rfl)<|dS (gU 0 1 (Value.func (.func 197) [].toArray [].toArray) rfl bJ (aA 3 rfl) (show fQ[0]? =some [(Value.func (.func 196) [].toArray [].toArray),(Value.func (.func 197) [].toArray [].toArray)] from rfl) rfl dc rfl)<|dP 2 [0,1] (mc 2 rfl (mc 1 rfl mn)) ?_
 refine dS (CL (HN l kA kC az cA cC bA bC d sgA sgC hin) (bh [4,5,6,7,8]) rfl)<|dP 2 [] mn ?_
 refine cO<|f_ rfl bY rfl<|rP 1 [] mn ?_
 refine RK hK6<|an ?_
 refine hQ _ _ _ (aZ (vs:=[(vA (aa.cells d.Time)),(vB (decide (d.dM=false∧d.Time=cK∧gO d.bP)))]) ⟨⟨_,rfl,.inl ⟨_,_,bJ,bQ (vs:=(aa.cells d.Time)) 0 rfl rfl,rfl,rfl⟩⟩,rfl,trivial⟩ fun w hs=>eM ?_ hs)
 show (vT [(vA (aa.cells d.Time)),(vB (decide (d.dM=false∧d.Time=cK∧gO d.bP)))])=(vT [(vA (aa.cells (e_ l d))),(vB (decide (fD l d)))])
 clear hs w hQ hN hK6 hK5 hK1
 have e1:=BE (l:=l) hk
 have e2:=pc (l:=l) hk
 simp only [e1,e2]
theorem yY (l:aV) (kA:OA) (kC:Nat) (az:List RA) (cA:OA) (cC:Nat) (bA:OA) (bC:Nat) (d:aS) (sgA:OA) (sgC:Nat) (hin:eN l az) (hsl:d.bP.ag.length≤1000000) (hk:d.Out=false∧d.dM=true):
 eu Tryz.prog 71 [(vA (cE.cells (jx l kA kC cA cC bA bC))),(vA (bD.cells (bD.mk d.Out d.dM d.Time (ke d.bP sgA sgC))))] [(rd g0 3 2 fQ),(rd kA l.aH.length 9 (l.aH.map ah.cells)),(rd cA l.aj.length 2 (List.zipWith al.cells l.aj az)),(du (aU al.fK l.aj az)),(rd bA l.ab.length 4 (l.ab.map bx.cells)),(rd sgA d.bP.ag.length 2 (d.bP.ag.map aM.cells))] (vT [(vA (aa.cells (e_ l d))),(vB (decide (fD l d)))]):=by
 refine bu kr Tryz.func71 rfl rfl fun w0 Q hQ hN=>?_
 try dsimp only
 refine WS fun _ hK1=>fP rfl fun b2=>fP rfl fun b3=>AL rfl cV fun b4=>rP 1 [] mn ?_
 refine RK hK1<|WS fun _ hK5=>rS (SX (Bb rfl rfl xe) rfl rfl)<|rS (FU rfl)<|rS (CL (LI d sgA sgC b3 hk) (JS 3 8 1 rfl rfl rfl rfl rfl rfl) rfl)<|rP 1 [] mn ?_
 refine RK hK5<|ai fun _ hK6=>dC cD 9 kr<|dP 1 [] mn ?_
 refine dS (SX (Bn (k:=1) rfl rfl rfl xe rfl om) rfl rfl)<|dS (mT ((1*2)+1) rfl (aA 3 rfl) (Nat.mul_pos om dc) gp rfl)<|dS (gU 1 1 (Value.func (.func 200) [].toArray [].toArray) rfl bJ (aA 3 rfl) (show fQ[1]? =some [(Value.func (.func 199) [].toArray [].toArray),(Value.func (.func 200) [].toArray [].toArray)] from rfl) rfl dc rfl)<|dP 2 [0,1] (mc 2 rfl (mc 1 rfl mn)) ?_
 refine dS (CL (Hb l kA kC az cA cC bA bC d sgA sgC hin) (bh [4,5,6,7,8]) rfl)<|dP 2 [] mn ?_
 refine cO<|f_ rfl bY rfl<|rP 1 [] mn ?_
 refine RK hK6<|an ?_
 refine hQ _ _ _ (aZ (vs:=[(vA (aa.cells d.Time)),(vB (decide (jY d.Time∧gO d.bP)))]) ⟨⟨_,rfl,.inl ⟨_,_,bJ,bQ (vs:=(aa.cells d.Time)) 0 rfl rfl,rfl,rfl⟩⟩,rfl,trivial⟩ fun w hs=>eM ?_ hs)
 show (vT [(vA (aa.cells d.Time)),(vB (decide (jY d.Time∧gO d.bP)))])=(vT [(vA (aa.cells (e_ l d))),(vB (decide (fD l d)))])
 clear hs w hQ hN hK6 hK5 hK1
 have e1:=BK (l:=l) hk
 have e2:=vq (l:=l) hk
 simp only [e1,e2]
theorem zA (l:aV) (kA:OA) (kC:Nat) (az:List RA) (cA:OA) (cC:Nat) (bA:OA) (bC:Nat) (d:aS) (sgA:OA) (sgC:Nat) (hin:eN l az) (hsl:d.bP.ag.length≤1000000) (hk:d.Out=false∧d.dM=false):
 eu Tryz.prog 71 [(vA (cE.cells (jx l kA kC cA cC bA bC))),(vA (bD.cells (bD.mk d.Out d.dM d.Time (ke d.bP sgA sgC))))] [(rd g0 3 2 fQ),(rd kA l.aH.length 9 (l.aH.map ah.cells)),(rd cA l.aj.length 2 (List.zipWith al.cells l.aj az)),(du (aU al.fK l.aj az)),(rd bA l.ab.length 4 (l.ab.map bx.cells)),(rd sgA d.bP.ag.length 2 (d.bP.ag.map aM.cells))] (vT [(vA (aa.cells (e_ l d))),(vB (decide (fD l d)))]):=by
 refine bu kr Tryz.func71 rfl rfl fun w0 Q hQ hN=>?_
 try dsimp only
 refine WS fun _ hK1=>fP rfl fun b2=>fP rfl fun b3=>AL rfl cV fun b4=>rP 1 [] mn ?_
 refine RK hK1<|WS fun _ hK5=>rS (SX (Bb rfl rfl xe) rfl rfl)<|rS (FU rfl)<|rS (CL (KI d sgA sgC b3 hk) (JS 3 8 1 rfl rfl rfl rfl rfl rfl) rfl)<|rP 1 [] mn ?_
 refine RK hK5<|ai fun _ hK6=>dC cD 9 kr<|dP 1 [] mn ?_
 refine dS (SX (Bn (k:=2) rfl rfl rfl xe rfl om) rfl rfl)<|dS (mT ((2*2)+1) rfl (aA 3 rfl) (Nat.mul_pos om dc) gp rfl)<|dS (gU 2 1 (Value.func (.func 202) [].toArray [].toArray) rfl bJ (aA 3 rfl) (show fQ[2]? =some [(Value.func (.func 201) [].toArray [].toArray),(Value.func (.func 202) [].toArray [].toArray)] from rfl) rfl dc rfl)<|dP 2 [0,1] (mc 2 rfl (mc 1 rfl mn)) ?_
 refine dS (CL (HB l kA kC az cA cC bA bC d sgA sgC hin hsl) (bh [4,5,6,7,8]) rfl)<|dP 2 [] mn ?_
 refine cO<|f_ rfl bY rfl<|rP 1 [] mn ?_
 refine RK hK6<|an ?_
 refine hQ _ _ _ (aZ (vs:=[(vA (aa.cells (kv l d.bP))),(vB (decide (dv l d.bP l.cz=0∧d.Time=cK)))]) ⟨⟨_,rfl,.inl ⟨_,_,bJ,bQ (vs:=(aa.cells (kv l d.bP))) 0 rfl rfl,rfl,rfl⟩⟩,rfl,trivial⟩ fun w hs=>eM ?_ hs)
 show (vT [(vA (aa.cells (kv l d.bP))),(vB (decide (dv l d.bP l.cz=0∧d.Time=cK)))])=(vT [(vA (aa.cells (e_ l d))),(vB (decide (fD l d)))])
 clear hs w hQ hN hK6 hK5 hK1
 have e1:=Cd (l:=l) hk
 have e2:=uJ (l:=l) hk
 simp only [e1,e2]
theorem Aq (l:aV) (kA:OA) (kC:Nat) (az:List RA) (cA:OA) (cC:Nat) (bA:OA) (bC:Nat) (d:aS) (sgA:OA) (sgC:Nat) (hin:eN l az) (hsl:d.bP.ag.length≤1000000):
 eu Tryz.prog 71 [(vA (cE.cells (jx l kA kC cA cC bA bC))),(vA (bD.cells (bD.mk d.Out d.dM d.Time (ke d.bP sgA sgC))))] [(rd g0 3 2 fQ),(rd kA l.aH.length 9 (l.aH.map ah.cells)),(rd cA l.aj.length 2 (List.zipWith al.cells l.aj az)),(du (aU al.fK l.aj az)),(rd bA l.ab.length 4 (l.ab.map bx.cells)),(rd sgA d.bP.ag.length 2 (d.bP.ag.map aM.cells))] (vT [(vA (aa.cells (e_ l d))),(vB (decide (fD l d)))]):=by
 by_cases ho:d.Out=true
 ·exact zn l kA kC az cA cC bA bC d sgA sgC hin hsl ho
 by_cases hf:d.dM=true
 ·exact yY l kA kC az cA cC bA bC d sgA sgC hin hsl ⟨by simpa using ho,hf⟩
 ·exact zA l kA kC az cA cC bA bC d sgA sgC hin hsl ⟨by simpa using ho,by simpa using hf⟩
end
section
open Go.RowKit
theorem FL (r:dg) (kA:OA) (kC:Nat) (az:List RA) (cA:OA) (cC:Nat) (bA:OA) (bC:Nat) (slA:OA) (slC:Nat) (drA:OA) (drC:Nat) (ha:List gZ) (heA:OA) (heC:Nat) (tz:List RA) (tA:OA) (tC:Nat) (ms:Value) (gw h:Nat) (gm g1 g2:Nat) (hin:iT r az ha) (htz:tz.length=r.ay.length) (hh:h<r.ay.length) (hok:iS r (h+1)):
 Ee Tryz.prog 74 [(vI ((h:Nat):Int)),(vP g1),(vP g2)] [(rd kA r.aD.aH.length 9 (r.aD.aH.map ah.cells)),(rd cA r.aD.aj.length 2 (List.zipWith al.cells r.aD.aj az)),(du (aU al.fK r.aD.aj az)),(rd bA r.aD.ab.length 4 (r.aD.ab.map bx.cells)),(rd slA r.aF.length 1 (r.aF.map iC)),(rd drA r.cG.length 1 (r.cG.map iC)),(rd heA r.ay.length 1 (List.zipWith eO r.ay ha)),(du (aU gf r.ay ha)),(rd tA ((bX r).length) 1 (List.zipWith wj (bX r) tz)),(du (aU wR (bX r) tz)),(br gw 100 (eC.cells (eC.mk (kx r kA kC cA cC bA bC slA slC drA drC heA heC) (bB.mk tA ((bX r).length) tC) ms))),(br g1 77 [(vP gw)]),(br g2 86 [(Value.map (some gm))])] (gQ iV gm (bw dF (dV r.aD r.ay r.aF.length h 0))) (fun (x:Unit)=>(vT [])) (fun (x:Unit)=>True) (fun (x:Unit)=>(gQ iV gm (bw dF (dV r.aD r.ay r.aF.length (h+1) 0)))):=by
 have hline:=hin.line
 have hhl:=hin.jZ
 have hhs:=hin.has
 have hsll:=hin.j6
 have hdrl:=hin.draw
 have htal:=eA (r:=r)
 refine o5 kr Tryz.func74 rfl rfl fun w0 Q hQ hN=>?_
 try dsimp only
 refine WS fun _ hK1=>rP 1 [] (mr 12 rfl mn) ?_
 refine rS (SX (cf rfl rfl) rfl rfl)<|rP 3 [] (mr 11 rfl mn) ?_
 obtain ⟨ht,hht⟩:=aO r.ay h om
 obtain ⟨hta,hhta⟩:=aO ha h om
 have hhtm:(List.zipWith eO r.ay ha)[h]? =some (eO ht hta):=gn hht hhta
 have hhi:=hin.gF _ _ _ hht hhta
 have hhas:=hhi.qa
 have hto:=hok h ht om hht
 obtain ⟨tr,htr⟩:=aO (bX r) h om
 obtain ⟨tra,htra⟩:=aO tz h om
 have htrm:(List.zipWith wj (bX r) tz)[h]? =some (wj tr tra):=gn htr htra
 refine rS (IA h rfl (aA 9 rfl) E3 dc om om)<|rS (gU h 0 (vS tra.1 tr.length tra.2) rfl bJ (aA 9 rfl) htrm rfl dc rfl) ?_
 have htr2:=wM hht htr
 have htrl:tr.length=r.aF.length:=by rw [htr2,List.length_map]; exact hto.1
 have hto1:=hto.1
 refine rP 2 [] mn ?_
 refine RK hK1<|av ?_
 have hinit:(0≤r.aF.length):=by exact Nat.zero_le _
 refine cp (ι:={z:Nat // (z≤r.aF.length)}) (fun z=>[(0,(vI ((h:Nat):Int))),(1,(vP g1)),(2,(vP g2)),(14,(vS tra.1 tr.length tra.2)),(15,(vI ((tr.length:Nat):Int))),(16,(vI ((z.1:Nat):Int)))]) (fun z=>[(gQ iV gm (bw dF (dV r.aD r.ay r.aF.length h z.1))),(rd kA r.aD.aH.length 9 (r.aD.aH.map ah.cells)).ro,(rd cA r.aD.aj.length 2 (List.zipWith al.cells r.aD.aj az)).ro,(du (aU al.fK r.aD.aj az)).ro,(rd bA r.aD.ab.length 4 (r.aD.ab.map bx.cells)).ro,(rd slA r.aF.length 1 (r.aF.map iC)).ro,(rd drA r.cG.length 1 (r.cG.map iC)).ro,(rd heA r.ay.length 1 (List.zipWith eO r.ay ha)).ro,(du (aU gf r.ay ha)).ro,(rd tA ((bX r).length) 1 (List.zipWith wj (bX r) tz)).ro,(du (aU wR (bX r) tz)).ro,(br gw 100 (eC.cells (eC.mk (kx r kA kC cA cC bA bC slA slC drA drC heA heC) (bB.mk tA ((bX r).length) tC) ms))).ro,(br g1 77 [(vP gw)]).ro,(br g2 86 [(Value.map (some gm))]).ro]) (fun z=>r.aF.length-z.1) ⟨0,hinit⟩ (aL rfl) (aG [0,1,2,3,4,5,6,7,8,9,10,11,12,13]) ?_
 clear hinit
 rintro ⟨i,hl1_0⟩ J2 hJ2
 try dsimp only
 have hlk:i<r.aF.length→(dV r.aD r.ay r.aF.length h i).lookup (i:Int)=dz r.aD r.ay i h:=EM
 refine WS fun _ hK3=>rP 1 [] mn ?_
 refine RK hK3<|ai fun _ hK4=>?_
 refine bM rfl (aQ fun h5=>?_) (aP fun h5=>?_)
 ·refine bp ?_
  refine ae<|ae<|au ?_
  rw [show (dV r.aD r.ay r.aF.length h i)=(dV r.aD r.ay r.aF.length (h+1) 0) from by rw [show i=r.aF.length by omega]; exact Ij]
  refine hN _ _ _ (aZ (vs:=[]) trivial fun w hs=>vM () 0 ?_ ?_ rfl rfl hs)
  ·clear hs w hQ hN hK4 hK3 hK1; rfl
  ·clear hs w hQ hN hK4 hK3 hK1; trivial
 refine WK hK4<|ai fun _ hK6=>av<|WS fun _ hK7=>rP 1 [] mn ?_
 obtain ⟨x,hx⟩:=aO tr i om
 have hxm:=bI aa.cells hx
 refine rS (IA i rfl (show ji _ (rd tra.1 tr.length 2 (tr.map aa.cells)).holds from (dA 10 rfl (cm htr htra (by simp [wR])))) jF dc om om)<|rS (n9 i 0 (aa.cells x) rfl bJ (show ji _ (rd tra.1 tr.length 2 (tr.map aa.cells)).holds from (dA 10 rfl (cm htr htra (by simp [wR])))) hxm rfl dc rfl rfl)<|AL rfl cV fun b8=>rP 1 [] mn ?_
 refine f_ rfl bY rfl<|RK hK7<|WS fun _ hK9=>rP 2 [] (mr 14 rfl mn) ?_
 refine rS (SX (iY (kV:=iV) (x:=((i:Nat):Int)) (l:=(dV r.aD r.ay r.aF.length h i)) (f:=dF) (z:=(aa.mk 0 0)) rfl rfl rfl nJ (eK oZ) xz (by exact aA 1 rfl)) rfl rfl)<|rP 3 [] mn ?_
 refine AL rfl cV fun b10=>f_ rfl bY rfl<|rP 1 [] mn ?_
 refine RK hK9<|ai fun _ hK11=>WS fun _ hK12=>rP 1 [] (mr 14 rfl mn) ?_
 refine rS (SX (cf rfl rfl) rfl rfl)<|rP 4 [] (mr 13 rfl mn) ?_
 refine rS (IA h rfl (aA 9 rfl) zG dc om om)<|rS (gU h 0 (vS hta.1.1 ht.length hta.1.2) rfl bJ (aA 9 rfl) hhtm rfl dc rfl)<|rP 1 [] mn ?_
 obtain ⟨d,hd⟩:=aO ht i om
 obtain ⟨da,hda⟩:=aO hta.2 i om
 have hdm:(List.zipWith aS.cells ht hta.2)[i]? =some (aS.cells d da):=gn hd hda
 refine rS (IA i rfl (show ji _ (rd hta.1.1 ht.length 7 (List.zipWith aS.cells ht hta.2)).holds from (dA 10 rfl (cm hht hhta cZ))) EA dc om om)<|rS (mT (i*7) rfl (show ji _ (rd hta.1.1 ht.length 7 (List.zipWith aS.cells ht hta.2)).holds from (dA 10 rfl (cm hht hhta cZ))) (Nat.mul_pos om dc) gp rfl)<|rS (gU i 0 (vB d.Out) rfl bJ (show ji _ (rd hta.1.1 ht.length 7 (List.zipWith aS.cells ht hta.2)).holds from (dA 10 rfl (cm hht hhta cZ))) hdm rfl dc rfl)<|rP 1 [] mn ?_
 refine c8 (t:=39) rfl (fun h39=>?_) (fun h39=>?_)
 ·refine rP 3 [] mn ?_
  refine RK hK12<|aI rfl<|WS fun _ hK13=>rP 2 [] (mr 15 rfl mn) ?_
  have hb14:(cj (dV r.aD r.ay r.aF.length h i) ((i:Nat):Int))=(dV r.aD r.ay r.aF.length h (i+1)):=by exact Cu (by first|exact pJ hht hd h39|exact qs ((hlk om).symm.trans (Option.not_isSome_iff_eq_none.1 (by rw [h42]; decide))))
  refine oJ (kV:=iV) (x:=((i:Nat):Int)) (C':=[_,_,(gQ iV gm (bw dF (dV r.aD r.ay r.aF.length h (i+1)))),_,_,_,_,_,_,_,_,_,_,_,_,_]) 2 rfl rfl rfl rfl nJ (eK oZ) rfl ((kS _ _ _).symm.trans (congrArg _ hb14)) rfl<|RK hK13<|bp<|ae<|au<|KK hK6<|ak<|rP 2 [] mn ?_
  refine aB ?_
  have hb15:(vI (((i+1):Nat):Int))=(vI (((i:Nat):Int)+1)):=by exact cI om
  refine aN (hJ2 ⟨(i+1),(by first|omega|(simp only []; omega))⟩ _ _ _ rfl os (cv 5<|aY rfl hb15<|dK.nil _) (aG [2,3,4,5,6,7,8,9,10,11,12,13,14,15]))
 refine rP 3 [] mn ?_
 refine RK hK12 ?_
 refine cP rfl (fun h42=>?_) (fun h42=>?_)
 ·rw [Bool.not_eq_true'] at h42
  refine WS fun _ hK16=>rP 2 [] (mr 15 rfl mn) ?_
  have hb17:(cj (dV r.aD r.ay r.aF.length h i) ((i:Nat):Int))=(dV r.aD r.ay r.aF.length h (i+1)):=by exact Cu (by first|exact pJ hht hd h39|exact qs ((hlk om).symm.trans (Option.not_isSome_iff_eq_none.1 (by rw [h42]; decide))))
  refine oJ (kV:=iV) (x:=((i:Nat):Int)) (C':=[_,_,(gQ iV gm (bw dF (dV r.aD r.ay r.aF.length h (i+1)))),_,_,_,_,_,_,_,_,_,_,_,_,_]) 2 rfl rfl rfl rfl nJ (eK oZ) rfl ((kS _ _ _).symm.trans (congrArg _ hb17)) rfl<|RK hK16<|bp<|ae<|au<|KK hK6<|ak<|rP 2 [] mn ?_
  refine aB ?_
  have hb18:(vI (((i+1):Nat):Int))=(vI (((i:Nat):Int)+1)):=by exact cI om
  refine aN (hJ2 ⟨(i+1),(by first|omega|(simp only []; omega))⟩ _ _ _ rfl os (cv 5<|aY rfl hb18<|dK.nil _) (aG [2,3,4,5,6,7,8,9,10,11,12,13,14,15]))
 rw [Bool.not_eq_false'] at h42
 refine WK hK11<|ak ?_
 obtain ⟨s0,hs0⟩:=Option.isSome_iff_exists.1 h42
 have hs1:dz r.aD r.ay i h=some s0:=(hlk om).symm.trans hs0
 have hxe:=EY htr2 hx hd
 have hsb:=uj (fun j x hj hx=>hok j x om hx) om hs1
 have htb:=xG (hto.2 d (aw hd))
 rw [← hxe] at htb
 rw [show ((List.lookup ((i:Nat):Int) (dV r.aD r.ay r.aF.length h i)).getD (aa.mk 0 0))=s0 from by rw [hs0]; rfl]
 refine rP 6 [0,1,2] (mr 15 rfl (mc 0 rfl (mc 1 rfl mn))) ?_
 refine rS (BI rfl (o6 om om om))<|rP 5 [0,1] (mc 0 rfl (mc 1 rfl mn)) ?_
 refine rS (BI rfl (o6 om om om))<|rP 1 [] mn ?_
 refine rS (SX (bg (xs:=[(0,.tmp 52),(1,.tmp 58)]) (cs:=(aa.cells (aa.mk (s0.Lo+(x.Lo/10)) (s0.Hi+(x.Hi/10))))) rfl rfl (bf fg rfl)) rfl rfl) ?_
 have hb19:(eg (dV r.aD r.ay r.aF.length h i) ((i:Nat):Int) (aa.mk (s0.Lo+(x.Lo/10)) (s0.Hi+(x.Hi/10))))=(dV r.aD r.ay r.aF.length h (i+1)):=by exact H8 om (by rw [hs1]; rfl) (by rw [hxe]; exact vj hht hd (by rw [h39]; decide) hs1)
 refine jk (kV:=iV) (x:=((i:Nat):Int)) (C':=[_,_,(gQ iV gm (bw dF (dV r.aD r.ay r.aF.length h (i+1)))),_,_,_,_,_,_,_,_,_,_,_,_,_]) 2 rfl rfl rfl rfl nJ (eK oZ) rfl ((gK _ _ _ _).symm.trans (congrArg _ hb19)) rfl<|aB<|ax<|KK hK6<|ak<|rP 2 [] mn ?_
 refine aB ?_
 have hb20:(vI (((i+1):Nat):Int))=(vI (((i:Nat):Int)+1)):=by exact cI om
 refine aN (hJ2 ⟨(i+1),(by first|omega|(simp only []; omega))⟩ _ _ _ rfl os (cv 5<|aY rfl hb20<|dK.nil _) (aG [2,3,4,5,6,7,8,9,10,11,12,13,14,15]))
theorem Mj (r:dg) (kA:OA) (kC:Nat) (az:List RA) (cA:OA) (cC:Nat) (bA:OA) (bC:Nat) (slA:OA) (slC:Nat) (drA:OA) (drC:Nat) (ha:List gZ) (heA:OA) (heC:Nat) (tz:List RA) (tA:OA) (tC:Nat) (ms:Value) (gw n:Nat) (hin:iT r az ha) (htz:tz.length=r.ay.length) (hn:n≤r.ay.length) (hok:iS r n):
 oY Tryz.prog 48 [(vP gw),(vI ((n:Nat):Int))] [(rd kA r.aD.aH.length 9 (r.aD.aH.map ah.cells)),(rd cA r.aD.aj.length 2 (List.zipWith al.cells r.aD.aj az)),(du (aU al.fK r.aD.aj az)),(rd bA r.aD.ab.length 4 (r.aD.ab.map bx.cells)),(rd slA r.aF.length 1 (r.aF.map iC)),(rd drA r.cG.length 1 (r.cG.map iC)),(rd heA r.ay.length 1 (List.zipWith eO r.ay ha)),(du (aU gf r.ay ha)),(rd tA ((bX r).length) 1 (List.zipWith wj (bX r) tz)),(du (aU wR (bX r) tz)),(br gw 100 (eC.cells (eC.mk (kx r kA kC cA cC bA bC slA slC drA drC heA heC) (bB.mk tA ((bX r).length) tC) ms)))] (fun (x:Nat)=>(Value.map (some x))) (fun (x:Nat)=>True) (fun (x:Nat)=>[(gQ iV x (bw dF (qi r n)))]):=by
 have hline:=hin.line
 have hhl:=hin.jZ
 have hhs:=hin.has
 have hsll:=hin.j6
 have hdrl:=hin.draw
 have htal:=eA (r:=r)
 refine ff kr Tryz.func48 rfl rfl fun w0 Q hQ hN=>?_
 try dsimp only
 refine WS fun _ hK1=>t_ rfl rfl fun b2=>rP 1 [] mn ?_
 refine RK hK1<|WS fun _ hK3=>mD (kV:=iV) rfl rfl fun b4=>?_
 try dsimp only
 refine AL rfl NH fun b5=>GW rfl Jh rfl rfl<|RK hK3<|ai fun _ hK6=>WS fun _ hK7=>rP 1 [] (mc 2 rfl mn) ?_
 refine rS (SX (cf rfl rfl) rfl rfl)<|rP 5 [] (mr 13 rfl mn) ?_
 refine RK hK7<|av ?_
 skip
 have hinit:(0≤r.aF.length):=by exact Nat.zero_le _
 refine cp (ι:={z:Nat // (z≤r.aF.length)}) (fun z=>[(1,(vI ((n:Nat):Int))),(2,(vP b2)),(5,(vP b5)),(15,(vI ((r.aF.length:Nat):Int))),(16,(vI ((z.1:Nat):Int)))]) (fun z=>[(br b5 86 [(Value.map (some b4))]),(gQ iV b4 (bw dF (dV r.aD r.ay z.1 0 0))),(br b2 77 [(vP gw)]),(rd kA r.aD.aH.length 9 (r.aD.aH.map ah.cells)).ro,(rd cA r.aD.aj.length 2 (List.zipWith al.cells r.aD.aj az)).ro,(du (aU al.fK r.aD.aj az)).ro,(rd bA r.aD.ab.length 4 (r.aD.ab.map bx.cells)).ro,(rd slA r.aF.length 1 (r.aF.map iC)).ro,(rd drA r.cG.length 1 (r.cG.map iC)).ro,(rd heA r.ay.length 1 (List.zipWith eO r.ay ha)).ro,(du (aU gf r.ay ha)).ro,(rd tA ((bX r).length) 1 (List.zipWith wj (bX r) tz)).ro,(du (aU wR (bX r) tz)).ro,(br gw 100 (eC.cells (eC.mk (kx r kA kC cA cC bA bC slA slC drA drC heA heC) (bB.mk tA ((bX r).length) tC) ms))).ro]) (fun z=>r.aF.length-z.1) ⟨0,hinit⟩ (aL rfl) (aG [0,1,2,3,4,5,6,7,8,9,10,11,12,13]) ?_
 clear hinit
 rintro ⟨i,hl3_0⟩ J8 hJ8
 try dsimp only
 refine WS fun _ hK9=>rP 1 [] mn ?_
 refine RK hK9<|ai fun _ hK10=>?_
 refine cP rfl (aP fun h11=>?_) (aQ fun h11=>?_)
 ·refine WK hK10 ?_
  refine ai fun _ hK12=>av<|WS fun _ hK13=>rP 2 [] mn ?_
  refine RK hK13<|ak<|rP 2 [] (mc 0 rfl mn) ?_
  refine rS (SX (bg (xs:=[]) (cs:=(aa.cells (aa.mk 0 0))) rfl rfl (bf fg rfl)) rfl rfl) ?_
  have hb14:(eg (dV r.aD r.ay i 0 0) ((i:Nat):Int) (aa.mk 0 0))=(dV r.aD r.ay (i+1) 0 0):=by exact HG
  refine jk (kV:=iV) (x:=((i:Nat):Int)) (C':=[_,(gQ iV b4 (bw dF (dV r.aD r.ay (i+1) 0 0))),_,_,_,_,_,_,_,_,_,_,_,_]) 1 rfl rfl rfl rfl nJ (eK oZ) rfl ((gK _ _ _ _).symm.trans (congrArg _ hb14)) rfl<|aB<|ax<|KK hK12<|ak<|rP 2 [] mn ?_
  refine aB ?_
  have hb15:(vI (((i+1):Nat):Int))=(vI (((i:Nat):Int)+1)):=by exact cI om
  refine aN (hJ8 ⟨(i+1),(by first|omega|(simp only []; omega))⟩ _ _ _ rfl os (cv 4<|aY rfl hb15<|dK.nil _) (aG [0,1,2,3,4,5,6,7,8,9,10,11,12,13]))
 refine bp<|ae<|ae<|au<|KK hK6<|WS fun _ hK16=>rS (FU rfl)<|rP 1 [] mn ?_
 refine RK hK16<|ai fun _ hK17=>WS fun _ hK18=>rP 2 [] mn ?_
 refine RK hK18<|av ?_
 rw [show (dV r.aD r.ay i 0 0)=(dV r.aD r.ay r.aF.length 0 0) from by rw [show i=r.aF.length by omega]]
 have hinit:(0≤n):=by exact Nat.zero_le _
 refine cp (ι:={z:Nat // (z≤n)}) (fun z=>[(2,(vP b2)),(5,(vP b5)),(7,(Value.func (.func 74) [].toArray [(vP b2),(vP b5)].toArray)),(24,(vI ((n:Nat):Int))),(25,(vI ((z.1:Nat):Int)))]) (fun z=>[(br b5 86 [(Value.map (some b4))]),(gQ iV b4 (bw dF (dV r.aD r.ay r.aF.length z.1 0))),(br b2 77 [(vP gw)]),(rd kA r.aD.aH.length 9 (r.aD.aH.map ah.cells)).ro,(rd cA r.aD.aj.length 2 (List.zipWith al.cells r.aD.aj az)).ro,(du (aU al.fK r.aD.aj az)).ro,(rd bA r.aD.ab.length 4 (r.aD.ab.map bx.cells)).ro,(rd slA r.aF.length 1 (r.aF.map iC)).ro,(rd drA r.cG.length 1 (r.cG.map iC)).ro,(rd heA r.ay.length 1 (List.zipWith eO r.ay ha)).ro,(du (aU gf r.ay ha)).ro,(rd tA ((bX r).length) 1 (List.zipWith wj (bX r) tz)).ro,(du (aU wR (bX r) tz)).ro,(br gw 100 (eC.cells (eC.mk (kx r kA kC cA cC bA bC slA slC drA drC heA heC) (bB.mk tA ((bX r).length) tC) ms))).ro]) (fun z=>n-z.1) ⟨0,hinit⟩ (aL rfl) (aG [0,1,2,3,4,5,6,7,8,9,10,11,12,13]) ?_
 clear hinit
 rintro ⟨h,hl9_0⟩ J19 hJ19
 try dsimp only
 refine WS fun _ hK20=>rP 1 [] mn ?_
 refine RK hK20<|ai fun _ hK21=>?_
 refine bM rfl (aQ fun h22=>?_) (aP fun h22=>?_)
 ·refine bp ?_
  refine ae<|ae<|au<|KK hK17<|ai fun _ hK28=>?_
  rw [show (dV r.aD r.ay r.aF.length h 0)=(qi r n) from by rw [show h=n by omega]; exact HH]
  refine ak<|rP 2 [] (mc 0 rfl mn) ?_
  refine RK hK28<|an ?_
  refine hQ _ _ _ (aZ (vs:=[(Value.map (some b4))]) ⟨rfl,trivial⟩ fun w hs=>ej b4 [1] ?_ ?_ rfl rfl rfl hs)
  ·rfl
  ·trivial
 refine WK hK21<|ai fun _ hK23=>av<|WS fun _ hK24=>rP 2 [] mn ?_
 refine RK hK24<|ak<|rP 2 [] mn ?_
 refine lF 1 rfl rfl rfl rfl (FL r kA kC az cA cC bA bC slA slC drA drC ha heA heC tz tA tC ms gw h b4 b2 b5 hin htz om (by exact fun j x hj hx=>hok j x om hx)) rfl (eo 3 rfl rfl (eD (bO _)) (eo 4 rfl rfl (eD (bO _)) (eo 5 rfl rfl (bO _) (eo 6 rfl rfl (eD (bO _)) (eo 7 rfl rfl (eD (bO _)) (eo 8 rfl rfl (eD (bO _)) (eo 9 rfl rfl (eD (bO _)) (eo 10 rfl rfl (bO _) (eo 11 rfl rfl (eD (bO _)) (eo 12 rfl rfl (bO _) (eo 13 rfl rfl (eD (bO _)) (eo 2 rfl rfl (bO _) (eo 0 rfl rfl (bO _) nu))))))))))))) rfl (fun y25 hy26=>?_)
 try dsimp only
 refine aB<|ax<|KK hK23<|ak<|rP 2 [] mn ?_
 refine aB ?_
 have hb27:(vI (((h+1):Nat):Int))=(vI (((h:Nat):Int)+1)):=by exact cI om
 refine aN (hJ19 ⟨(h+1),(by first|omega|(simp only []; omega))⟩ _ _ _ rfl os (cv 4<|aY rfl hb27<|dK.nil _) (aG [0,1,2,3,4,5,6,7,8,9,10,11,12,13]))
end
section
open Go.RowKit
theorem Cc (r:dg) (kA:OA) (kC:Nat) (az:List RA) (cA:OA) (cC:Nat) (bA:OA) (bC:Nat) (slA:OA) (slC:Nat) (drA:OA) (drC:Nat) (ha:List gZ) (heA:OA) (heC:Nat) (hin:iT r az ha):
 oY Tryz.prog 42 [(vA (eT.cells (kx r kA kC cA cC bA bC slA slC drA drC heA heC)))] [(rd g0 3 2 fQ),(rd kA r.aD.aH.length 9 (r.aD.aH.map ah.cells)),(rd cA r.aD.aj.length 2 (List.zipWith al.cells r.aD.aj az)),(du (aU al.fK r.aD.aj az)),(rd bA r.aD.ab.length 4 (r.aD.ab.map bx.cells)),(rd slA r.aF.length 1 (r.aF.map iC)),(rd drA r.cG.length 1 (r.cG.map iC)),(rd heA r.ay.length 1 (List.zipWith eO r.ay ha)),(du (aU gf r.ay ha))] (fun (x:Bool×Int×Nat×Nat×(OA)×Nat×(List RA))=>bif x.1 then (vT [(Value.pointer (some ⟨x.2.2.1,0,none⟩)),(vI 0)]) else (vT [(Value.pointer none),(vI x.2.1)])) (fun (x:Bool×Int×Nat×Nat×(OA)×Nat×(List RA))=>(x.1=true→(fV r=0∧x.2.2.2.2.2.2.length=r.ay.length))∧(x.1=false→(x.2.1=fV r∧ ¬ fV r=0))) (fun (x:Bool×Int×Nat×Nat×(OA)×Nat×(List RA))=>bif x.1 then [(br x.2.2.1 100 (eC.cells (eC.mk (kx r kA kC cA cC bA bC slA slC drA drC heA heC) (bB.mk x.2.2.2.2.1 ((bX r).length) x.2.2.2.2.2.1) (Value.map (some x.2.2.2.1))))),(own x.2.2.2.2.1 x.2.2.2.2.2.1 78 1 (List.zipWith wj (bX r) x.2.2.2.2.2.2)),(bV (aU yh (bX r) x.2.2.2.2.2.2)),(gQ iV x.2.2.2.1 (bw dF (aJ r)))] else []):=by
 have hline:=hin.line
 have hhl:=hin.jZ
 have hhs:=hin.has
 have hsll:=hin.j6
 have hdrl:=hin.draw
 have htal:=eA (r:=r)
 refine ff kr Tryz.func42 rfl rfl fun w0 Q hQ hN=>?_
 try dsimp only
 refine WS fun _ hK1=>fP rfl fun b2=>rP 2 [] mn ?_
 refine RK hK1<|ai fun _ hK3=>WS fun _ hK4=>rP 1 [] mn ?_
 refine rS (LP (cE.cells (jx r.aD kA kC cA cC bA bC)) 0 rfl bJ rfl rfl rfl)<|rS (CL (yM r.aD kA kC az cA cC bA bC sd) (bh [2,3,4,5]) rfl)<|rP 1 [] mn ?_
 refine RK hK4<|WS fun _ hK5=>rP 2 [] mn ?_
 refine RK hK5 ?_
 refine cP rfl (bk fun h20=>?_) (bj fun h20=>?_)
 ·refine WS fun _ hK6=>?_
  refine rP 3 [] mn ?_
  refine RK hK6<|an ?_
  refine hQ _ _ _ (aZ (vs:=[(Value.pointer none),(vI (dh r.aD))]) ⟨rfl,rfl,trivial⟩ fun w hs=>ej (false,(dh r.aD),0,0,none,0,[]) [] ?_ ?_ rfl rfl (by first|rfl|(show List.all _ _=true; simp only [cond_true,cg,List.all_nil,eG,Bool.and_true]; rfl)) hs)
  ·rfl
  ·refine ⟨fun q=>Bool.noConfusion (show false=true from q),fun _=>?_⟩; first|(have e:=hG h20; exact ⟨e.symm,fun q=>h20 (e.symm.trans q)⟩)|(have e:=bG h20 (fun q:bR r=>by have q1:=q.num; have q2:=q.mR; have q3:=q.nh; have q4:=q.mU; omega); exact ⟨e.symm,fun q=>absurd (e.symm.trans q) dc⟩)|(have e:=bG h20 (fun q:bR r=>by exact absurd (q.ins.symm.trans h59) dc); exact ⟨e.symm,fun q=>absurd (e.symm.trans q) dc⟩)|(have e:=bG h20 (fun q:bR r=>by exact absurd (q.drawn hx) h70); exact ⟨e.symm,fun q=>absurd (e.symm.trans q) dc⟩)|(have e:=bG h20 (fun q:bR r=>by have q1:=(q.ids i y hy).2 z om hz; omega); exact ⟨e.symm,fun q=>absurd (e.symm.trans q) dc⟩)|(have e:=bG h20 (fun q:bR r=>by have q1:=(q.gF ht (aw hht)).1; omega); exact ⟨e.symm,fun q=>absurd (e.symm.trans q) dc⟩)|(have e:=bG h20 (fun q:bR r=>by exact h117 ((q.gF ht (aw hht)).2 d (aw hd))); exact ⟨e.symm,fun q=>absurd (e.symm.trans q) dc⟩)
 refine WK hK3<|WS fun _ hK7=>rP 4 [] (mc 0 rfl mn) ?_
 refine RK hK7<|WS fun _ hK8=>rP 2 [] (mc 0 rfl mn) ?_
 refine cX (uN drA r.cG.length drC) (aT) rfl fun b11 hy10=>?_
 try dsimp only
 refine cX (vw r.cG drA drC b11 sd) (bh [8,0]) rfl fun y12 hy13=>?_
 obtain ⟨a14,c15⟩:=y12
 try dsimp only
 refine rP 1 [] mn ?_
 refine RK hK8<|ai fun _ hK16=>WS fun _ hK17=>rP 1 [] mn ?_
 refine fc (xs:=[.tmp 29]) (cs:=[(vI ((r.aF.length:Nat):Int))]) rfl dB lT rfl rfl rfl rfl (by simp [Value.cells]) rfl rfl fun b18=>rS (CL (eu.eq (lG 1 5 ([((r.aF.length:Nat):Int)]) (some ⟨b18,0,none⟩) 1 sd) dx) (bq (a_ 0 rfl rfl (by simp [bT]) rfl)<|aT) rfl)<|rP 2 [] mn ?_
 refine c8 (t:=33) rfl (bk fun h33=>?_) (bj fun h33=>?_)
 ·refine rP 26 [] mn ?_
  refine RK hK17<|aI rfl<|WS fun _ hK19=>rP 2 [] mn ?_
  refine RK hK19<|an ?_
  refine hQ _ _ _ (aZ (vs:=[(Value.pointer none),(vI 60)]) ⟨rfl,rfl,trivial⟩ fun w hs=>ej (false,60,0,0,none,0,[]) [] ?_ ?_ rfl rfl (by first|rfl|(show List.all _ _=true; simp only [cond_true,cg,List.all_nil,eG,Bool.and_true]; rfl)) hs)
  ·rfl
  ·refine ⟨fun q=>Bool.noConfusion (show false=true from q),fun _=>?_⟩; first|(have e:=hG h20; exact ⟨e.symm,fun q=>h20 (e.symm.trans q)⟩)|(have e:=bG h20 (fun q:bR r=>by have q1:=q.num; have q2:=q.mR; have q3:=q.nh; have q4:=q.mU; omega); exact ⟨e.symm,fun q=>absurd (e.symm.trans q) dc⟩)|(have e:=bG h20 (fun q:bR r=>by exact absurd (q.ins.symm.trans h59) dc); exact ⟨e.symm,fun q=>absurd (e.symm.trans q) dc⟩)|(have e:=bG h20 (fun q:bR r=>by exact absurd (q.drawn hx) h70); exact ⟨e.symm,fun q=>absurd (e.symm.trans q) dc⟩)|(have e:=bG h20 (fun q:bR r=>by have q1:=(q.ids i y hy).2 z om hz; omega); exact ⟨e.symm,fun q=>absurd (e.symm.trans q) dc⟩)|(have e:=bG h20 (fun q:bR r=>by have q1:=(q.gF ht (aw hht)).1; omega); exact ⟨e.symm,fun q=>absurd (e.symm.trans q) dc⟩)|(have e:=bG h20 (fun q:bR r=>by exact h117 ((q.gF ht (aw hht)).2 d (aw hd))); exact ⟨e.symm,fun q=>absurd (e.symm.trans q) dc⟩)
 refine rP 6 [] mn ?_
 refine c8 (t:=39) rfl (bk fun h39=>?_) (bj fun h39=>?_)
 ·refine rP 20 [] mn ?_
  refine RK hK17<|aI rfl<|WS fun _ hK20=>rP 2 [] mn ?_
  refine RK hK20<|an ?_
  refine hQ _ _ _ (aZ (vs:=[(Value.pointer none),(vI 60)]) ⟨rfl,rfl,trivial⟩ fun w hs=>ej (false,60,0,0,none,0,[]) [] ?_ ?_ rfl rfl (by first|rfl|(show List.all _ _=true; simp only [cond_true,cg,List.all_nil,eG,Bool.and_true]; rfl)) hs)
  ·rfl
  ·refine ⟨fun q=>Bool.noConfusion (show false=true from q),fun _=>?_⟩; first|(have e:=hG h20; exact ⟨e.symm,fun q=>h20 (e.symm.trans q)⟩)|(have e:=bG h20 (fun q:bR r=>by have q1:=q.num; have q2:=q.mR; have q3:=q.nh; have q4:=q.mU; omega); exact ⟨e.symm,fun q=>absurd (e.symm.trans q) dc⟩)|(have e:=bG h20 (fun q:bR r=>by exact absurd (q.ins.symm.trans h59) dc); exact ⟨e.symm,fun q=>absurd (e.symm.trans q) dc⟩)|(have e:=bG h20 (fun q:bR r=>by exact absurd (q.drawn hx) h70); exact ⟨e.symm,fun q=>absurd (e.symm.trans q) dc⟩)|(have e:=bG h20 (fun q:bR r=>by have q1:=(q.ids i y hy).2 z om hz; omega); exact ⟨e.symm,fun q=>absurd (e.symm.trans q) dc⟩)|(have e:=bG h20 (fun q:bR r=>by have q1:=(q.gF ht (aw hht)).1; omega); exact ⟨e.symm,fun q=>absurd (e.symm.trans q) dc⟩)|(have e:=bG h20 (fun q:bR r=>by exact h117 ((q.gF ht (aw hht)).2 d (aw hd))); exact ⟨e.symm,fun q=>absurd (e.symm.trans q) dc⟩)
 refine rP 2 [] (mc 3 rfl mn) ?_
 refine fc (xs:=[.tmp 41]) (cs:=[(vI r.qV)]) rfl dB lT rfl rfl rfl rfl (by simp [Value.cells]) rfl rfl fun b21=>rS (CL (eu.eq (lG 0 5 ([r.qV]) (some ⟨b21,0,none⟩) 1 sd) dx) (bq (a_ 0 rfl rfl (by simp [bT]) rfl)<|aT) rfl)<|rP 3 [] mn ?_
 refine c8 (t:=46) rfl (bk fun h46=>?_) (bj fun h46=>?_)
 ·refine rP 13 [] mn ?_
  refine RK hK17<|aI rfl<|WS fun _ hK22=>rP 2 [] mn ?_
  refine RK hK22<|an ?_
  refine hQ _ _ _ (aZ (vs:=[(Value.pointer none),(vI 60)]) ⟨rfl,rfl,trivial⟩ fun w hs=>ej (false,60,0,0,none,0,[]) [] ?_ ?_ rfl rfl (by first|rfl|(show List.all _ _=true; simp only [cond_true,cg,List.all_nil,eG,Bool.and_true]; rfl)) hs)
  ·rfl
  ·refine ⟨fun q=>Bool.noConfusion (show false=true from q),fun _=>?_⟩; first|(have e:=hG h20; exact ⟨e.symm,fun q=>h20 (e.symm.trans q)⟩)|(have e:=bG h20 (fun q:bR r=>by have q1:=q.num; have q2:=q.mR; have q3:=q.nh; have q4:=q.mU; omega); exact ⟨e.symm,fun q=>absurd (e.symm.trans q) dc⟩)|(have e:=bG h20 (fun q:bR r=>by exact absurd (q.ins.symm.trans h59) dc); exact ⟨e.symm,fun q=>absurd (e.symm.trans q) dc⟩)|(have e:=bG h20 (fun q:bR r=>by exact absurd (q.drawn hx) h70); exact ⟨e.symm,fun q=>absurd (e.symm.trans q) dc⟩)|(have e:=bG h20 (fun q:bR r=>by have q1:=(q.ids i y hy).2 z om hz; omega); exact ⟨e.symm,fun q=>absurd (e.symm.trans q) dc⟩)|(have e:=bG h20 (fun q:bR r=>by have q1:=(q.gF ht (aw hht)).1; omega); exact ⟨e.symm,fun q=>absurd (e.symm.trans q) dc⟩)|(have e:=bG h20 (fun q:bR r=>by exact h117 ((q.gF ht (aw hht)).2 d (aw hd))); exact ⟨e.symm,fun q=>absurd (e.symm.trans q) dc⟩)
 refine rP 3 [] (mc 4 rfl mn) ?_
 refine fc (xs:=[.tmp 49]) (cs:=[(vI ((r.ay.length:Nat):Int))]) rfl dB lT rfl rfl rfl rfl (by simp [Value.cells]) rfl rfl fun b23=>rS (CL (eu.eq (lG 1 3 ([((r.ay.length:Nat):Int)]) (some ⟨b23,0,none⟩) 1 sd) dx) (bq (a_ 0 rfl rfl (by simp [bT]) rfl)<|aT) rfl)<|rP 3 [] mn ?_
 refine c8 (t:=54) rfl (bk fun h54=>?_) (bj fun h54=>?_)
 ·refine rP 5 [] mn ?_
  refine RK hK17<|aI rfl<|WS fun _ hK24=>rP 2 [] mn ?_
  refine RK hK24<|an ?_
  refine hQ _ _ _ (aZ (vs:=[(Value.pointer none),(vI 60)]) ⟨rfl,rfl,trivial⟩ fun w hs=>ej (false,60,0,0,none,0,[]) [] ?_ ?_ rfl rfl (by first|rfl|(show List.all _ _=true; simp only [cond_true,cg,List.all_nil,eG,Bool.and_true]; rfl)) hs)
  ·rfl
  ·refine ⟨fun q=>Bool.noConfusion (show false=true from q),fun _=>?_⟩; first|(have e:=hG h20; exact ⟨e.symm,fun q=>h20 (e.symm.trans q)⟩)|(have e:=bG h20 (fun q:bR r=>by have q1:=q.num; have q2:=q.mR; have q3:=q.nh; have q4:=q.mU; omega); exact ⟨e.symm,fun q=>absurd (e.symm.trans q) dc⟩)|(have e:=bG h20 (fun q:bR r=>by exact absurd (q.ins.symm.trans h59) dc); exact ⟨e.symm,fun q=>absurd (e.symm.trans q) dc⟩)|(have e:=bG h20 (fun q:bR r=>by exact absurd (q.drawn hx) h70); exact ⟨e.symm,fun q=>absurd (e.symm.trans q) dc⟩)|(have e:=bG h20 (fun q:bR r=>by have q1:=(q.ids i y hy).2 z om hz; omega); exact ⟨e.symm,fun q=>absurd (e.symm.trans q) dc⟩)|(have e:=bG h20 (fun q:bR r=>by have q1:=(q.gF ht (aw hht)).1; omega); exact ⟨e.symm,fun q=>absurd (e.symm.trans q) dc⟩)|(have e:=bG h20 (fun q:bR r=>by exact h117 ((q.gF ht (aw hht)).2 d (aw hd))); exact ⟨e.symm,fun q=>absurd (e.symm.trans q) dc⟩)
 refine rP 2 [] (mc 5 rfl mn) ?_
 refine rS (CL (lG 0 9999 r.aF slA slC sd) (bh [11]) rfl)<|rP 2 [] mn ?_
 refine RK hK17 ?_
 refine cP rfl (fun h59=>?_) (fun h59=>?_)
 ·rw [Bool.not_eq_true'] at h59
  refine WS fun _ hK25=>rP 2 [] mn ?_
  refine RK hK25<|an ?_
  refine hQ _ _ _ (aZ (vs:=[(Value.pointer none),(vI 60)]) ⟨rfl,rfl,trivial⟩ fun w hs=>ej (false,60,0,0,none,0,[]) [] ?_ ?_ rfl rfl (by first|rfl|(show List.all _ _=true; simp only [cond_true,cg,List.all_nil,eG,Bool.and_true]; rfl)) hs)
  ·rfl
  ·refine ⟨fun q=>Bool.noConfusion (show false=true from q),fun _=>?_⟩; first|(have e:=hG h20; exact ⟨e.symm,fun q=>h20 (e.symm.trans q)⟩)|(have e:=bG h20 (fun q:bR r=>by have q1:=q.num; have q2:=q.mR; have q3:=q.nh; have q4:=q.mU; omega); exact ⟨e.symm,fun q=>absurd (e.symm.trans q) dc⟩)|(have e:=bG h20 (fun q:bR r=>by exact absurd (q.ins.symm.trans h59) dc); exact ⟨e.symm,fun q=>absurd (e.symm.trans q) dc⟩)|(have e:=bG h20 (fun q:bR r=>by exact absurd (q.drawn hx) h70); exact ⟨e.symm,fun q=>absurd (e.symm.trans q) dc⟩)|(have e:=bG h20 (fun q:bR r=>by have q1:=(q.ids i y hy).2 z om hz; omega); exact ⟨e.symm,fun q=>absurd (e.symm.trans q) dc⟩)|(have e:=bG h20 (fun q:bR r=>by have q1:=(q.gF ht (aw hht)).1; omega); exact ⟨e.symm,fun q=>absurd (e.symm.trans q) dc⟩)|(have e:=bG h20 (fun q:bR r=>by exact h117 ((q.gF ht (aw hht)).2 d (aw hd))); exact ⟨e.symm,fun q=>absurd (e.symm.trans q) dc⟩)
 rw [Bool.not_eq_false'] at h59
 refine WK hK16<|ai fun _ hK26=>WS fun _ hK27=>?_
 have hsd:(iq r.cG).length=r.aF.length:=by rw [ow]; omega
 refine rP 2 [] mn ?_
 refine RK hK27<|av ?_
 have hinit:(0≤r.aF.length)∧(pK r 0):=by exact ⟨Nat.zero_le _,Au⟩
 refine cp (ι:={z:Nat // (z≤r.aF.length)∧(pK r z)}) (fun z=>[(1,(vP b2)),(5,(vI ((r.aF.length:Nat):Int))),(6,(vS a14 r.cG.length c15)),(60,(vI ((r.aF.length:Nat):Int))),(61,(vI ((z.1:Nat):Int)))]) (fun z=>[(own a14 c15 3 1 ((iq r.cG).map iC)),(br b2 32 (eT.cells (kx r kA kC cA cC bA bC slA slC drA drC heA heC))),(rd g0 3 2 fQ).ro,(rd kA r.aD.aH.length 9 (r.aD.aH.map ah.cells)).ro,(rd cA r.aD.aj.length 2 (List.zipWith al.cells r.aD.aj az)).ro,(du (aU al.fK r.aD.aj az)).ro,(rd bA r.aD.ab.length 4 (r.aD.ab.map bx.cells)).ro,(rd slA r.aF.length 1 (r.aF.map iC)).ro,(rd drA r.cG.length 1 (r.cG.map iC)).ro,(rd heA r.ay.length 1 (List.zipWith eO r.ay ha)).ro,(du (aU gf r.ay ha)).ro]) (fun z=>r.aF.length-z.1) ⟨0,hinit⟩ (aL rfl) (aG [3,5,6,7,8,9,10,11,12,13,14]) ?_
 clear hinit
 rintro ⟨i,⟨hl9_0,hl9_1⟩⟩ J28 hJ28
 try dsimp only
 refine WS fun _ hK29=>rP 1 [] mn ?_
 refine RK hK29<|ai fun _ hK30=>?_
 refine cP rfl (aP fun h62=>?_) (aQ fun h62=>?_)
 ·refine WK hK30 ?_
  refine ai fun _ hK31=>av<|WS fun _ hK32=>rP 2 [] mn ?_
  refine RK hK32<|ai fun _ hK33=>dC cD 24 kr<|dP 2 [] mn ?_
  obtain ⟨x,hx⟩:=aO (iq r.cG) i om
  have hxm:=bI iC hx
  refine dS (IA i rfl (aK (n:=r.cG.length) 0 rfl sq) dB dc om om)<|dS (gU i 0 (vI x) rfl bJ (aK (n:=(iq r.cG).length) 0 rfl sm) hxm rfl dc rfl)<|dP 3 [] mn ?_
  refine iL (t:=70) rfl (bk fun h70=>?_) (bj fun h70=>?_)
  ·refine dP 17 [] mn ?_
   refine cO<|RK hK33<|aI rfl<|WS fun _ hK34=>rP 2 [] mn ?_
   refine RK hK34<|an ?_
   refine hQ _ _ _ (aZ (vs:=[(Value.pointer none),(vI 60)]) ⟨rfl,rfl,trivial⟩ fun w hs=>ej (false,60,0,0,none,0,[]) [] ?_ ?_ rfl rfl (by first|rfl|(show List.all _ _=true; simp only [cond_true,cg,List.all_nil,eG,Bool.and_true]; rfl)) hs)
   ·rfl
   ·refine ⟨fun q=>Bool.noConfusion (show false=true from q),fun _=>?_⟩; first|(have e:=hG h20; exact ⟨e.symm,fun q=>h20 (e.symm.trans q)⟩)|(have e:=bG h20 (fun q:bR r=>by have q1:=q.num; have q2:=q.mR; have q3:=q.nh; have q4:=q.mU; omega); exact ⟨e.symm,fun q=>absurd (e.symm.trans q) dc⟩)|(have e:=bG h20 (fun q:bR r=>by exact absurd (q.ins.symm.trans h59) dc); exact ⟨e.symm,fun q=>absurd (e.symm.trans q) dc⟩)|(have e:=bG h20 (fun q:bR r=>by exact absurd (q.drawn hx) h70); exact ⟨e.symm,fun q=>absurd (e.symm.trans q) dc⟩)|(have e:=bG h20 (fun q:bR r=>by have q1:=(q.ids i y hy).2 z om hz; omega); exact ⟨e.symm,fun q=>absurd (e.symm.trans q) dc⟩)|(have e:=bG h20 (fun q:bR r=>by have q1:=(q.gF ht (aw hht)).1; omega); exact ⟨e.symm,fun q=>absurd (e.symm.trans q) dc⟩)|(have e:=bG h20 (fun q:bR r=>by exact h117 ((q.gF ht (aw hht)).2 d (aw hd))); exact ⟨e.symm,fun q=>absurd (e.symm.trans q) dc⟩)
  refine dP 3 [] mn ?_
  refine jT (t:=73) rfl (aQ fun h73=>?_) (aP fun h73=>?_)
  ·refine dP 14 [] mn ?_
   refine cO<|RK hK33<|aW rfl<|bZ<|ax<|KK hK31<|ak<|rP 2 [] mn ?_
   refine aB ?_
   have hb37:(vI (((i+1):Nat):Int))=(vI (((i:Nat):Int)+1)):=by exact cI om
   refine aN (hJ28 ⟨(i+1),⟨om,vd hl9_1 hx h70 (fun u v hu hv hw=>by first|omega|(rw [hy] at hu; cases hu; rw [hz] at hw; cases hw; omega))⟩⟩ _ _ _ rfl os (cv 4<|aY rfl hb37<|dK.nil _) (aG [0,1,2,3,4,5,6,7,8,9,10]))
  refine dP 3 [] (mc 1 rfl mn) ?_
  obtain ⟨y,hy⟩:=aO r.aF i om
  have hym:=bI iC hy
  refine dS (IA i rfl (aA 7 rfl) dB dc om om)<|dS (gU i 0 (vI y) rfl bJ (aA 7 rfl) hym rfl dc rfl)<|dP 4 [] (mc 1 rfl mn) ?_
  obtain ⟨z,hz⟩:=aO r.aF (i-1) om
  have hzm:=bI iC hz
  refine dS (IA (i-1) rfl (aA 7 rfl) dB dc om om)<|dS (gU (i-1) 0 (vI z) rfl bJ (aA 7 rfl) hzm rfl dc rfl)<|dP 3 [] mn ?_
  refine cO<|RK hK33 ?_
  refine bM rfl (aQ fun h87=>?_) (aP fun h87=>?_)
  ·refine bZ ?_
   refine ax<|KK hK31<|ak<|rP 2 [] mn ?_
   refine aB ?_
   have hb36:(vI (((i+1):Nat):Int))=(vI (((i:Nat):Int)+1)):=by exact cI om
   refine aN (hJ28 ⟨(i+1),⟨om,vd hl9_1 hx h70 (fun u v hu hv hw=>by first|omega|(rw [hy] at hu; cases hu; rw [hz] at hw; cases hw; omega))⟩⟩ _ _ _ rfl os (cv 4<|aY rfl hb36<|dK.nil _) (aG [0,1,2,3,4,5,6,7,8,9,10]))
  refine WS fun _ hK35=>rP 2 [] mn ?_
  refine RK hK35<|an ?_
  refine hQ _ _ _ (aZ (vs:=[(Value.pointer none),(vI 60)]) ⟨rfl,rfl,trivial⟩ fun w hs=>ej (false,60,0,0,none,0,[]) [] ?_ ?_ rfl rfl (by first|rfl|(show List.all _ _=true; simp only [cond_true,cg,List.all_nil,eG,Bool.and_true]; rfl)) hs)
  ·rfl
  ·refine ⟨fun q=>Bool.noConfusion (show false=true from q),fun _=>?_⟩; first|(have e:=hG h20; exact ⟨e.symm,fun q=>h20 (e.symm.trans q)⟩)|(have e:=bG h20 (fun q:bR r=>by have q1:=q.num; have q2:=q.mR; have q3:=q.nh; have q4:=q.mU; omega); exact ⟨e.symm,fun q=>absurd (e.symm.trans q) dc⟩)|(have e:=bG h20 (fun q:bR r=>by exact absurd (q.ins.symm.trans h59) dc); exact ⟨e.symm,fun q=>absurd (e.symm.trans q) dc⟩)|(have e:=bG h20 (fun q:bR r=>by exact absurd (q.drawn hx) h70); exact ⟨e.symm,fun q=>absurd (e.symm.trans q) dc⟩)|(have e:=bG h20 (fun q:bR r=>by have q1:=(q.ids i y hy).2 z om hz; omega); exact ⟨e.symm,fun q=>absurd (e.symm.trans q) dc⟩)|(have e:=bG h20 (fun q:bR r=>by have q1:=(q.gF ht (aw hht)).1; omega); exact ⟨e.symm,fun q=>absurd (e.symm.trans q) dc⟩)|(have e:=bG h20 (fun q:bR r=>by exact h117 ((q.gF ht (aw hht)).2 d (aw hd))); exact ⟨e.symm,fun q=>absurd (e.symm.trans q) dc⟩)
 refine bp<|ae<|ae<|au<|KK hK26<|WS fun _ hK38=>rP 1 [] (mc 1 rfl mn) ?_
 refine rS (SX (bg (xs:=[(0,.tmp 89)]) (cs:=(eC.cells (eC.mk (kx r kA kC cA cC bA bC slA slC drA drC heA heC) (bB.mk none 0 0) (Value.map none)))) rfl rfl (bf Lp rfl)) rfl rfl)<|fP rfl fun b39=>rP 1 [] mn ?_
 refine RK hK38<|ai fun _ hK40=>WS fun _ hK41=>rP 4 [] (mc 2 rfl mn) ?_
 refine RK hK41<|av<|fI 78 1<|sD ?_
 have hinit:(0≤r.ay.length)∧(([]:List RA).length=0)∧(iS r 0):=by exact ⟨Nat.zero_le _,rfl,vt⟩
 refine cp (ι:={z:Nat×(List RA)×(OA)×Nat // (z.1≤r.ay.length)∧(z.2.1.length=z.1)∧(iS r z.1)}) (fun z=>[(1,(vP b2)),(5,(vI ((r.aF.length:Nat):Int))),(8,(vP b39)),(93,(vS heA r.ay.length heC)),(94,(vI ((r.ay.length:Nat):Int))),(95,(vI ((z.1.1:Nat):Int)))]) (fun z=>[(bV (aU yh (fu r z.1.1) z.1.2.1)),(own z.1.2.2.1 z.1.2.2.2 78 1 (List.map sC (List.zipWith xY (fu r z.1.1) z.1.2.1))),(br b39 100 (eC.cells (eC.mk (kx r kA kC cA cC bA bC slA slC drA drC heA heC) (bB.mk z.1.2.2.1 ((List.zipWith xY (fu r z.1.1) z.1.2.1).length) z.1.2.2.2) (Value.map none)))),(own a14 c15 3 1 ((iq r.cG).map iC)),(br b2 32 (eT.cells (kx r kA kC cA cC bA bC slA slC drA drC heA heC))),(rd g0 3 2 fQ).ro,(rd kA r.aD.aH.length 9 (r.aD.aH.map ah.cells)).ro,(rd cA r.aD.aj.length 2 (List.zipWith al.cells r.aD.aj az)).ro,(du (aU al.fK r.aD.aj az)).ro,(rd bA r.aD.ab.length 4 (r.aD.ab.map bx.cells)).ro,(rd slA r.aF.length 1 (r.aF.map iC)).ro,(rd drA r.cG.length 1 (r.cG.map iC)).ro,(rd heA r.ay.length 1 (List.zipWith eO r.ay ha)).ro,(du (aU gf r.ay ha)).ro]) (fun z=>r.ay.length-z.1.1) ⟨(0,([]:List RA),none,0),hinit⟩ (aL rfl) (aG [0,1,2,3,4,5,6,7,8,9,10,11,12,13]) ?_
 clear hinit
 rintro ⟨⟨h,tz,a,c⟩,⟨hl16_0,hl16_1,hl16_2⟩⟩ J42 hJ42
 try dsimp only at hl16_0 hl16_1 hl16_2
 try dsimp only
 refine WS fun _ hK43=>rP 1 [] mn ?_
 refine RK hK43<|ai fun _ hK44=>?_
 refine bM rfl (aQ fun h96=>?_) (aP fun h96=>?_)
 ·refine bp ?_
  refine ae<|ae<|au<|KK hK40<|ai fun _ hK73=>?_
  have hik:fu r h=bX r:=by unfold bX; rw [show h=r.ay.length by omega]
  have htz:tz.length=r.ay.length:=by omega
  rw [hik,wT,show (List.zipWith xY (bX r) tz).length=(bX r).length from by rw [List.length_zipWith]; omega]
  have hrok:bR r:=E7 (n:=i) om om om om om h59 hl9_1 hl16_2 om
  refine ak<|rP 5 [] (mc 4 rfl mn) ?_
  refine cX (Mj r kA kC az cA cC bA bC slA slC drA drC ha heA heC tz a c (Value.map none) b39 r.ay.length hin sd sd (by exact hrok.qO)) (cw 6 rfl rfl<|cw 7 rfl rfl<|cw 8 rfl rfl<|cw 9 rfl rfl<|cw 10 rfl rfl<|cw 11 rfl rfl<|cw 12 rfl rfl<|cw 13 rfl rfl<|bq (aK (n:=(bX r).length) 1 rfl (p7 (by rw [htal]; exact htz)))<|bq (j7 0 rfl xg)<|cw 2 rfl rfl<|aT) rfl fun gs76 hy75=>?_
  try dsimp only
  refine rS (SX (cf rfl rfl) rfl rfl)<|rP 1 [] mn ?_
  refine Jo (eC.cells (eC.mk (kx r kA kC cA cC bA bC slA slC drA drC heA heC) (bB.mk a ((bX r).length) c) (Value.map (some gs76)))) rfl Jh rfl rfl<|RK hK73<|ai fun _ hK77=>?_
  rw [show qi r r.ay.length=aJ r from rfl]
  refine ak<|rP 3 [] mn ?_
  refine RK hK77<|an ?_
  refine hQ _ _ _ (aZ (vs:=[(vP b39),(vI 0)]) ⟨rfl,rfl,trivial⟩ fun w hs=>ej (true,0,b39,gs76,a,c,tz) [3,2,1,0] ?_ ?_ rfl rfl (by first|rfl|(show List.all _ _=true; simp only [cond_true,cg,List.all_nil,eG,Bool.and_true]; rfl)) hs)
  ·rfl
  ·exact ⟨fun _=>⟨zB h20 hrok,htz⟩,fun q=>Bool.noConfusion (show true=false from q)⟩
 refine WK hK44<|ai fun _ hK45=>av<|WS fun _ hK46=>?_
 obtain ⟨ht,hht⟩:=aO r.ay h om
 obtain ⟨hta,hhta⟩:=aO ha h om
 have hhtm:(List.zipWith eO r.ay ha)[h]? =some (eO ht hta):=gn hht hhta
 refine rS (IA h rfl (aA 12 rfl) zG dc om om)<|rS (gU h 0 (vS hta.1.1 ht.length hta.1.2) rfl bJ (aA 12 rfl) hhtm rfl dc rfl)<|rP 1 [] mn ?_
 refine RK hK46<|ai fun _ hK47=>WS fun _ hK48=>?_
 have hhi:=hin.gF _ _ _ hht hhta
 have hhas:=hhi.qa
 refine rP 4 [] mn ?_
 refine RK hK48 ?_
 refine cP rfl (bk fun h102=>?_) (bj fun h102=>?_)
 ·refine WS fun _ hK49=>?_
  refine rP 2 [] mn ?_
  refine RK hK49<|an ?_
  refine hQ _ _ _ (aZ (vs:=[(Value.pointer none),(vI 60)]) ⟨rfl,rfl,trivial⟩ fun w hs=>ej (false,60,0,0,none,0,[]) [] ?_ ?_ rfl rfl (by first|rfl|(show List.all _ _=true; simp only [cond_true,cg,List.all_nil,eG,Bool.and_true]; rfl)) hs)
  ·rfl
  ·refine ⟨fun q=>Bool.noConfusion (show false=true from q),fun _=>?_⟩; first|(have e:=hG h20; exact ⟨e.symm,fun q=>h20 (e.symm.trans q)⟩)|(have e:=bG h20 (fun q:bR r=>by have q1:=q.num; have q2:=q.mR; have q3:=q.nh; have q4:=q.mU; omega); exact ⟨e.symm,fun q=>absurd (e.symm.trans q) dc⟩)|(have e:=bG h20 (fun q:bR r=>by exact absurd (q.ins.symm.trans h59) dc); exact ⟨e.symm,fun q=>absurd (e.symm.trans q) dc⟩)|(have e:=bG h20 (fun q:bR r=>by exact absurd (q.drawn hx) h70); exact ⟨e.symm,fun q=>absurd (e.symm.trans q) dc⟩)|(have e:=bG h20 (fun q:bR r=>by have q1:=(q.ids i y hy).2 z om hz; omega); exact ⟨e.symm,fun q=>absurd (e.symm.trans q) dc⟩)|(have e:=bG h20 (fun q:bR r=>by have q1:=(q.gF ht (aw hht)).1; omega); exact ⟨e.symm,fun q=>absurd (e.symm.trans q) dc⟩)|(have e:=bG h20 (fun q:bR r=>by exact h117 ((q.gF ht (aw hht)).2 d (aw hd))); exact ⟨e.symm,fun q=>absurd (e.symm.trans q) dc⟩)
 refine WK hK47<|WS fun _ hK50=>rP 1 [] mn ?_
 refine RK hK50<|ai fun _ hK51=>WS fun _ hK52=>rP 3 [] mn ?_
 refine RK hK52<|av<|fI 47 2 ?_
 have hinit:(0≤ht.length)∧(m8 r.aD ht 0):=by exact ⟨Nat.zero_le _,tn⟩
 refine cp (ι:={z:Nat×(OA)×Nat // (z.1≤ht.length)∧(m8 r.aD ht z.1)}) (fun z=>[(1,(vP b2)),(5,(vI ((r.aF.length:Nat):Int))),(8,(vP b39)),(10,(vS hta.1.1 ht.length hta.1.2)),(11,(vS z.1.2.1 (((ht.take z.1.1).map (e_ r.aD)).length) z.1.2.2)),(93,(vS heA r.ay.length heC)),(94,(vI ((r.ay.length:Nat):Int))),(95,(vI ((h:Nat):Int))),(103,(vS hta.1.1 ht.length hta.1.2)),(104,(vI ((ht.length:Nat):Int))),(105,(vI ((z.1.1:Nat):Int)))]) (fun z=>[(own z.1.2.1 z.1.2.2 47 2 (((ht.take z.1.1).map (e_ r.aD)).map aa.cells)),(bV (aU yh (fu r h) tz)),(own a c 78 1 (List.map sC (List.zipWith xY (fu r h) tz))),(br b39 100 (eC.cells (eC.mk (kx r kA kC cA cC bA bC slA slC drA drC heA heC) (bB.mk a ((List.zipWith xY (fu r h) tz).length) c) (Value.map none)))),(own a14 c15 3 1 ((iq r.cG).map iC)),(br b2 32 (eT.cells (kx r kA kC cA cC bA bC slA slC drA drC heA heC))),(rd g0 3 2 fQ).ro,(rd kA r.aD.aH.length 9 (r.aD.aH.map ah.cells)).ro,(rd cA r.aD.aj.length 2 (List.zipWith al.cells r.aD.aj az)).ro,(du (aU al.fK r.aD.aj az)).ro,(rd bA r.aD.ab.length 4 (r.aD.ab.map bx.cells)).ro,(rd slA r.aF.length 1 (r.aF.map iC)).ro,(rd drA r.cG.length 1 (r.cG.map iC)).ro,(rd heA r.ay.length 1 (List.zipWith eO r.ay ha)).ro,(du (aU gf r.ay ha)).ro]) (fun z=>ht.length-z.1.1) ⟨(0,none,0),hinit⟩ (aL rfl) (aG [0,1,2,3,4,5,6,7,8,9,10,11,12,13,14]) ?_
 clear hinit
 rintro ⟨⟨j,la,lc⟩,⟨hl22_0,hl22_1⟩⟩ J53 hJ53
 try dsimp only at hl22_0 hl22_1
 try dsimp only
 refine WS fun _ hK54=>rP 1 [] mn ?_
 refine RK hK54<|ai fun _ hK55=>?_
 refine bM rfl (aQ fun h56=>?_) (aP fun h56=>?_)
 ·refine bp ?_
  refine ae<|ae<|au<|KK hK51<|ak<|rP 2 [] mn ?_
  refine rS (SX (cf rfl rfl) rfl rfl)<|rP 2 [] (mc 3 rfl mn) ?_
  rw [show ((ht.take j).map (e_ r.aD))=ht.map (e_ r.aD) from by rw [List.take_of_length_le om]]
  refine rP 1 [] mn ?_
  refine fc (xs:=[.tmp 128]) (cs:=[(vS la ((ht.map (e_ r.aD)).length) lc)]) rfl E3 Me rfl rfl rfl rfl (by simp [Value.cells]) rfl rfl fun b69=>er (es2:=(List.map sC (List.zipWith xY (fu r (h+1)) (tz++[(la,lc)])))) (m':=(List.zipWith xY (fu r (h+1)) (tz++[(la,lc)])).length) 3 rfl rfl rfl Ld rfl rfl sm (a_ (es:=List.map sC [(bB.mk la ((ht.map (e_ r.aD)).length) lc)]) 0 rfl rfl (by simp [wB]) rfl) (EZ _) (by rw [List.length_zipWith,ki om]; omega) (by rw [List.length_zipWith,ki om]; simp only [maxLen]; omega) (by rw [rK hht hl16_1,List.map_append]; rfl) (by rw [rK hht hl16_1]; simp) rfl fun a70 c71=>?_
  try dsimp only
  refine rS (SX (cf rfl rfl) rfl rfl)<|rP 1 [] mn ?_
  refine Oh (eC.cells (eC.mk (kx r kA kC cA cC bA bC slA slC drA drC heA heC) (bB.mk a70 ((List.zipWith xY (fu r (h+1)) (tz++[(la,lc)])).length) c71) (Value.map none))) rfl Nx rfl rfl<|aB<|ax<|KK hK45<|ak<|rP 2 [] mn ?_
  refine aB<|zI (X':=aU yh (fu r (h+1)) (tz++[(la,lc)])) 2 1 rfl rfl (yZ (a:=(la,lc)) hht hl16_1) ?_
  have hb72:(vI (((h+1):Nat):Int))=(vI (((h:Nat):Int)+1)):=by exact cI om
  refine aN (hJ42 ⟨((h+1),(tz++[(la,lc)]),a70,c71),⟨om,by simp; omega,u7 hl16_2 hht (Cq om hl22_1 om)⟩⟩ _ _ _ rfl os (cv 5<|aY rfl hb72<|dK.nil _) (aG [0,2,3,4,5,6,7,8,9,10,11,12,13,14]))
 refine WK hK55<|ai fun _ hK57=>av<|WS fun _ hK58=>?_
 obtain ⟨d,hd⟩:=aO ht j om
 obtain ⟨da,hda⟩:=aO hta.2 j om
 have hdm:(List.zipWith aS.cells ht hta.2)[j]? =some (aS.cells d da):=gn hd hda
 refine rS (IA j rfl (show ji _ (rd hta.1.1 ht.length 7 (List.zipWith aS.cells ht hta.2)).holds from (dA 14 rfl (cm hht hhta cZ))) EA dc om om)<|rS (n9 j 0 (bD.cells (bD.mk d.Out d.dM d.Time (eE.mk d.bP.Start d.bP.fR (bB.mk da.1 d.bP.ag.length da.2)))) rfl bJ (show ji _ (rd hta.1.1 ht.length 7 (List.zipWith aS.cells ht hta.2)).holds from (dA 14 rfl (cm hht hhta cZ))) hdm rfl dc rfl rfl)<|AL rfl Nc fun b59=>f_ rfl Nh rfl<|RK hK58<|WS fun _ hK60=>rP 1 [] mn ?_
 refine rS (LP (cE.cells (jx r.aD kA kC cA cC bA bC)) 6 rfl bJ rfl rfl rfl)<|rP 1 [] (mc 0 rfl mn) ?_
 have hsg:=hhi.sig d (aw hd)
 refine rS (CL (Aq r.aD kA kC az cA cC bA bC d da.1 da.2 sd sd) (cw 7 rfl rfl<|cw 8 rfl rfl<|cw 9 rfl rfl<|cw 10 rfl rfl<|cw 11 rfl rfl<|bq (show ji _ (rd da.1 d.bP.ag.length 2 (d.bP.ag.map aM.cells)).holds from (dA 15 rfl (cm hht hhta (dY _ (cm hd hda (by simp [aS.fK]))))))<|aT) rfl)<|rP 3 [] mn ?_
 refine AL rfl cV fun b61=>f_ rfl bY rfl<|rP 1 [] mn ?_
 refine RK hK60<|ai fun _ hK62=>WS fun _ hK63=>rP 2 [] mn ?_
 refine RK hK63 ?_
 refine bM rfl (bj fun h117=>?_) (bk fun h117=>?_)
 ·refine WK hK62 ?_
  refine ak<|rP 2 [] (mc 0 rfl mn) ?_
  refine fc (xs:=[.tmp 119]) (cs:=(aa.cells (e_ r.aD d))) rfl jF cV rfl rfl rfl rfl (by simp [Value.cells,aa.aX]) rfl rfl fun b65=>er (es2:=(List.map aa.cells ((ht.take (j+1)).map (e_ r.aD)))) (m':=((ht.take (j+1)).map (e_ r.aD)).length) 3 rfl rfl rfl Ar rfl rfl sm (a_ (es:=List.map aa.cells [(e_ r.aD d)]) 0 rfl rfl (by simp [aa.aX]) rfl) (gM _) (by simp only [List.length_map,List.length_take]; omega) (by simp only [maxLen,List.length_map,List.length_take]; omega) (by rw [List.take_add_one,hd]; simp) sq rfl fun a66 c67=>?_
  try dsimp only
  refine rP 1 [] mn ?_
  refine aB<|ax<|KK hK57<|ak<|rP 2 [] mn ?_
  refine aB ?_
  have hb68:(vI (((j+1):Nat):Int))=(vI (((j:Nat):Int)+1)):=by exact cI om
  refine aN (hJ53 ⟨((j+1),a66,c67),⟨om,tm hl22_1 hd h117⟩⟩ _ _ _ rfl os (cv 10<|aY rfl hb68<|dK.nil _) (aG [3,4,5,6,7,8,9,10,11,12,13,14,15,16,17]))
 refine WS fun _ hK64=>rP 2 [] mn ?_
 refine RK hK64<|an ?_
 refine hQ _ _ _ (aZ (vs:=[(Value.pointer none),(vI 60)]) ⟨rfl,rfl,trivial⟩ fun w hs=>ej (false,60,0,0,none,0,[]) [] ?_ ?_ rfl rfl (by first|rfl|(show List.all _ _=true; simp only [cond_true,cg,List.all_nil,eG,Bool.and_true]; rfl)) hs)
 ·rfl
 ·refine ⟨fun q=>Bool.noConfusion (show false=true from q),fun _=>?_⟩; first|(have e:=hG h20; exact ⟨e.symm,fun q=>h20 (e.symm.trans q)⟩)|(have e:=bG h20 (fun q:bR r=>by have q1:=q.num; have q2:=q.mR; have q3:=q.nh; have q4:=q.mU; omega); exact ⟨e.symm,fun q=>absurd (e.symm.trans q) dc⟩)|(have e:=bG h20 (fun q:bR r=>by exact absurd (q.ins.symm.trans h59) dc); exact ⟨e.symm,fun q=>absurd (e.symm.trans q) dc⟩)|(have e:=bG h20 (fun q:bR r=>by exact absurd (q.drawn hx) h70); exact ⟨e.symm,fun q=>absurd (e.symm.trans q) dc⟩)|(have e:=bG h20 (fun q:bR r=>by have q1:=(q.ids i y hy).2 z om hz; omega); exact ⟨e.symm,fun q=>absurd (e.symm.trans q) dc⟩)|(have e:=bG h20 (fun q:bR r=>by have q1:=(q.gF ht (aw hht)).1; omega); exact ⟨e.symm,fun q=>absurd (e.symm.trans q) dc⟩)|(have e:=bG h20 (fun q:bR r=>by exact h117 ((q.gF ht (aw hht)).2 d (aw hd))); exact ⟨e.symm,fun q=>absurd (e.symm.trans q) dc⟩)
end
section
open Go.RowKit
theorem AR (l:List Int) (lA:OA) (lC:Nat) (hlen:l.length=1):
 Ee Tryz.prog 62 [(vS lA 1 lC)] [] (own lA lC 3 1 (l.map iC)) (fun (x:Unit)=>(vS lA 1 lC)) (fun (x:Unit)=>True) (fun (x:Unit)=>(own lA lC 3 1 (l.map iC))):=by
 refine o5 kr Tryz.func62 rfl rfl fun w0 Q hQ hN=>?_
 try dsimp only
 refine WS fun _ hK1=>rP 1 [] mn ?_
 refine RK hK1<|ai fun _ hK2=>WS fun _ hK3=>rP 2 [] mn ?_
 refine rS (SX (cb (r:= .bool true) rfl rfl rfl gH) rfl rfl)<|RK hK3<|aI rfl<|WS fun _ hK4=>rP 2 [] mn ?_
 refine RK hK4<|an ?_
 refine hQ _ _ _ (aZ (vs:=[(vS lA 1 lC)]) ⟨rfl,trivial⟩ fun w hs=>vM () 0 ?_ ?_ rfl rfl hs)
 ·clear hs w hQ hN hK4 hK3 hK2 hK1; rfl
 ·clear hs w hQ hN hK4 hK3 hK2 hK1; trivial
theorem Az (l:List Int) (lA:OA) (lC:Nat) (hlen:l.length=2):
 Ee Tryz.prog 62 [(vS lA 2 lC)] [] (own lA lC 3 1 (l.map iC)) (fun (x:(List Int))=>(vS lA (F1 l) lC)) (fun (x:(List Int))=>True) (fun (x:(List Int))=>(own lA lC 3 1 (x.map iC))):=by
 refine o5 kr Tryz.func62 rfl rfl fun w0 Q hQ hN=>?_
 try dsimp only
 refine WS fun _ hK1=>rP 1 [] mn ?_
 refine RK hK1<|ai fun _ hK2=>WS fun _ hK3=>rP 2 [] mn ?_
 refine rS (SX (cb (r:= .bool false) rfl rfl rfl gH) rfl rfl)<|RK hK3<|aW rfl<|WK hK2<|ai fun _ hK4=>WS fun _ hK5=>rP 1 [] mn ?_
 refine RK hK5<|av<|kz 3<|ek fun R6 hR6=>ai fun _ hK7=>WS fun _ hK8=>rP 3 [] mn ?_
 refine rS (SX (cb (r:= .bool true) rfl rfl rfl gH) rfl rfl)<|RK hK8<|aI rfl<|WK hK7<|ai fun _ hK9=>av<|ai fun _ hK10=>dC cD 10 kr<|dP 2 [] mn ?_
 obtain ⟨x,hx⟩:=aO l 1 om
 have hxm:=bI iC hx
 refine dS (IA 1 rfl (aK (n:=2) 0 rfl sq) dB dc rfl om)<|dS (gU 1 0 (vI x) rfl bJ (aK (n:=l.length) 0 rfl sm) hxm rfl dc rfl)<|dP 2 [] mn ?_
 refine dS (SX (cb (r:= .int .i64 0) rfl rfl rfl (tM ⟨dc,dc⟩)) rfl rfl) ?_
 obtain ⟨y,hy⟩:=aO l 0 om
 have hym:=bI iC hy
 refine dS (IA 0 rfl (aK (n:=2) 0 rfl sq) dB dc rfl om)<|dS (gU 0 0 (vI y) rfl bJ (aK (n:=l.length) 0 rfl sm) hym rfl dc rfl)<|dP 1 [] mn ?_
 refine cO<|RK hK10 ?_
 refine bM rfl (aQ fun h25=>?_) (aP fun h25=>?_)
 ·refine bZ ?_
  refine ax<|KK hK9<|ak<|rP 1 [] mn ?_
  refine rS (SX (cb (r:= .int .i64 2) rfl rfl rfl (g8 ⟨dc,dc⟩)) rfl rfl)<|rP 1 [] mn ?_
  refine RK hR6<|ek fun R19 hR19=>ai fun _ hK20=>WS fun _ hK21=>rP 3 [] mn ?_
  refine rS (SX (cb (r:= .bool false) rfl rfl rfl gH) rfl rfl)<|RK hK21<|aW rfl<|bp<|ae<|ae<|au<|KK hK4<|WS fun _ hK22=>rP 2 [] mn ?_
  refine RK hK22<|an ?_
  refine hQ _ _ _ (aZ (vs:=[(vS lA 2 lC)]) ⟨rfl,trivial⟩ fun w hs=>vM l 0 ?_ ?_ rfl rfl hs)
  ·clear hs w hQ hN hK22 hK21 hK20 hK10 hK9 hK8 hK7 hK5 hK4 hK3 hK2 hK1; first|(rw [sH hlen hy hx h25]; rfl)|(rw [vX hlen hy hx h25,hlen]; rfl)
  ·clear hs w hQ hN hK22 hK21 hK20 hK10 hK9 hK8 hK7 hK5 hK4 hK3 hK2 hK1; trivial
 refine WS fun _ hK11=>rP 2 [] mn ?_
 refine rS (N0 1 rfl dB rfl os)<|rP 1 [] mn ?_
 refine RK hK11<|ai fun _ hK12=>WS fun _ hK13=>rP 1 [] mn ?_
 refine RK hK13<|av<|kz 2<|ek fun R14 hR14=>ai fun _ hK15=>WS fun _ hK16=>rP 4 [] mn ?_
 refine RK hK16 ?_
 refine cP rfl (aP fun h32=>?_) (aQ fun h32=>?_)
 ·exfalso; omega
 refine bp<|ae<|ae<|au<|KK hK12<|WS fun _ hK17=>rP 2 [] mn ?_
 refine rS (N0 1 rfl dB rfl os)<|Io (k:=1) 0 rfl rfl qe (by intro v hv; simp [Value.cells] at hv; subst hv; rfl) rfl os om ?_
 try dsimp only
 rw [show (own lA lC 3 1 ((l.map iC).take 1))=(own lA lC 3 1 ((l.take 1).map iC)) from by rw [List.map_take]]
 refine RK hK17<|WS fun _ hK18=>Kt 0 rfl fun hcap=>?_
 simp only [List.length_map,List.length_take] at hcap
 refine rP 2 [] mn ?_
 refine rS (N7 1 rfl dB rfl (by first|omega|exact Nat.zero_le _|(simp; omega)))<|rP 1 [] mn ?_
 refine RK hK18<|an ?_
 refine hQ _ _ _ (aZ (vs:=[(vS lA 1 lC)]) ⟨rfl,trivial⟩ fun w hs=>vM (l.take 1) 0 ?_ ?_ rfl rfl hs)
 ·clear hs w hQ hN hK18 hK17 hK16 hK15 hK13 hK12 hK11 hK10 hK9 hK8 hK7 hK5 hK4 hK3 hK2 hK1; first|(rw [sH hlen hy hx h25]; rfl)|(rw [vX hlen hy hx h25,hlen]; rfl)
 ·clear hs w hQ hN hK18 hK17 hK16 hK15 hK13 hK12 hK11 hK10 hK9 hK8 hK7 hK5 hK4 hK3 hK2 hK1; trivial
end
section
open Go.RowKit
theorem Dw (r:dg) (kA:OA) (kC:Nat) (az:List RA) (cA:OA) (cC:Nat) (bA:OA) (bC:Nat) (slA:OA) (slC:Nat) (drA:OA) (drC:Nat) (ha:List gZ) (heA:OA) (heC:Nat) (a:Int) (gq:Nat) (hin:iT r az ha):
 oY Tryz.prog 32 [(vA (eT.cells (kx r kA kC cA cC bA bC slA slC drA drC heA heC))),(vS (some ⟨gq,0,none⟩) 1 1)] [(rd g0 3 2 fQ),(rd kA r.aD.aH.length 9 (r.aD.aH.map ah.cells)),(rd cA r.aD.aj.length 2 (List.zipWith al.cells r.aD.aj az)),(du (aU al.fK r.aD.aj az)),(rd bA r.aD.ab.length 4 (r.aD.ab.map bx.cells)),(rd slA r.aF.length 1 (r.aF.map iC)),(rd drA r.cG.length 1 (r.cG.map iC)),(rd heA r.ay.length 1 (List.zipWith eO r.ay ha)),(du (aU gf r.ay ha)),(br gq 3 [(vI a)])] (fun (x:Bool×Int×Nat×Nat×(OA)×Nat×(List RA)×(OA)×Nat)=>bif x.1 then (vT [(Value.pointer (some ⟨x.2.2.1,0,none⟩)),(vS x.2.2.2.2.2.2.2.1 1 x.2.2.2.2.2.2.2.2),(vI 0)]) else (vT [(Value.pointer none),(vS none 0 0),(vI x.2.1)])) (fun (x:Bool×Int×Nat×Nat×(OA)×Nat×(List RA)×(OA)×Nat)=>(x.1=true→(nt r a=0∧x.2.2.2.2.2.2.1.length=r.ay.length))∧(x.1=false→(x.2.1=nt r a∧ ¬ nt r a=0))) (fun (x:Bool×Int×Nat×Nat×(OA)×Nat×(List RA)×(OA)×Nat)=>bif x.1 then [(br x.2.2.1 100 (eC.cells (eC.mk (kx r kA kC cA cC bA bC slA slC drA drC heA heC) (bB.mk x.2.2.2.2.1 ((bX r).length) x.2.2.2.2.2.1) (Value.map (some x.2.2.2.1))))),(own x.2.2.2.2.1 x.2.2.2.2.2.1 78 1 (List.zipWith wj (bX r) x.2.2.2.2.2.2.1)),(bV (aU yh (bX r) x.2.2.2.2.2.2.1)),(gQ iV x.2.2.2.1 (bw dF (aJ r))),(own x.2.2.2.2.2.2.2.1 x.2.2.2.2.2.2.2.2 47 2 ([(aC (aJ r) a)].map aa.cells))] else []):=by
 have hline:=hin.line
 have hhl:=hin.jZ
 have hhs:=hin.has
 have hsll:=hin.j6
 have hdrl:=hin.draw
 have htal:=eA (r:=r)
 refine ff kr Tryz.func32 rfl rfl fun w0 Q hQ hN=>?_
 try dsimp only
 refine WS fun _ hK1=>fP rfl fun b2=>rP 3 [] mn ?_
 refine RK hK1<|WS fun _ hK3=>rP 1 [] (mc 0 rfl mn) ?_
 refine cX (Cc r kA kC az cA cC bA bC slA slC drA drC ha heA heC hin) (bh [1,2,3,4,5,6,7,8,9]) rfl fun y4 hy5=>?_
 obtain ⟨ok12,ec6,gw7,gs8,tA9,tC10,tz11⟩:=y4
 cases ok12
 ·obtain ⟨hec,he⟩:=hy5.2 rfl
  try dsimp only at hec he
  subst hec
  try dsimp only [cond_true,cond_false,List.cons_append,List.nil_append]
  refine rP 5 [] mn ?_
  refine RK hK3<|ai fun _ hK13=>WS fun _ hK14=>rP 2 [] mn ?_
  refine RK hK14 ?_
  refine bM rfl (bj fun h20=>?_) (bk fun h20=>?_)
  ·exact absurd h20 he
  refine WS fun _ hK15=>rP 4 [] mn ?_
  refine RK hK15<|an ?_
  refine hQ _ _ _ (aZ (vs:=[(Value.pointer none),(vS none 0 0),(vI (fV r))]) ⟨rfl,rfl,rfl,trivial⟩ fun w hs=>ej (false,(fV r),0,0,none,0,[],none,0) [] ?_ ?_ rfl rfl (by first|rfl|(show List.all _ _=true; simp only [cond_true,cg,List.all_nil,eG,Bool.and_true]; rfl)) hs)
  ·rfl
  ·refine ⟨fun q=>Bool.noConfusion (show false=true from q),fun _=>?_⟩; first|(have e:=rm (i:=a) he; exact ⟨e.symm,fun q=>he (e.symm.trans q)⟩)|(have e:=rV (i:=a) he om; exact ⟨e.symm,fun q=>absurd (e.symm.trans q) dc⟩)|(have e:=pU (i:=a) he om asm; exact ⟨e.symm,fun q=>absurd (e.symm.trans q) dc⟩)
 obtain ⟨he,htz⟩:=hy5.1 rfl
 try dsimp only [cond_true,cond_false,List.cons_append,List.nil_append]
 refine rP 5 [] mn ?_
 refine RK hK3<|ai fun _ hK16=>WS fun _ hK17=>rP 1 [] mn ?_
 refine rS (SX (cb (r:= .bool false) rfl rfl rfl qj) rfl rfl)<|RK hK17<|aW rfl<|WK hK16<|ai fun _ hK18=>WS fun _ hK19=>rP 2 [] mn ?_
 refine rS (CL (eu.eq (EP r kA kC az cA cC bA bC slA slC drA drC ha heA heC tz11 tA9 tC10 (Value.map (some gs8)) gw7 ([a]) (some ⟨gq,0,none⟩) 1 hin sd) dx) (cw 6 rfl rfl<|cw 7 rfl rfl<|cw 8 rfl rfl<|cw 9 rfl rfl<|cw 10 rfl rfl<|cw 11 rfl rfl<|cw 12 rfl rfl<|cw 13 rfl rfl<|bq (aK (n:=(bX r).length) 1 rfl (p7 (by rw [htal]; exact htz)))<|bq (j7 2 rfl xg)<|cw 0 rfl rfl<|bq (mX 14 rfl rfl (by simp [bT]) rfl)<|aT) rfl)<|rP 2 [] mn ?_
 refine c8 (t:=26) rfl (bk fun h26=>?_) (bj fun h26=>?_)
 ·refine rP 3 [] mn ?_
  refine rP 4 [] mn ?_
  refine rP 2 [] mn ?_
  refine RK hK19<|aI rfl<|WS fun _ hK20=>rP 3 [] mn ?_
  refine RK hK20<|an ?_
  refine hQ _ _ _ (aZ (vs:=[(Value.pointer none),(vS none 0 0),(vI 2)]) ⟨rfl,rfl,rfl,trivial⟩ fun w hs=>ej (false,2,0,0,none,0,[],none,0) [] ?_ ?_ rfl rfl (by first|rfl|(show List.all _ _=true; simp only [cond_true,cg,List.all_nil,eG,Bool.and_true]; rfl)) hs)
  ·rfl
  ·refine ⟨fun q=>Bool.noConfusion (show false=true from q),fun _=>?_⟩; first|(have e:=rm (i:=a) he; exact ⟨e.symm,fun q=>he (e.symm.trans q)⟩)|(have e:=rV (i:=a) he om; exact ⟨e.symm,fun q=>absurd (e.symm.trans q) dc⟩)|(have e:=pU (i:=a) he om asm; exact ⟨e.symm,fun q=>absurd (e.symm.trans q) dc⟩)
 refine rP 1 [] mn ?_
 refine cX (uN (some ⟨gq,0,none⟩) 1 1) (aT) rfl fun b23 hy22=>?_
 try dsimp only
 refine cX (vw ([a]) (some ⟨gq,0,none⟩) 1 b23 sd) (bq (mX 15 rfl rfl (by simp [bT]) rfl)<|cw 0 rfl rfl<|aT) rfl fun y24 hy25=>?_
 obtain ⟨a26,c27⟩:=y24
 try dsimp only
 try dsimp only
 refine lF 0 rfl rfl rfl rfl (AR (iq ([a])) a26 c27 sd) rfl nu rfl (fun y28 hy29=>?_)
 try dsimp only
 refine rP 3 [] mn ?_
 refine rS (SX (cb (r:= .bool false) rfl rfl rfl gH) rfl rfl)<|rP 1 [] mn ?_
 refine RK hK19<|aW rfl<|WK hK18<|WS fun _ hK30=>rP 1 [] mn ?_
 refine RK hK30<|ai fun _ hK31=>WS fun _ hK32=>rP 3 [] mn ?_
 refine RK hK32<|av<|kz 2<|ek fun R33 hR33=>WS fun _ hK34=>rS (SX (cb (r:= .bool true) rfl rfl rfl gH) rfl rfl)<|RK hK34<|ai fun _ hK35=>aI rfl<|WK hK35 ?_
 refine ai fun _ hK36=>av<|WS fun _ hK37=>rS (MF 0 0 rfl dB rfl dc rfl)<|rP 2 [] (mr 16 rfl mn) ?_
 refine RK hK37<|WS fun _ hK38=>rP 1 [] mn ?_
 refine rS (SX (cf rfl rfl) rfl rfl)<|rP 3 [] (mc 2 rfl mn) ?_
 refine rS (SX (iY (kV:=iV) (x:=a) (l:=(aJ r)) (f:=dF) (z:=(aa.mk 0 0)) rfl rfl rfl nJ (eK oZ) xz (by exact aA 5 rfl)) rfl rfl)<|rP 3 [] mn ?_
 refine AL rfl cV fun b39=>f_ rfl bY rfl<|rP 1 [] mn ?_
 refine RK hK38<|ai fun _ hK40=>WS fun _ hK41=>?_
 rw [show ((List.lookup a (aJ r)).getD (aa.mk 0 0))=(aC (aJ r) a) from rfl]
 refine rP 2 [] mn ?_
 refine RK hK41 ?_
 refine cP rfl (fun h52=>?_) (fun h52=>?_)
 ·rw [Bool.not_eq_true'] at h52
  refine WS fun _ hK42=>rP 3 [] mn ?_
  refine RK hK42<|an ?_
  refine hQ _ _ _ (aZ (vs:=[(Value.pointer none),(vS none 0 0),(vI 6)]) ⟨rfl,rfl,rfl,trivial⟩ fun w hs=>ej (false,6,0,0,none,0,[],none,0) [] ?_ ?_ rfl rfl (by first|rfl|(show List.all _ _=true; simp only [cond_true,cg,List.all_nil,eG,Bool.and_true]; rfl)) hs)
  ·rfl
  ·refine ⟨fun q=>Bool.noConfusion (show false=true from q),fun _=>?_⟩; first|(have e:=rm (i:=a) he; exact ⟨e.symm,fun q=>he (e.symm.trans q)⟩)|(have e:=rV (i:=a) he om; exact ⟨e.symm,fun q=>absurd (e.symm.trans q) dc⟩)|(have e:=pU (i:=a) he om asm; exact ⟨e.symm,fun q=>absurd (e.symm.trans q) dc⟩)
 rw [Bool.not_eq_false'] at h52
 refine WK hK40<|ak<|rP 2 [] (mc 0 rfl mn) ?_
 refine fc (xs:=[.tmp 54]) (cs:=(aa.cells (aC (aJ r) a))) rfl jF cV rfl rfl rfl rfl (by simp [Value.cells,aa.aX]) rfl rfl fun b43=>kY 47 2<|er (es2:=(List.map aa.cells ([(aC (aJ r) a)]))) (m':=([(aC (aJ r) a)]).length) 0 rfl rfl rfl Ar rfl rfl sm (a_ (es:=List.map aa.cells [(aC (aJ r) a)]) 1 rfl rfl (by simp [aa.aX]) rfl) (gM _) sm (by simp [maxLen]) sm sm rfl fun a44 c45=>?_
 try dsimp only
 refine rP 1 [] mn ?_
 refine aB<|ax<|KK hK36<|ak<|rS (SX (cb (r:= .int .i64 1) rfl rfl rfl (g8 ⟨dc,dc⟩)) rfl rfl)<|rP 1 [] mn ?_
 refine RK hR33<|ek fun R46 hR46=>WS fun _ hK47=>rS (SX (cb (r:= .bool false) rfl rfl rfl gH) rfl rfl)<|RK hK47<|ai fun _ hK48=>aW rfl<|bp<|ae<|ae ?_
 refine au<|KK hK31<|WS fun _ hK49=>rP 5 [] mn ?_
 refine RK hK49<|an ?_
 refine hQ _ _ _ (aZ (vs:=[(vP gw7),(vS a44 (([(aC (aJ r) a)]).length) c45),(vI 0)]) ⟨rfl,rfl,rfl,trivial⟩ fun w hs=>ej (true,0,gw7,gs8,tA9,tC10,tz11,a44,c45) [5,6,7,8,0] ?_ ?_ rfl rfl (by first|rfl|(show List.all _ _=true; simp only [cond_true,cg,List.all_nil,eG,Bool.and_true]; rfl)) hs)
 ·rfl
 ·exact ⟨fun _=>⟨Cz he om asm,htz⟩,fun q=>Bool.noConfusion (show true=false from q)⟩
end
section
open Go.RowKit
theorem wS (r:dg) (kA:OA) (kC:Nat) (az:List RA) (cA:OA) (cC:Nat) (bA:OA) (bC:Nat) (slA:OA) (slC:Nat) (drA:OA) (drC:Nat) (ha:List gZ) (heA:OA) (heC:Nat) (a b:Int) (gq:Nat) (hin:iT r az ha):
 oY Tryz.prog 32 [(vA (eT.cells (kx r kA kC cA cC bA bC slA slC drA drC heA heC))),(vS (some ⟨gq,0,none⟩) 2 2)] [(rd g0 3 2 fQ),(rd kA r.aD.aH.length 9 (r.aD.aH.map ah.cells)),(rd cA r.aD.aj.length 2 (List.zipWith al.cells r.aD.aj az)),(du (aU al.fK r.aD.aj az)),(rd bA r.aD.ab.length 4 (r.aD.ab.map bx.cells)),(rd slA r.aF.length 1 (r.aF.map iC)),(rd drA r.cG.length 1 (r.cG.map iC)),(rd heA r.ay.length 1 (List.zipWith eO r.ay ha)),(du (aU gf r.ay ha)),(br gq 3 [(vI a),(vI b)])] (fun (x:Bool×Int×Nat×Nat×(OA)×Nat×(List RA)×(OA)×Nat)=>bif x.1 then (vT [(Value.pointer (some ⟨x.2.2.1,0,none⟩)),(vS x.2.2.2.2.2.2.2.1 2 x.2.2.2.2.2.2.2.2),(vI 0)]) else (vT [(Value.pointer none),(vS none 0 0),(vI x.2.1)])) (fun (x:Bool×Int×Nat×Nat×(OA)×Nat×(List RA)×(OA)×Nat)=>(x.1=true→(ku r a b=0∧x.2.2.2.2.2.2.1.length=r.ay.length))∧(x.1=false→(x.2.1=ku r a b∧ ¬ ku r a b=0))) (fun (x:Bool×Int×Nat×Nat×(OA)×Nat×(List RA)×(OA)×Nat)=>bif x.1 then [(br x.2.2.1 100 (eC.cells (eC.mk (kx r kA kC cA cC bA bC slA slC drA drC heA heC) (bB.mk x.2.2.2.2.1 ((bX r).length) x.2.2.2.2.2.1) (Value.map (some x.2.2.2.1))))),(own x.2.2.2.2.1 x.2.2.2.2.2.1 78 1 (List.zipWith wj (bX r) x.2.2.2.2.2.2.1)),(bV (aU yh (bX r) x.2.2.2.2.2.2.1)),(gQ iV x.2.2.2.1 (bw dF (aJ r))),(own x.2.2.2.2.2.2.2.1 x.2.2.2.2.2.2.2.2 47 2 ([(aC (aJ r) a),(aC (aJ r) b)].map aa.cells))] else []):=by
 have hline:=hin.line
 have hhl:=hin.jZ
 have hhs:=hin.has
 have hsll:=hin.j6
 have hdrl:=hin.draw
 have htal:=eA (r:=r)
 refine ff kr Tryz.func32 rfl rfl fun w0 Q hQ hN=>?_
 try dsimp only
 refine WS fun _ hK1=>fP rfl fun b2=>rP 3 [] mn ?_
 refine RK hK1<|WS fun _ hK3=>rP 1 [] (mc 0 rfl mn) ?_
 refine cX (Cc r kA kC az cA cC bA bC slA slC drA drC ha heA heC hin) (bh [1,2,3,4,5,6,7,8,9]) rfl fun y4 hy5=>?_
 obtain ⟨ok12,ec6,gw7,gs8,tA9,tC10,tz11⟩:=y4
 cases ok12
 ·obtain ⟨hec,he⟩:=hy5.2 rfl
  try dsimp only at hec he
  subst hec
  try dsimp only [cond_true,cond_false,List.cons_append,List.nil_append]
  refine rP 5 [] mn ?_
  refine RK hK3<|ai fun _ hK13=>WS fun _ hK14=>rP 2 [] mn ?_
  refine RK hK14 ?_
  refine bM rfl (bj fun h20=>?_) (bk fun h20=>?_)
  ·exact absurd h20 he
  refine WS fun _ hK15=>rP 4 [] mn ?_
  refine RK hK15<|an ?_
  refine hQ _ _ _ (aZ (vs:=[(Value.pointer none),(vS none 0 0),(vI (fV r))]) ⟨rfl,rfl,rfl,trivial⟩ fun w hs=>ej (false,(fV r),0,0,none,0,[],none,0) [] ?_ ?_ rfl rfl (by first|rfl|(show List.all _ _=true; simp only [cond_true,cg,List.all_nil,eG,Bool.and_true]; rfl)) hs)
  ·rfl
  ·refine ⟨fun q=>Bool.noConfusion (show false=true from q),fun _=>?_⟩; first|(have e:=jh (a:=a) (b:=b) he; exact ⟨e.symm,fun q=>he (e.symm.trans q)⟩)|(have e:=je (a:=a) (b:=b) he om; exact ⟨e.symm,fun q=>absurd (e.symm.trans q) dc⟩)|(have e:=hO (a:=a) (b:=b) he om (by first|exact .inl asm|exact .inr asm); exact ⟨e.symm,fun q=>absurd (e.symm.trans q) dc⟩)
 obtain ⟨he,htz⟩:=hy5.1 rfl
 try dsimp only [cond_true,cond_false,List.cons_append,List.nil_append]
 refine rP 5 [] mn ?_
 refine RK hK3<|ai fun _ hK16=>WS fun _ hK17=>rP 1 [] mn ?_
 refine rS (SX (cb (r:= .bool false) rfl rfl rfl qj) rfl rfl)<|RK hK17<|aW rfl<|WK hK16<|ai fun _ hK18=>WS fun _ hK19=>rP 2 [] mn ?_
 refine rS (CL (eu.eq (EP r kA kC az cA cC bA bC slA slC drA drC ha heA heC tz11 tA9 tC10 (Value.map (some gs8)) gw7 ([a,b]) (some ⟨gq,0,none⟩) 2 hin sd) p6) (cw 6 rfl rfl<|cw 7 rfl rfl<|cw 8 rfl rfl<|cw 9 rfl rfl<|cw 10 rfl rfl<|cw 11 rfl rfl<|cw 12 rfl rfl<|cw 13 rfl rfl<|bq (aK (n:=(bX r).length) 1 rfl (p7 (by rw [htal]; exact htz)))<|bq (j7 2 rfl xg)<|cw 0 rfl rfl<|bq (mX 14 rfl rfl (by simp [bT]) rfl)<|aT) rfl)<|rP 2 [] mn ?_
 refine c8 (t:=26) rfl (bk fun h26=>?_) (bj fun h26=>?_)
 ·refine rP 3 [] mn ?_
  refine rP 4 [] mn ?_
  refine rP 2 [] mn ?_
  refine RK hK19<|aI rfl<|WS fun _ hK20=>rP 3 [] mn ?_
  refine RK hK20<|an ?_
  refine hQ _ _ _ (aZ (vs:=[(Value.pointer none),(vS none 0 0),(vI 2)]) ⟨rfl,rfl,rfl,trivial⟩ fun w hs=>ej (false,2,0,0,none,0,[],none,0) [] ?_ ?_ rfl rfl (by first|rfl|(show List.all _ _=true; simp only [cond_true,cg,List.all_nil,eG,Bool.and_true]; rfl)) hs)
  ·rfl
  ·refine ⟨fun q=>Bool.noConfusion (show false=true from q),fun _=>?_⟩; first|(have e:=jh (a:=a) (b:=b) he; exact ⟨e.symm,fun q=>he (e.symm.trans q)⟩)|(have e:=je (a:=a) (b:=b) he om; exact ⟨e.symm,fun q=>absurd (e.symm.trans q) dc⟩)|(have e:=hO (a:=a) (b:=b) he om (by first|exact .inl asm|exact .inr asm); exact ⟨e.symm,fun q=>absurd (e.symm.trans q) dc⟩)
 refine rP 1 [] mn ?_
 refine cX (uN (some ⟨gq,0,none⟩) 2 2) (aT) rfl fun b23 hy22=>?_
 try dsimp only
 refine cX (vw ([a,b]) (some ⟨gq,0,none⟩) 2 b23 sd) (bq (mX 15 rfl rfl (by simp [bT]) rfl)<|cw 0 rfl rfl<|aT) rfl fun y24 hy25=>?_
 obtain ⟨a26,c27⟩:=y24
 try dsimp only
 try dsimp only
 refine lF 0 rfl rfl rfl rfl (Az (iq ([a,b])) a26 c27 sd) rfl nu rfl (fun m28 hy30=>?_)
 try dsimp only
 refine rP 3 [] mn ?_
 have hcm:=FQ a b
 refine rP 2 [] mn ?_
 refine RK hK19 ?_
 refine cP rfl (aP fun h35=>?_) (aQ fun h35=>?_)
 ·refine WS fun _ hK31=>?_
  refine rP 3 [] mn ?_
  refine RK hK31<|an ?_
  refine hQ _ _ _ (aZ (vs:=[(Value.pointer none),(vS none 0 0),(vI 2)]) ⟨rfl,rfl,rfl,trivial⟩ fun w hs=>ej (false,2,0,0,none,0,[],none,0) [] ?_ ?_ rfl rfl (by first|rfl|(show List.all _ _=true; simp only [cond_true,cg,List.all_nil,eG,Bool.and_true]; rfl)) hs)
  ·rfl
  ·refine ⟨fun q=>Bool.noConfusion (show false=true from q),fun _=>?_⟩; first|(have e:=jh (a:=a) (b:=b) he; exact ⟨e.symm,fun q=>he (e.symm.trans q)⟩)|(have e:=je (a:=a) (b:=b) he om; exact ⟨e.symm,fun q=>absurd (e.symm.trans q) dc⟩)|(have e:=hO (a:=a) (b:=b) he om (by first|exact .inl asm|exact .inr asm); exact ⟨e.symm,fun q=>absurd (e.symm.trans q) dc⟩)
 refine WK hK18<|WS fun _ hK32=>rP 1 [] mn ?_
 refine RK hK32<|ai fun _ hK33=>WS fun _ hK34=>rP 3 [] mn ?_
 refine RK hK34<|av<|kz 3<|ek fun R35 hR35=>WS fun _ hK36=>rS (SX (cb (r:= .bool true) rfl rfl rfl gH) rfl rfl)<|RK hK36<|ai fun _ hK37=>aI rfl<|WK hK37 ?_
 refine ai fun _ hK38=>av<|WS fun _ hK39=>rS (MF 0 0 rfl dB rfl dc rfl)<|rP 2 [] (mr 16 rfl mn) ?_
 refine RK hK39<|WS fun _ hK40=>rP 1 [] mn ?_
 refine rS (SX (cf rfl rfl) rfl rfl)<|rP 3 [] (mc 2 rfl mn) ?_
 refine rS (SX (iY (kV:=iV) (x:=a) (l:=(aJ r)) (f:=dF) (z:=(aa.mk 0 0)) rfl rfl rfl nJ (eK oZ) xz (by exact aA 5 rfl)) rfl rfl)<|rP 3 [] mn ?_
 refine AL rfl cV fun b41=>f_ rfl bY rfl<|rP 1 [] mn ?_
 refine RK hK40<|ai fun _ hK42=>WS fun _ hK43=>?_
 rw [show ((List.lookup a (aJ r)).getD (aa.mk 0 0))=(aC (aJ r) a) from rfl]
 refine rP 2 [] mn ?_
 refine RK hK43 ?_
 refine cP rfl (fun h52=>?_) (fun h52=>?_)
 ·rw [Bool.not_eq_true'] at h52
  refine WS fun _ hK44=>rP 3 [] mn ?_
  refine RK hK44<|an ?_
  refine hQ _ _ _ (aZ (vs:=[(Value.pointer none),(vS none 0 0),(vI 6)]) ⟨rfl,rfl,rfl,trivial⟩ fun w hs=>ej (false,6,0,0,none,0,[],none,0) [] ?_ ?_ rfl rfl (by first|rfl|(show List.all _ _=true; simp only [cond_true,cg,List.all_nil,eG,Bool.and_true]; rfl)) hs)
  ·rfl
  ·refine ⟨fun q=>Bool.noConfusion (show false=true from q),fun _=>?_⟩; first|(have e:=jh (a:=a) (b:=b) he; exact ⟨e.symm,fun q=>he (e.symm.trans q)⟩)|(have e:=je (a:=a) (b:=b) he om; exact ⟨e.symm,fun q=>absurd (e.symm.trans q) dc⟩)|(have e:=hO (a:=a) (b:=b) he om (by first|exact .inl asm|exact .inr asm); exact ⟨e.symm,fun q=>absurd (e.symm.trans q) dc⟩)
 rw [Bool.not_eq_false'] at h52
 refine WK hK42<|ak<|rP 2 [] (mc 0 rfl mn) ?_
 refine fc (xs:=[.tmp 54]) (cs:=(aa.cells (aC (aJ r) a))) rfl jF cV rfl rfl rfl rfl (by simp [Value.cells,aa.aX]) rfl rfl fun b45=>kY 47 2<|er (es2:=(List.map aa.cells ([(aC (aJ r) a)]))) (m':=([(aC (aJ r) a)]).length) 0 rfl rfl rfl Ar rfl rfl sm (a_ (es:=List.map aa.cells [(aC (aJ r) a)]) 1 rfl rfl (by simp [aa.aX]) rfl) (gM _) sm (by simp [maxLen]) sm sm rfl fun a46 c47=>?_
 try dsimp only
 refine rP 1 [] mn ?_
 refine aB<|ax<|KK hK38<|ak<|rS (SX (cb (r:= .int .i64 1) rfl rfl rfl (g8 ⟨dc,dc⟩)) rfl rfl)<|rP 1 [] mn ?_
 refine RK hR35<|ek fun R48 hR48=>WS fun _ hK49=>rS (SX (cb (r:= .bool true) rfl rfl rfl gH) rfl rfl)<|RK hK49<|ai fun _ hK50=>aI rfl<|WK hK50<|ai fun _ hK51=>av ?_
 refine WS fun _ hK52=>rS (MF 1 1 rfl dB rfl dc rfl)<|rP 2 [] (mr 19 rfl mn) ?_
 refine RK hK52<|WS fun _ hK53=>rP 1 [] mn ?_
 refine rS (SX (cf rfl rfl) rfl rfl)<|rP 3 [] (mc 5 rfl mn) ?_
 refine rS (SX (iY (kV:=iV) (x:=b) (l:=(aJ r)) (f:=dF) (z:=(aa.mk 0 0)) rfl rfl rfl nJ (eK oZ) xz (by exact aA 8 rfl)) rfl rfl)<|rP 3 [] mn ?_
 refine AL rfl cV fun b54=>f_ rfl bY rfl<|rP 1 [] mn ?_
 refine RK hK53<|ai fun _ hK55=>WS fun _ hK56=>?_
 rw [show ((List.lookup b (aJ r)).getD (aa.mk 0 0))=(aC (aJ r) b) from rfl]
 refine rP 2 [] mn ?_
 refine RK hK56 ?_
 refine cP rfl (fun h52=>?_) (fun h52=>?_)
 ·rw [Bool.not_eq_true'] at h52
  refine WS fun _ hK57=>rP 3 [] mn ?_
  refine RK hK57<|an ?_
  refine hQ _ _ _ (aZ (vs:=[(Value.pointer none),(vS none 0 0),(vI 6)]) ⟨rfl,rfl,rfl,trivial⟩ fun w hs=>ej (false,6,0,0,none,0,[],none,0) [] ?_ ?_ rfl rfl (by first|rfl|(show List.all _ _=true; simp only [cond_true,cg,List.all_nil,eG,Bool.and_true]; rfl)) hs)
  ·rfl
  ·refine ⟨fun q=>Bool.noConfusion (show false=true from q),fun _=>?_⟩; first|(have e:=jh (a:=a) (b:=b) he; exact ⟨e.symm,fun q=>he (e.symm.trans q)⟩)|(have e:=je (a:=a) (b:=b) he om; exact ⟨e.symm,fun q=>absurd (e.symm.trans q) dc⟩)|(have e:=hO (a:=a) (b:=b) he om (by first|exact .inl asm|exact .inr asm); exact ⟨e.symm,fun q=>absurd (e.symm.trans q) dc⟩)
 rw [Bool.not_eq_false'] at h52
 refine WK hK55<|ak<|rP 2 [] (mc 0 rfl mn) ?_
 refine fc (xs:=[.tmp 54]) (cs:=(aa.cells (aC (aJ r) b))) rfl jF cV rfl rfl rfl rfl (by simp [Value.cells,aa.aX]) rfl rfl fun b58=>er (es2:=(List.map aa.cells ([(aC (aJ r) a),(aC (aJ r) b)]))) (m':=([(aC (aJ r) a),(aC (aJ r) b)]).length) 2 rfl rfl rfl Ar rfl rfl sm (a_ (es:=List.map aa.cells [(aC (aJ r) b)]) 0 rfl rfl (by simp [aa.aX]) rfl) (gM _) sm (by simp [maxLen]) sm sm rfl fun a59 c60=>?_
 try dsimp only
 refine rP 1 [] mn ?_
 refine aB<|ax<|KK hK51<|ak<|rS (SX (cb (r:= .int .i64 2) rfl rfl rfl (g8 ⟨dc,dc⟩)) rfl rfl)<|rP 1 [] mn ?_
 refine RK hR48<|ek fun R61 hR61=>WS fun _ hK62=>rS (SX (cb (r:= .bool false) rfl rfl rfl gH) rfl rfl)<|RK hK62<|ai fun _ hK63=>aW rfl<|bp<|ae<|ae ?_
 refine au<|KK hK33<|WS fun _ hK64=>rP 5 [] mn ?_
 refine RK hK64<|an ?_
 refine hQ _ _ _ (aZ (vs:=[(vP gw7),(vS a59 (([(aC (aJ r) a),(aC (aJ r) b)]).length) c60),(vI 0)]) ⟨rfl,rfl,rfl,trivial⟩ fun w hs=>ej (true,0,gw7,gs8,tA9,tC10,tz11,a59,c60) [7,8,9,10,2] ?_ ?_ rfl rfl (by first|rfl|(show List.all _ _=true; simp only [cond_true,cg,List.all_nil,eG,Bool.and_true]; rfl)) hs)
 ·rfl
 ·exact ⟨fun _=>⟨nc he om asm asm,htz⟩,fun q=>Bool.noConfusion (show true=false from q)⟩
end
section
open Go.RowKit
theorem Gm (m:pB) (gm g1:Nat):
 DO Tryz.prog 88 [] [(vP g1)] [(gQ iV gm (bw vB m)),(br g1 121 [(Value.map (some gm))])] ([]:List Int) (fun ys x ys'=> ∃ n zs,(ys++[n]++zs).Perm (m.map (·.1))∧x=[vI n]∧ys'=ys++[n]) (fun ys=>ys.Perm (m.map (·.1))):=by
 refine ud kr Tryz.func88 rfl rfl fun l J Z A0 w0 Q hY hJ0 hF0 hQ hN=>?_
 try dsimp only
 refine WS fun _ hK1=>rP 1 [] (mr 2 rfl mn) ?_
 refine kd (kV:=iV) (m:=bw vB m) 1 rfl rfl th rfl ⟨rfl,fun h=>h⟩ (by exact mg 1 rfl) rfl fun r2=>?_
 try dsimp only
 refine RK hK1<|av ?_
 have hinit:(pE m m ([]:List Int))∧(∀ p∈m,p∈m)∧(J ([]:List Int) A0)∧(Fo A0 w0 A0):=by exact ⟨yv,fun p hp=>hp,hJ0,hF0⟩
 refine cp (ι:={z:pB×(List Int)×aq // (pE m z.1 z.2.1)∧(∀ p∈z.1,p∈m)∧(J z.2.1 z.2.2)∧(Fo A0 w0 z.2.2)}) (fun z=>[(0,(Value.func (.yield l) #[] #[])),(1,(vP g1)),(5,(vP r2))]) (fun z=>[(wo iV r2 gm (bw vB m) (bw vB z.1.1) none),z.1.2.2,(gQ iV gm (bw vB m)).ro,(br g1 121 [(Value.map (some gm))]).ro]) (fun z=>z.1.1.length) ⟨(m,([]:List Int),A0),hinit⟩ (aL rfl) (aG [0,1,2,3]) ?_
 clear hinit
 rintro ⟨⟨left,ys,A⟩,⟨hl1_0,hl1_1,hl1_2,hl1_3⟩⟩ J3 hJ3
 try dsimp only at hl1_0 hl1_1 hl1_2 hl1_3
 try dsimp only
 refine WS fun _ hK4=>?_
 refine jE (eK oZ).inj (f:=Value.bool) 0 rfl rfl rfl rfl (fun h6=>?_) (fun x y hm hn=>?_)
 ·refine rP 1 [] mn ?_
  refine RK hK4<|ai fun _ hK5=>aW rfl<|bp<|ae<|ae<|au ?_
  refine hN _ _ _ (aZ (vs:=[]) trivial fun w hs=>HW 1 rfl (by rw [h6] at hl1_0; exact Ah hl1_0) hl1_2 hl1_3 hs)
 try dsimp only
 refine rP 1 [] mn ?_
 refine RK hK4<|ai fun _ hK6=>aI rfl<|WK hK6<|av<|WS fun _ hK7=>rS (SX (jL 0 rfl rfl rfl) rfl rfl)<|rP 2 [] mn ?_
 refine RK hK7<|WS fun _ hK8=>rP 2 [] mn ?_
 refine kH (k:=ys) (k':=(ys++[(x)])) 1 (by first|exact hsz|exact Nat.le_refl _) hY hl1_2 hl1_3 rfl rfl rfl (by exact ⟨x,_,tH hn hm hl1_0,rfl,rfl⟩) rfl rfl (fun B9 hJ10 hF11=>?_) (fun B9 hJ10 hF11=>?_)
 rotate_left 1
 ·refine rP 1 [] mn ?_
  refine RK hK8<|aI rfl<|an ?_
  refine hQ _ _ _ (aZ (vs:=[]) trivial fun w hs=>qL 1 rfl hJ10 hF11 hs)
 refine rP 1 [] mn ?_
 refine RK hK8<|aW rfl<|bZ<|ax<|gT 0 rfl fx rfl ?_
 refine aN (hJ3 ⟨((cj left x),(ys++[(x)]),B9),⟨tH hn hm hl1_0,fZ hl1_1,hJ10,hF11⟩⟩ _ _ _ rfl (eI hm) (aL rfl) (aG [0,1,2,3]))
theorem Ia (gm:Nat):
 oY Tryz.prog 66 [(Value.map (some gm))] [] (fun (x:Nat)=>(Value.func (.func 88) [].toArray [(vP x)].toArray)) (fun (x:Nat)=>True) (fun (x:Nat)=>[(br x 121 [(Value.map (some gm))])]):=by
 refine ff kr Tryz.func66 rfl rfl fun w0 Q hQ hN=>?_
 try dsimp only
 refine WS fun _ hK1=>t_ rfl rfl fun b2=>rP 1 [] mn ?_
 refine RK hK1<|WS fun _ hK3=>rS (FU rfl)<|rP 1 [] mn ?_
 refine RK hK3<|an ?_
 refine hQ _ _ _ (aZ (vs:=[(Value.func (.func 88) [].toArray [(vP b2)].toArray)]) ⟨rfl,trivial⟩ fun w hs=>ej b2 [0] ?_ ?_ rfl rfl rfl hs)
 ·rfl
 ·trivial
end
section
open Go.RowKit
theorem DH (m:pB) (gm g1:Nat) (hlen:m.length≤12):
 oY Tryz.prog 98 [(vS none 0 0),(Value.func (.func 88) [].toArray [(vP g1)].toArray)] [(gQ iV gm (bw vB m)),(br g1 121 [(Value.map (some gm))])] (fun (x:(List Int)×(OA)×Nat)=>(vS x.2.1 x.1.length x.2.2)) (fun (x:(List Int)×(OA)×Nat)=>x.1.Perm (m.map (·.1))) (fun (x:(List Int)×(OA)×Nat)=>[(own x.2.1 x.2.2 3 1 (x.1.map iC))]):=by
 refine ff kr Tryz.func98 rfl rfl fun w0 Q hQ hN=>?_
 try dsimp only
 refine WS fun _ hK1=>t_ rfl rfl fun b2=>rP 1 [] mn ?_
 refine RK hK1<|ai fun _ hK3=>WS fun _ hK4=>rP 1 [] mn ?_
 refine RK hK4<|av<|ky 1 rfl (by exact fun _ h=>h)<|ky 3 rfl (by exact fun _ h=>h)<|fI 3 1 ?_
 refine nA (L0:=[(2,(vP b2))]) (F:=[(gQ iV gm (bw vB m)).ro,(br g1 121 [(Value.map (some gm))]).ro]) (fun k (y:(OA)×Nat)=>(∃ zs,(k++zs).Perm (m.map (·.1)))) (fun k y=>[(own y.1 y.2 3 1 (k.map iC)),(br b2 29 [(vS y.1 k.length y.2)]),(gQ iV gm (bw vB m)).ro]) (fun _ (_:Unit)=>False) (fun _ _=>[]) [0,3,4] [2,1] (none,0) rfl rfl (Gm m gm g1) rfl rfl rfl (by exact ⟨_,List.Perm.refl _⟩) (by simp only [List.forall_mem_cons,List.not_mem_nil,false_imp_iff,implies_true,and_true]; exact ⟨⟨_,sm,(eD (bO _))⟩,⟨_,sm,(eD (bO _))⟩⟩) (by rintro k x k2 ⟨n,zs,_,rfl,_⟩; rfl) rfl (aL rfl) ?_ ?_ (fun _ _ _ h=>h.elim) (fun _ _ h=>h.elim)
 rotate_left 1
 ·rintro r11 k ⟨a,c⟩ hfin hin12
  have hr0:=hin12
  try dsimp only at hr0
  try dsimp only
  refine ax<|KK hK3<|WS fun _ hK13=>rP 2 [] (mc 4 rfl mn) ?_
  refine RK hK13<|an ?_
  refine hQ _ _ _ (oh 0 rfl rfl<|aZ (vs:=[(vS a k.length c)]) ⟨rfl,trivial⟩ fun w hs=>ej (k,a,c) [3] ?_ ?_ rfl rfl rfl hs)
  ·rfl
  ·first|exact hfin|exact hys
 rintro k x k2 ⟨a,c⟩ l ra rb S w1 K5 Qr6 hsz hx hin7 hK5 hQr6 xQr6 yQr6
 obtain ⟨n,zs,hn,rfl,rfl⟩:=hx; have hkl:=hn.length_eq; simp only [List.length_append,List.length_map,List.length_singleton] at hkl
 have hr0:=hin7
 try dsimp only at hr0
 try dsimp only
 refine ak<|rP 1 [] mn ?_
 refine aB ?_
 refine aN (hK5 _ _ ?_)
 refine av<|ak<|rP 2 [] (mc 2 rfl mn) ?_
 refine fc (xs:=[.tmp 9]) (cs:=[(vI n)]) rfl dB lT rfl rfl rfl rfl (by simp [Value.cells]) rfl rfl fun b8=>er (es2:=(List.map iC (k++[n]))) (m':=(k++[n]).length) 2 rfl rfl rfl qe rfl rfl sm (a_ (es:=List.map iC [n]) 0 rfl rfl (by simp [bT]) rfl) (kK _) os (by simp only [maxLen]; omega) sm sm rfl fun a9 c10=>?_
 try dsimp only
 refine NZ rfl Ho rfl rfl<|aB<|ax ?_
 exact hQr6 (a9,c10) _ _ (by exact ⟨_,hn⟩) (aG [1,2,3,4])
end
section
open Go.RowKit
theorem Be (m:pB) (gm g1:Nat) (hlen:m.length≤12):
 oY Tryz.prog 78 [(Value.func (.func 88) [].toArray [(vP g1)].toArray)] [(gQ iV gm (bw vB m)),(br g1 121 [(Value.map (some gm))])] (fun (x:(List Int)×(OA)×Nat)=>(vS x.2.1 x.1.length x.2.2)) (fun (x:(List Int)×(OA)×Nat)=>x.1.Perm (m.map (·.1))) (fun (x:(List Int)×(OA)×Nat)=>[(own x.2.1 x.2.2 3 1 (x.1.map iC))]):=by
 refine ff kr Tryz.func78 rfl rfl fun w0 Q hQ hN=>?_
 try dsimp only
 refine WS fun _ hK1=>rP 1 [] mn ?_
 refine RK hK1<|WS fun _ hK2=>rP 1 [] mn ?_
 refine cX (DH m gm g1 hlen) (bh [0,1]) rfl fun y3 hy4=>?_
 obtain ⟨ys5,a6,c7⟩:=y3
 try dsimp only
 have hys:=hy4
 refine rP 1 [] mn ?_
 refine RK hK2<|an ?_
 refine hQ _ _ _ (aZ (vs:=[(vS a6 ys5.length c7)]) ⟨rfl,trivial⟩ fun w hs=>ej (ys5,a6,c7) [0] ?_ ?_ rfl rfl rfl hs)
 ·rfl
 ·first|exact hfin|exact hys
theorem D4 (m:pB) (gm g1:Nat) (hlen:m.length≤12):
 oY Tryz.prog 54 [(Value.func (.func 88) [].toArray [(vP g1)].toArray)] [(gQ iV gm (bw vB m)),(br g1 121 [(Value.map (some gm))])] (fun (x:(OA)×Nat)=>(vS x.1 m.length x.2)) (fun (x:(OA)×Nat)=>True) (fun (x:(OA)×Nat)=>[(own x.1 x.2 3 1 ((iq (m.map (·.1))).map iC))]):=by
 refine ff kr Tryz.func54 rfl rfl fun w0 Q hQ hN=>?_
 try dsimp only
 refine WS fun _ hK1=>rP 1 [] mn ?_
 refine RK hK1<|WS fun _ hK2=>rP 1 [] mn ?_
 refine cX (Be m gm g1 hlen) (bh [0,1]) rfl fun y3 hy4=>?_
 obtain ⟨ys5,a6,c7⟩:=y3
 try dsimp only
 have hys:=hy4
 refine rP 1 [] mn ?_
 refine RK hK2<|WS fun _ hK8=>rP 1 [] mn ?_
 have hkl:=hys.length_eq
 simp only [List.length_map] at hkl
 refine lF 0 rfl rfl rfl rfl (Gk ys5 a6 c7 sd) rfl nu rfl (fun ms hms=>?_)
 try dsimp only
 refine RK hK8<|WS fun _ hK10=>?_
 obtain rfl:=vL (hms.1.trans hys) hms.2
 skip
 refine rP 2 [] mn ?_
 refine RK hK10<|an ?_
 refine hQ _ _ _ (aZ (vs:=[(vS a6 ys5.length c7)]) ⟨rfl,trivial⟩ fun w hs=>ej (a6,c7) [0] ?_ ?_ rfl rfl rfl hs)
 ·first|rfl|(rw [hkl]; rfl)
 ·trivial
end
section
open Go.RowKit
theorem Gf (m:pB) (gm:Nat):
 oY Tryz.prog 64 [(Value.map (some gm))] [(gQ iV gm (bw vB m))] (fun (x:Nat)=>(Value.map (some x))) (fun (x:Nat)=>True) (fun (x:Nat)=>[(gQ iV x (bw vB m))]):=by
 refine ff MP Tryz.func64 rfl rfl fun w0 Q hQ hN=>?_
 try dsimp only
 refine WS fun _ hK1=>rP 1 [] mn ?_
 refine RK hK1<|ai fun _ hK2=>WS fun _ hK3=>rP 1 [] mn ?_
 refine rS (SX (cb (r:= .bool false) rfl rfl rfl (Jl th)) rfl rfl)<|RK hK3<|aW rfl<|WK hK2<|WS fun _ hK4=>rP 1 [] mn ?_
 refine rS (SX (HF rfl rfl th) rfl rfl)<|FC (kV:=iV) (fn:=Tryz.f86) rfl rfl Tryz.func86 rfl rfl rfl kr (by exact mg 0 rfl) rfl fun b5=>?_
 try dsimp only
 refine rS (SX (Ls rfl rfl th) rfl rfl)<|rP 1 [] mn ?_
 refine RK hK4<|an ?_
 refine hQ _ _ _ (aZ (vs:=[(Value.map (some b5))]) ⟨rfl,trivial⟩ fun w hs=>ej b5 [0] ?_ ?_ rfl rfl rfl hs)
 ·rfl
 ·trivial
end
section
open Go.RowKit
theorem Dc (r:dg) (kA:OA) (kC:Nat) (cA:OA) (cC:Nat) (bA:OA) (bC:Nat) (slA:OA) (slC:Nat) (drA:OA) (drC:Nat) (heA:OA) (heC:Nat) (tA:OA) (tN tC:Nat) (gs gw:Nat) (m:kJ) (i:Int) (g1 g2:Nat) (hb: ∀ p∈m,0≤p.2.Lo∧p.2.Lo≤p.2.Hi∧p.2.Hi≤30000000):
 DO Tryz.prog 87 [] [(vP g1),(vP g2)] [(br gw 100 (eC.cells (eC.mk (kx r kA kC cA cC bA bC slA slC drA drC heA heC) (bB.mk tA tN tC) (Value.map (some gs))))),(gQ iV gs (bw dF m)),(br g1 77 [(vP gw)]),(br g2 3 [(vI i)])] ([]:List Int) (fun ys x ys'=> ∃ n,n∈(jW m i (aC m i))∧x=[vI n]∧ys'=ys++[n]) (fun ys=> ∀ n,n∈ys↔n∈(jW m i (aC m i))):=by
 have hob:=lI (i:=i) hb
 refine ud kr Tryz.func87 rfl rfl fun l J Z A0 w0 Q hY hJ0 hF0 hQ hN=>?_
 try dsimp only
 refine ai fun _ hK1=>ep cD [6,7] [] [] [0,1,2,3,4] [] rfl rfl rfl rfl rfl<|eS rfl (MH 3 rfl bJ rfl)<|eS rfl (SX (cf rfl rfl) rfl rfl)<|eS rfl (FA 12 rfl gp rfl)<|eS rfl (Ed (Value.map (some gs)) 1 rfl bJ rfl rfl)<|eS rfl (MH 4 rfl bJ rfl)<|eS rfl (SX (tw (kV:=iV) (x:=i) (l:=m) (f:=dF) (z:=(aa.mk 0 0)) rfl rfl rfl nJ (eK oZ) xz (by exact mg 2 rfl)) rfl rfl)<|fp rfl<|cr rfl fun T2 hT2=>?_
 refine AL rfl cV fun b3=>?_
 refine aB (hT2 _ _ (aG [1,2,3,4,5]) ?_)
 refine cr rfl fun T4 hT4=>f_ rfl bY rfl ?_
 refine aB (hT4 _ _ (aG [1,2,3,4,5]) ?_)
 refine gh rfl<|KK hK1<|ai fun _ hK5=>WS fun _ hK6=>?_
 rw [show ((List.lookup i m).getD (aa.mk 0 0))=(aC m i) from rfl]
 refine rP 3 [] (mc 0 rfl mn) ?_
 refine kH (k:=([]:List Int)) (k':=(([]:List Int)++[((aC m i).Lo)])) 1 (by first|exact hsz|exact Nat.le_refl _) hY hJ0 hF0 rfl rfl rfl (by exact ⟨_,cZ ..,rfl,rfl⟩) rfl rfl (fun B7 hJ8 hF9=>?_) (fun B7 hJ8 hF9=>?_)
 rotate_left 1
 ·refine rP 1 [] mn ?_
  refine RK hK6<|aI rfl<|an ?_
  refine hQ _ _ _ (aZ (vs:=[]) trivial fun w hs=>qL 1 rfl hJ8 hF9 hs)
 refine rP 1 [] mn ?_
 refine RK hK6<|aW rfl<|WK hK5<|WS fun _ hK10=>rP 1 [] (mr 4 rfl mn) ?_
 refine rS (SX (cf rfl rfl) rfl rfl)<|rP 2 [] (mr 2 rfl mn) ?_
 refine kd (kV:=iV) (m:=bw dF m) 3 rfl rfl nJ rfl ⟨rfl,fun h=>h⟩ (by exact mg 3 rfl) rfl fun r11=>?_
 try dsimp only
 refine RK hK10<|av ?_
 have hinit:(xq m i (aC m i) m (([]:List Int)++[((aC m i).Lo)]))∧(∀ p∈m,p∈m)∧(J (([]:List Int)++[((aC m i).Lo)]) B7)∧(Fo A0 w0 B7):=by exact ⟨Gg,fun p hp=>hp,asm,asm⟩
 refine cp (ι:={z:kJ×(List Int)×aq // (xq m i (aC m i) z.1 z.2.1)∧(∀ p∈z.1,p∈m)∧(J z.2.1 z.2.2)∧(Fo A0 w0 z.2.2)}) (fun z=>[(0,(Value.func (.yield l) #[] #[])),(1,(vP g1)),(2,(vP g2)),(4,(vP b3)),(24,(vP r11))]) (fun z=>[(wo iV r11 gs (bw dF m) (bw dF z.1.1) none),(br b3 47 (aa.cells (aC m i))),z.1.2.2,(br gw 100 (eC.cells (eC.mk (kx r kA kC cA cC bA bC slA slC drA drC heA heC) (bB.mk tA tN tC) (Value.map (some gs))))).ro,(gQ iV gs (bw dF m)).ro,(br g1 77 [(vP gw)]).ro,(br g2 3 [(vI i)]).ro]) (fun z=>z.1.1.length) ⟨(m,(([]:List Int)++[((aC m i).Lo)]),B7),hinit⟩ (aL rfl) (aG [0,1,2,3,4,5,6]) ?_
 clear hinit
 rintro ⟨⟨left,ys,A⟩,⟨hl3_0,hl3_1,hl3_2,hl3_3⟩⟩ J12 hJ12
 try dsimp only at hl3_0 hl3_1 hl3_2 hl3_3
 try dsimp only
 refine WS fun _ hK13=>?_
 refine jE (eK oZ).inj (f:=dF) 0 rfl rfl rfl rfl (fun h25=>?_) (fun x y hm hn=>?_)
 ·refine rP 1 [] mn ?_
  refine RK hK13<|ai fun _ hK14=>aW rfl<|bp<|ae<|ae<|au ?_
  refine hN _ _ _ (aZ (vs:=[]) trivial fun w hs=>HW 2 rfl (by rw [h25] at hl3_0; exact Hc hl3_0) hl3_2 hl3_3 hs)
 try dsimp only
 refine rP 1 [] mn ?_
 refine RK hK13<|ai fun _ hK15=>aI rfl<|WK hK15<|av<|WS fun _ hK16=>rS (SX (jL 0 rfl rfl rfl) rfl rfl)<|rP 2 [] mn ?_
 refine AL rfl cV fun b17=>rP 1 [] mn ?_
 refine f_ rfl bY rfl<|RK hK16<|WS fun _ hK18=>rP 1 [] mn ?_
 have hyb:=hb _ (hl3_1 _ hm)
 dsimp only at hyb
 refine rP 5 [] (mc 0 rfl mn) ?_
 refine rS (SX (bg (xs:=[(0,.tmp 32),(1,.tmp 35)]) (cs:=[(vI (y.Lo+1)),(vI (y.Hi+1))]) rfl rfl (bf LX rfl)) rfl rfl)<|rP 1 [] mn ?_
 refine RK hK18<|av<|kz 3<|ek fun R19 hR19=>WS fun _ hK20=>rS (SX (cb (r:= .bool true) rfl rfl rfl gH) rfl rfl)<|RK hK20<|ai fun _ hK21=>aI rfl<|WK hK21 ?_
 refine ai fun _ hK22=>av<|WS fun _ hK23=>rS (SX (pT (v:=(vI (y.Lo+1))) 0 rfl rfl rfl BM bJ rfl dc rfl) rfl rfl)<|rP 1 [] mn ?_
 refine RK hK23<|WS fun _ hK24=>rP 4 [] (mr 7 rfl mn) ?_
 refine dp (t:=43) rfl (bj fun h25=>?_) (bk fun h25=>?_)
 ·refine rP 14 [] mn ?_
  refine RK hK24<|aW rfl<|bZ<|ax<|KK hK22<|ak<|rS (SX (cb (r:= .int .i64 1) rfl rfl rfl (g8 ⟨dc,dc⟩)) rfl rfl)<|rP 1 [] mn ?_
  refine RK hR19<|ek fun R73 hR73=>WS fun _ hK74=>rS (SX (cb (r:= .bool true) rfl rfl rfl gH) rfl rfl)<|RK hK74<|ai fun _ hK75=>aI rfl<|WK hK75<|ai fun _ hK76=>av ?_
  refine WS fun _ hK77=>rS (SX (pT (v:=(vI (y.Hi+1))) 1 rfl rfl rfl BM bJ rfl dc rfl) rfl rfl)<|rP 1 [] mn ?_
  refine RK hK77<|WS fun _ hK78=>rP 4 [] (mr 7 rfl mn) ?_
  refine dp (t:=43) rfl (bj fun h79=>?_) (bk fun h79=>?_)
  ·refine rP 14 [] mn ?_
   refine RK hK78<|aW rfl<|bZ<|ax<|KK hK76<|ak<|rS (SX (cb (r:= .int .i64 2) rfl rfl rfl (g8 ⟨dc,dc⟩)) rfl rfl)<|rP 1 [] mn ?_
   refine RK hR73<|ek fun R91 hR91=>WS fun _ hK92=>rS (SX (cb (r:= .bool false) rfl rfl rfl gH) rfl rfl)<|RK hK92<|ai fun _ hK93=>aW rfl<|bp<|ae<|ae ?_
   refine au<|ax<|gT 1 rfl fx rfl ?_
   refine aN (hJ12 ⟨((cj left x),ys,A),⟨kE hn hm hl3_1 hl3_0 (fun n h_=>by first|exact h_|(simp [h_]; done)) (fun n h_=>by first|exact .inl h_|(simp only [g4,bU] at h_; rcases h_ with (h_|rfl)|rfl<;>first|exact .inl h_|exact .inr (fU (hl3_1 _ hm) dso sm om))|(simp only [g4,bU] at h_; rcases h_ with h_|rfl<;>first|exact .inl h_|exact .inr (fU (hl3_1 _ hm) dso sm om))) (fun hi_ n h_ hb_=>by simp only [dZ,List.not_mem_nil,or_false] at h_; rcases h_ with rfl|rfl<;>first|(simp; done)|(exfalso; omega)),fZ hl3_1,hl3_2,hl3_3⟩⟩ _ _ _ rfl (eI hm) (aL rfl) (aG [1,2,3,4,5,6,7]))
  refine rP 5 [] (mc 2 rfl mn) ?_
  refine fc (xs:=[.tmp 48]) (cs:=[(vI (y.Hi+1))]) rfl dB lT rfl rfl rfl rfl (by simp [Value.cells]) rfl rfl fun b80=>rS (CL (eu.eq (lG ((aC m i).Lo) ((aC m i).Hi) ([(y.Hi+1)]) (some ⟨b80,0,none⟩) 1 sd) dx) (bq (a_ 0 rfl rfl (by simp [bT]) rfl)<|aT) rfl)<|rP 2 [] mn ?_
  refine dp (t:=52) rfl (aQ fun h81=>?_) (aP fun h81=>?_)
  ·refine rP 5 [] mn ?_
   refine RK hK78<|aW rfl<|bZ<|ax<|KK hK76<|ak<|rS (SX (cb (r:= .int .i64 2) rfl rfl rfl (g8 ⟨dc,dc⟩)) rfl rfl)<|rP 1 [] mn ?_
   refine RK hR73<|ek fun R88 hR88=>WS fun _ hK89=>rS (SX (cb (r:= .bool false) rfl rfl rfl gH) rfl rfl)<|RK hK89<|ai fun _ hK90=>aW rfl<|bp<|ae<|ae ?_
   refine au<|ax<|gT 2 rfl fx rfl ?_
   refine aN (hJ12 ⟨((cj left x),ys,A),⟨kE hn hm hl3_1 hl3_0 (fun n h_=>by first|exact h_|(simp [h_]; done)) (fun n h_=>by first|exact .inl h_|(simp only [g4,bU] at h_; rcases h_ with (h_|rfl)|rfl<;>first|exact .inl h_|exact .inr (fU (hl3_1 _ hm) dso sm om))|(simp only [g4,bU] at h_; rcases h_ with h_|rfl<;>first|exact .inl h_|exact .inr (fU (hl3_1 _ hm) dso sm om))) (fun hi_ n h_ hb_=>by simp only [dZ,List.not_mem_nil,or_false] at h_; rcases h_ with rfl|rfl<;>first|(simp; done)|(exfalso; omega)),fZ hl3_1,hl3_2,hl3_3⟩⟩ _ _ _ rfl (eI hm) (aL rfl) (aG [2,3,4,5,6,7,8]))
  refine rP 2 [] mn ?_
  refine kH (k:=ys) (k':=(ys++[((y.Hi+1))])) 4 (by first|exact hsz|exact Nat.le_refl _) hY hl3_2 hl3_3 rfl rfl rfl (by exact ⟨_,fU (hl3_1 _ hm) dso (by first|exact .inl rfl|exact .inr rfl) om,rfl,rfl⟩) rfl rfl (fun B82 hJ83 hF84=>?_) (fun B82 hJ83 hF84=>?_)
  rotate_left 1
  ·refine rP 2 [] mn ?_
   refine RK hK78<|aI rfl<|an ?_
   refine hQ _ _ _ (aZ (vs:=[]) trivial fun w hs=>qL 4 rfl hJ83 hF84 hs)
  refine rP 2 [] mn ?_
  refine RK hK78<|aW rfl<|bZ<|ax<|KK hK76<|ak<|rS (SX (cb (r:= .int .i64 2) rfl rfl rfl (g8 ⟨dc,dc⟩)) rfl rfl)<|rP 1 [] mn ?_
  refine RK hR73<|ek fun R85 hR85=>WS fun _ hK86=>rS (SX (cb (r:= .bool false) rfl rfl rfl gH) rfl rfl)<|RK hK86<|ai fun _ hK87=>aW rfl<|bp<|ae<|ae ?_
  refine au<|ax<|gT 2 rfl fx rfl ?_
  refine aN (hJ12 ⟨((cj left x),(ys++[((y.Hi+1))]),B82),⟨kE hn hm hl3_1 hl3_0 (fun n h_=>by first|exact h_|(simp [h_]; done)) (fun n h_=>by first|exact .inl h_|(simp only [g4,bU] at h_; rcases h_ with (h_|rfl)|rfl<;>first|exact .inl h_|exact .inr (fU (hl3_1 _ hm) dso sm om))|(simp only [g4,bU] at h_; rcases h_ with h_|rfl<;>first|exact .inl h_|exact .inr (fU (hl3_1 _ hm) dso sm om))) (fun hi_ n h_ hb_=>by simp only [dZ,List.not_mem_nil,or_false] at h_; rcases h_ with rfl|rfl<;>first|(simp; done)|(exfalso; omega)),fZ hl3_1,hJ83,hF84⟩⟩ _ _ _ rfl (eI hm) (aL rfl) (aG [2,3,4,5,6,7,8]))
 refine rP 5 [] (mc 2 rfl mn) ?_
 refine fc (xs:=[.tmp 48]) (cs:=[(vI (y.Lo+1))]) rfl dB lT rfl rfl rfl rfl (by simp [Value.cells]) rfl rfl fun b26=>rS (CL (eu.eq (lG ((aC m i).Lo) ((aC m i).Hi) ([(y.Lo+1)]) (some ⟨b26,0,none⟩) 1 sd) dx) (bq (a_ 0 rfl rfl (by simp [bT]) rfl)<|aT) rfl)<|rP 2 [] mn ?_
 refine dp (t:=52) rfl (aQ fun h27=>?_) (aP fun h27=>?_)
 ·refine rP 5 [] mn ?_
  refine RK hK24<|aW rfl<|bZ<|ax<|KK hK22<|ak<|rS (SX (cb (r:= .int .i64 1) rfl rfl rfl (g8 ⟨dc,dc⟩)) rfl rfl)<|rP 1 [] mn ?_
  refine RK hR19<|ek fun R52 hR52=>WS fun _ hK53=>rS (SX (cb (r:= .bool true) rfl rfl rfl gH) rfl rfl)<|RK hK53<|ai fun _ hK54=>aI rfl<|WK hK54<|ai fun _ hK55=>av ?_
  refine WS fun _ hK56=>rS (SX (pT (v:=(vI (y.Hi+1))) 1 rfl rfl rfl BM bJ rfl dc rfl) rfl rfl)<|rP 1 [] mn ?_
  refine RK hK56<|WS fun _ hK57=>rP 4 [] (mr 8 rfl mn) ?_
  refine dp (t:=43) rfl (bj fun h58=>?_) (bk fun h58=>?_)
  ·refine rP 14 [] mn ?_
   refine RK hK57<|aW rfl<|bZ<|ax<|KK hK55<|ak<|rS (SX (cb (r:= .int .i64 2) rfl rfl rfl (g8 ⟨dc,dc⟩)) rfl rfl)<|rP 1 [] mn ?_
   refine RK hR52<|ek fun R70 hR70=>WS fun _ hK71=>rS (SX (cb (r:= .bool false) rfl rfl rfl gH) rfl rfl)<|RK hK71<|ai fun _ hK72=>aW rfl<|bp<|ae<|ae ?_
   refine au<|ax<|gT 2 rfl fx rfl ?_
   refine aN (hJ12 ⟨((cj left x),ys,A),⟨kE hn hm hl3_1 hl3_0 (fun n h_=>by first|exact h_|(simp [h_]; done)) (fun n h_=>by first|exact .inl h_|(simp only [g4,bU] at h_; rcases h_ with (h_|rfl)|rfl<;>first|exact .inl h_|exact .inr (fU (hl3_1 _ hm) dso sm om))|(simp only [g4,bU] at h_; rcases h_ with h_|rfl<;>first|exact .inl h_|exact .inr (fU (hl3_1 _ hm) dso sm om))) (fun hi_ n h_ hb_=>by simp only [dZ,List.not_mem_nil,or_false] at h_; rcases h_ with rfl|rfl<;>first|(simp; done)|(exfalso; omega)),fZ hl3_1,hl3_2,hl3_3⟩⟩ _ _ _ rfl (eI hm) (aL rfl) (aG [2,3,4,5,6,7,8]))
  refine rP 5 [] (mc 3 rfl mn) ?_
  refine fc (xs:=[.tmp 48]) (cs:=[(vI (y.Hi+1))]) rfl dB lT rfl rfl rfl rfl (by simp [Value.cells]) rfl rfl fun b59=>rS (CL (eu.eq (lG ((aC m i).Lo) ((aC m i).Hi) ([(y.Hi+1)]) (some ⟨b59,0,none⟩) 1 sd) dx) (bq (a_ 0 rfl rfl (by simp [bT]) rfl)<|aT) rfl)<|rP 2 [] mn ?_
  refine dp (t:=52) rfl (aQ fun h60=>?_) (aP fun h60=>?_)
  ·refine rP 5 [] mn ?_
   refine RK hK57<|aW rfl<|bZ<|ax<|KK hK55<|ak<|rS (SX (cb (r:= .int .i64 2) rfl rfl rfl (g8 ⟨dc,dc⟩)) rfl rfl)<|rP 1 [] mn ?_
   refine RK hR52<|ek fun R67 hR67=>WS fun _ hK68=>rS (SX (cb (r:= .bool false) rfl rfl rfl gH) rfl rfl)<|RK hK68<|ai fun _ hK69=>aW rfl<|bp<|ae<|ae ?_
   refine au<|ax<|gT 3 rfl fx rfl ?_
   refine aN (hJ12 ⟨((cj left x),ys,A),⟨kE hn hm hl3_1 hl3_0 (fun n h_=>by first|exact h_|(simp [h_]; done)) (fun n h_=>by first|exact .inl h_|(simp only [g4,bU] at h_; rcases h_ with (h_|rfl)|rfl<;>first|exact .inl h_|exact .inr (fU (hl3_1 _ hm) dso sm om))|(simp only [g4,bU] at h_; rcases h_ with h_|rfl<;>first|exact .inl h_|exact .inr (fU (hl3_1 _ hm) dso sm om))) (fun hi_ n h_ hb_=>by simp only [dZ,List.not_mem_nil,or_false] at h_; rcases h_ with rfl|rfl<;>first|(simp; done)|(exfalso; omega)),fZ hl3_1,hl3_2,hl3_3⟩⟩ _ _ _ rfl (eI hm) (aL rfl) (aG [3,4,5,6,7,8,9]))
  refine rP 2 [] mn ?_
  refine kH (k:=ys) (k':=(ys++[((y.Hi+1))])) 5 (by first|exact hsz|exact Nat.le_refl _) hY hl3_2 hl3_3 rfl rfl rfl (by exact ⟨_,fU (hl3_1 _ hm) dso (by first|exact .inl rfl|exact .inr rfl) om,rfl,rfl⟩) rfl rfl (fun B61 hJ62 hF63=>?_) (fun B61 hJ62 hF63=>?_)
  rotate_left 1
  ·refine rP 2 [] mn ?_
   refine RK hK57<|aI rfl<|an ?_
   refine hQ _ _ _ (aZ (vs:=[]) trivial fun w hs=>qL 5 rfl hJ62 hF63 hs)
  refine rP 2 [] mn ?_
  refine RK hK57<|aW rfl<|bZ<|ax<|KK hK55<|ak<|rS (SX (cb (r:= .int .i64 2) rfl rfl rfl (g8 ⟨dc,dc⟩)) rfl rfl)<|rP 1 [] mn ?_
  refine RK hR52<|ek fun R64 hR64=>WS fun _ hK65=>rS (SX (cb (r:= .bool false) rfl rfl rfl gH) rfl rfl)<|RK hK65<|ai fun _ hK66=>aW rfl<|bp<|ae<|ae ?_
  refine au<|ax<|gT 3 rfl fx rfl ?_
  refine aN (hJ12 ⟨((cj left x),(ys++[((y.Hi+1))]),B61),⟨kE hn hm hl3_1 hl3_0 (fun n h_=>by first|exact h_|(simp [h_]; done)) (fun n h_=>by first|exact .inl h_|(simp only [g4,bU] at h_; rcases h_ with (h_|rfl)|rfl<;>first|exact .inl h_|exact .inr (fU (hl3_1 _ hm) dso sm om))|(simp only [g4,bU] at h_; rcases h_ with h_|rfl<;>first|exact .inl h_|exact .inr (fU (hl3_1 _ hm) dso sm om))) (fun hi_ n h_ hb_=>by simp only [dZ,List.not_mem_nil,or_false] at h_; rcases h_ with rfl|rfl<;>first|(simp; done)|(exfalso; omega)),fZ hl3_1,hJ62,hF63⟩⟩ _ _ _ rfl (eI hm) (aL rfl) (aG [3,4,5,6,7,8,9]))
 refine rP 2 [] mn ?_
 refine kH (k:=ys) (k':=(ys++[((y.Lo+1))])) 4 (by first|exact hsz|exact Nat.le_refl _) hY hl3_2 hl3_3 rfl rfl rfl (by exact ⟨_,fU (hl3_1 _ hm) dso (by first|exact .inl rfl|exact .inr rfl) om,rfl,rfl⟩) rfl rfl (fun B28 hJ29 hF30=>?_) (fun B28 hJ29 hF30=>?_)
 rotate_left 1
 ·refine rP 2 [] mn ?_
  refine RK hK24<|aI rfl<|an ?_
  refine hQ _ _ _ (aZ (vs:=[]) trivial fun w hs=>qL 4 rfl hJ29 hF30 hs)
 refine rP 2 [] mn ?_
 refine RK hK24<|aW rfl<|bZ<|ax<|KK hK22<|ak<|rS (SX (cb (r:= .int .i64 1) rfl rfl rfl (g8 ⟨dc,dc⟩)) rfl rfl)<|rP 1 [] mn ?_
 refine RK hR19<|ek fun R31 hR31=>WS fun _ hK32=>rS (SX (cb (r:= .bool true) rfl rfl rfl gH) rfl rfl)<|RK hK32<|ai fun _ hK33=>aI rfl<|WK hK33<|ai fun _ hK34=>av ?_
 refine WS fun _ hK35=>rS (SX (pT (v:=(vI (y.Hi+1))) 1 rfl rfl rfl BM bJ rfl dc rfl) rfl rfl)<|rP 1 [] mn ?_
 refine RK hK35<|WS fun _ hK36=>rP 4 [] (mr 8 rfl mn) ?_
 refine dp (t:=43) rfl (bj fun h37=>?_) (bk fun h37=>?_)
 ·refine rP 14 [] mn ?_
  refine RK hK36<|aW rfl<|bZ<|ax<|KK hK34<|ak<|rS (SX (cb (r:= .int .i64 2) rfl rfl rfl (g8 ⟨dc,dc⟩)) rfl rfl)<|rP 1 [] mn ?_
  refine RK hR31<|ek fun R49 hR49=>WS fun _ hK50=>rS (SX (cb (r:= .bool false) rfl rfl rfl gH) rfl rfl)<|RK hK50<|ai fun _ hK51=>aW rfl<|bp<|ae<|ae ?_
  refine au<|ax<|gT 2 rfl fx rfl ?_
  refine aN (hJ12 ⟨((cj left x),(ys++[((y.Lo+1))]),B28),⟨kE hn hm hl3_1 hl3_0 (fun n h_=>by first|exact h_|(simp [h_]; done)) (fun n h_=>by first|exact .inl h_|(simp only [g4,bU] at h_; rcases h_ with (h_|rfl)|rfl<;>first|exact .inl h_|exact .inr (fU (hl3_1 _ hm) dso sm om))|(simp only [g4,bU] at h_; rcases h_ with h_|rfl<;>first|exact .inl h_|exact .inr (fU (hl3_1 _ hm) dso sm om))) (fun hi_ n h_ hb_=>by simp only [dZ,List.not_mem_nil,or_false] at h_; rcases h_ with rfl|rfl<;>first|(simp; done)|(exfalso; omega)),fZ hl3_1,hJ29,hF30⟩⟩ _ _ _ rfl (eI hm) (aL rfl) (aG [2,3,4,5,6,7,8]))
 refine rP 5 [] (mc 3 rfl mn) ?_
 refine fc (xs:=[.tmp 48]) (cs:=[(vI (y.Hi+1))]) rfl dB lT rfl rfl rfl rfl (by simp [Value.cells]) rfl rfl fun b38=>rS (CL (eu.eq (lG ((aC m i).Lo) ((aC m i).Hi) ([(y.Hi+1)]) (some ⟨b38,0,none⟩) 1 sd) dx) (bq (a_ 0 rfl rfl (by simp [bT]) rfl)<|aT) rfl)<|rP 2 [] mn ?_
 refine dp (t:=52) rfl (aQ fun h39=>?_) (aP fun h39=>?_)
 ·refine rP 5 [] mn ?_
  refine RK hK36<|aW rfl<|bZ<|ax<|KK hK34<|ak<|rS (SX (cb (r:= .int .i64 2) rfl rfl rfl (g8 ⟨dc,dc⟩)) rfl rfl)<|rP 1 [] mn ?_
  refine RK hR31<|ek fun R46 hR46=>WS fun _ hK47=>rS (SX (cb (r:= .bool false) rfl rfl rfl gH) rfl rfl)<|RK hK47<|ai fun _ hK48=>aW rfl<|bp<|ae<|ae ?_
  refine au<|ax<|gT 3 rfl fx rfl ?_
  refine aN (hJ12 ⟨((cj left x),(ys++[((y.Lo+1))]),B28),⟨kE hn hm hl3_1 hl3_0 (fun n h_=>by first|exact h_|(simp [h_]; done)) (fun n h_=>by first|exact .inl h_|(simp only [g4,bU] at h_; rcases h_ with (h_|rfl)|rfl<;>first|exact .inl h_|exact .inr (fU (hl3_1 _ hm) dso sm om))|(simp only [g4,bU] at h_; rcases h_ with h_|rfl<;>first|exact .inl h_|exact .inr (fU (hl3_1 _ hm) dso sm om))) (fun hi_ n h_ hb_=>by simp only [dZ,List.not_mem_nil,or_false] at h_; rcases h_ with rfl|rfl<;>first|(simp; done)|(exfalso; omega)),fZ hl3_1,hJ29,hF30⟩⟩ _ _ _ rfl (eI hm) (aL rfl) (aG [3,4,5,6,7,8,9]))
 refine rP 2 [] mn ?_
 refine kH (k:=(ys++[((y.Lo+1))])) (k':=((ys++[((y.Lo+1))])++[((y.Hi+1))])) 5 (by first|exact hsz|exact Nat.le_refl _) hY hJ29 hF30 rfl rfl rfl (by exact ⟨_,fU (hl3_1 _ hm) dso (by first|exact .inl rfl|exact .inr rfl) om,rfl,rfl⟩) rfl rfl (fun B40 hJ41 hF42=>?_) (fun B40 hJ41 hF42=>?_)
 rotate_left 1
 ·refine rP 2 [] mn ?_
  refine RK hK36<|aI rfl<|an ?_
  refine hQ _ _ _ (aZ (vs:=[]) trivial fun w hs=>qL 5 rfl hJ41 hF42 hs)
 refine rP 2 [] mn ?_
 refine RK hK36<|aW rfl<|bZ<|ax<|KK hK34<|ak<|rS (SX (cb (r:= .int .i64 2) rfl rfl rfl (g8 ⟨dc,dc⟩)) rfl rfl)<|rP 1 [] mn ?_
 refine RK hR31<|ek fun R43 hR43=>WS fun _ hK44=>rS (SX (cb (r:= .bool false) rfl rfl rfl gH) rfl rfl)<|RK hK44<|ai fun _ hK45=>aW rfl<|bp<|ae<|ae ?_
 refine au<|ax<|gT 3 rfl fx rfl ?_
 refine aN (hJ12 ⟨((cj left x),((ys++[((y.Lo+1))])++[((y.Hi+1))]),B40),⟨kE hn hm hl3_1 hl3_0 (fun n h_=>by first|exact h_|(simp [h_]; done)) (fun n h_=>by first|exact .inl h_|(simp only [g4,bU] at h_; rcases h_ with (h_|rfl)|rfl<;>first|exact .inl h_|exact .inr (fU (hl3_1 _ hm) dso sm om))|(simp only [g4,bU] at h_; rcases h_ with h_|rfl<;>first|exact .inl h_|exact .inr (fU (hl3_1 _ hm) dso sm om))) (fun hi_ n h_ hb_=>by simp only [dZ,List.not_mem_nil,or_false] at h_; rcases h_ with rfl|rfl<;>first|(simp; done)|(exfalso; omega)),fZ hl3_1,hJ41,hF42⟩⟩ _ _ _ rfl (eI hm) (aL rfl) (aG [3,4,5,6,7,8,9]))
theorem F8 (gw:Nat) (i:Int):
 oY Tryz.prog 65 [(vP gw),(vI i)] [] (fun (x:Nat×Nat)=>(Value.func (.func 87) [].toArray [(Value.pointer (some ⟨x.1,0,none⟩)),(Value.pointer (some ⟨x.2,0,none⟩))].toArray)) (fun (x:Nat×Nat)=>True) (fun (x:Nat×Nat)=>[(br x.1 77 [(vP gw)]),(br x.2 3 [(vI i)])]):=by
 refine ff kr Tryz.func65 rfl rfl fun w0 Q hQ hN=>?_
 try dsimp only
 refine WS fun _ hK1=>t_ rfl rfl fun b2=>t_ rfl rfl fun b3=>rP 1 [] mn ?_
 refine RK hK1<|WS fun _ hK4=>rS (FU rfl)<|rP 1 [] mn ?_
 refine RK hK4<|an ?_
 refine hQ _ _ _ (aZ (vs:=[(Value.func (.func 87) [].toArray [(vP b2),(vP b3)].toArray)]) ⟨rfl,trivial⟩ fun w hs=>ej (b2,b3) [1,0] ?_ ?_ rfl rfl rfl hs)
 ·rfl
 ·trivial
end
section
open Go.RowKit
theorem H6 (r:dg) (kA:OA) (kC:Nat) (cA:OA) (cC:Nat) (bA:OA) (bC:Nat) (slA:OA) (slC:Nat) (drA:OA) (drC:Nat) (heA:OA) (heC:Nat) (tA:OA) (tN tC:Nat) (gs gw:Nat) (m:kJ) (i:Int) (hb: ∀ p∈m,0≤p.2.Lo∧p.2.Lo≤p.2.Hi∧p.2.Hi≤30000000) (hi:m.lookup i≠none) (hm12:m.length≤12):
 oY Tryz.prog 33 [(vP gw),(vI i)] [(br gw 100 (eC.cells (eC.mk (kx r kA kC cA cC bA bC slA slC drA drC heA heC) (bB.mk tA tN tC) (Value.map (some gs))))),(gQ iV gs (bw dF m))] (fun (x:(OA)×Nat)=>(vS x.1 ((iI m i (aC m i)).length) x.2)) (fun (x:(OA)×Nat)=>True) (fun (x:(OA)×Nat)=>[(own x.1 x.2 3 1 ((iI m i (aC m i)).map iC))]):=by
 refine ff kr Tryz.func33 rfl rfl fun w0 Q hQ hN=>?_
 try dsimp only
 refine WS fun _ hK1=>t_ rfl rfl fun b2=>t_ rfl rfl fun b3=>rP 1 [] mn ?_
 refine RK hK1<|WS fun _ hK4=>mD (kV:=iV) rfl rfl fun b5=>?_
 try dsimp only
 refine AL rfl LD fun b6=>GW rfl KL rfl rfl<|RK hK4<|ai fun _ hK7=>WS fun _ hK8=>rP 1 [] (mc 3 rfl mn) ?_
 refine rS (SX (cf rfl rfl) rfl rfl)<|rP 2 [] (mr 4 rfl mn) ?_
 refine rS (SX (Bm rfl rfl nJ (by exact mg 5 rfl)) rfl rfl)<|rP 1 [] mn ?_
 refine RK hK8<|av ?_
 have hinit:(0≤m.length)∧(iB ([]:pB) (fun u=>1≤u∧u≤((0:Nat):Int))):=by exact ⟨Nat.zero_le _,GU fun k=>by omega⟩
 refine cp (ι:={z:Nat×pB // (z.1≤m.length)∧(iB z.2 (fun u=>1≤u∧u≤((z.1:Nat):Int)))}) (fun z=>[(2,(vP b2)),(3,(vP b3)),(5,(vP b6)),(20,(vI ((m.length:Nat):Int))),(21,(vI ((z.1.1:Nat):Int)))]) (fun z=>[(br b6 121 [(Value.map (some b5))]),(gQ iV b5 (bw vB z.1.2)),(br b3 3 [(vI i)]),(br b2 77 [(vP gw)]),(br gw 100 (eC.cells (eC.mk (kx r kA kC cA cC bA bC slA slC drA drC heA heC) (bB.mk tA tN tC) (Value.map (some gs))))).ro,(gQ iV gs (bw dF m)).ro]) (fun z=>m.length-z.1.1) ⟨(0,([]:pB)),hinit⟩ (aL rfl) (aG [0,1,2,3,4,5]) ?_
 clear hinit
 rintro ⟨⟨n,nv⟩,⟨hl3_0,hl3_1⟩⟩ J9 hJ9
 try dsimp only at hl3_0 hl3_1
 try dsimp only
 refine WS fun _ hK10=>rP 1 [] mn ?_
 refine RK hK10<|ai fun _ hK11=>?_
 refine cP rfl (aP fun h12=>?_) (aQ fun h12=>?_)
 ·refine WK hK11 ?_
  refine ai fun _ hK13=>av<|WS fun _ hK14=>rP 2 [] mn ?_
  refine RK hK14<|ak<|rP 3 [] (mc 0 rfl mn) ?_
  refine jk (kV:=iV) (x:=(((n:Nat):Int)+1)) (C':=[_,(gQ iV b5 (bw vB (eg nv (((n:Nat):Int)+1) true))),_,_,_,_]) 1 rfl rfl rfl rfl th (eK oZ) rfl (gK _ _ _ _).symm rfl<|aB<|ax<|KK hK13<|ak<|rP 2 [] mn ?_
  refine aB ?_
  have hb15:(vI (((n+1):Nat):Int))=(vI (((n:Nat):Int)+1)):=by exact cI om
  refine aN (hJ9 ⟨((n+1),(eg nv (((n:Nat):Int)+1) true)),⟨om,(Gd hl3_1 om).wh fun k=>by omega⟩⟩ _ _ _ rfl os (cv 4<|aY rfl hb15<|dK.nil _) (aG [0,1,2,3,4,5]))
 refine bp<|ae<|ae<|au<|KK hK7<|WS fun _ hK16=>rP 1 [] (mc 0 rfl mn) ?_
 refine cX (Gf nv b5) (bh [1]) rfl fun gc19 hy18=>?_
 try dsimp only
 refine rP 1 [] mn ?_
 refine RK hK16<|ai fun _ hK20=>WS fun _ hK21=>rP 2 [0,1] (mc 4 rfl (mc 3 rfl mn)) ?_
 refine cX (F8 gw i) (aT) rfl fun y22 hy23=>?_
 obtain ⟨x124,x225⟩:=y22
 try dsimp only
 refine RK hK21<|av<|ky 7 rfl (by exact fun _ h=>h)<|ky 9 rfl (by exact fun _ h=>h) ?_
 refine nA (L0:=[(2,(vP b2)),(3,(vP b3)),(5,(vP b6)),(7,(Value.map (some gc19)))]) (F:=[(br gw 100 (eC.cells (eC.mk (kx r kA kC cA cC bA bC slA slC drA drC heA heC) (bB.mk tA tN tC) (Value.map (some gs))))).ro,(gQ iV gs (bw dF m)).ro,(br x124 77 [(vP gw)]),(br x225 3 [(vI i)])]) (fun k (y:pB)=>(iB y (sZ m i k))) (fun k y=>[(gQ iV gc19 (bw vB nv)),(br b6 121 [(Value.map (some b5))]),(gQ iV b5 (bw vB y)),(br b3 3 [(vI i)]),(br b2 77 [(vP gw)]),(br gw 100 (eC.cells (eC.mk (kx r kA kC cA cC bA bC slA slC drA drC heA heC) (bB.mk tA tN tC) (Value.map (some gs))))).ro,(gQ iV gs (bw dF m)).ro]) (fun _ (_:Unit)=>False) (fun _ _=>[]) [4,5,6,7,8,9,10] [1,0,2,3] nv rfl rfl (Dc r kA kC cA cC bA bC slA slC drA drC heA heC tA tN tC gs gw m i x124 x225 (by exact hb)) rfl rfl rfl (by exact Fj (hl3_1.wh fun k=>by omega)) (by simp only [List.forall_mem_cons,List.not_mem_nil,false_imp_iff,implies_true,and_true]; exact ⟨⟨_,sm,(eD (bO _))⟩,⟨_,sm,(eD (bO _))⟩,⟨_,sm,(bO _)⟩,⟨_,sm,(bO _)⟩⟩) (by rintro k x k2 ⟨n,_,rfl,_⟩; rfl) rfl (aL rfl) ?_ ?_ (fun _ _ _ h=>h.elim) (fun _ _ h=>h.elim)
 rotate_left 1
 ·rintro r50 k nw hfin hin51
  have hr0:=hin51
  try dsimp only
  refine ax<|KK hK20<|ai fun _ hK52=>WS fun _ hK53=>rP 1 [] (mc 6 rfl mn) ?_
  refine sX 7 rfl rfl th rfl rfl fun r54=>?_
  try dsimp only
  refine RK hK53<|av ?_
  have hinit:(∀ p∈nw,p∈nw)∧(iB nv (fun u=>(1≤u∧u≤(m.length:Int))∧ ¬ (sZ m i k u∧u ∉ nw.map (·.1)))):=by exact ⟨fun p hp=>hp,hl3_1.wh fun u=>⟨fun q=>⟨om,fun z=>z.2 ((hr0.2 u).2 z.1)⟩,fun q=>by omega⟩⟩
  refine cp (ι:={z:pB×pB // (∀ p∈z.1,p∈nw)∧(iB z.2 (fun u=>(1≤u∧u≤(m.length:Int))∧ ¬ (sZ m i k u∧u ∉ z.1.map (·.1))))}) (fun z=>[(7,(Value.map (some gc19))),(68,(vP r54))]) (fun z=>[(kb r50 (.deferred (some []))),(br gw 100 (eC.cells (eC.mk (kx r kA kC cA cC bA bC slA slC drA drC heA heC) (bB.mk tA tN tC) (Value.map (some gs))))).ro,(gQ iV gs (bw dF m)).ro,(gQ iV gc19 (bw vB z.1.2)),(wJ iV r54 b5 (bw vB nw) (bw vB z.1.1) none),(br gw 100 (eC.cells (eC.mk (kx r kA kC cA cC bA bC slA slC drA drC heA heC) (bB.mk tA tN tC) (Value.map (some gs))))).ro,(gQ iV gs (bw dF m)).ro]) (fun z=>z.1.1.length) ⟨(nw,nv),hinit⟩ (aL rfl) (aG [0,1,2,5,7,10,11]) ?_
  clear hinit
  rintro ⟨⟨left,rk⟩,⟨hl24_0,hl24_1⟩⟩ J55 hJ55
  try dsimp only at hl24_0 hl24_1
  try dsimp only
  refine WS fun _ hK56=>?_
  refine qC (eK oZ).inj (f:=Value.bool) 4 rfl rfl rfl rfl (fun h69=>?_) (fun u v hmm hnn=>?_)
  rotate_left 1
  ·try dsimp only
   refine rP 1 [] mn ?_
   refine RK hK56<|ai fun _ hK66=>aI rfl<|WK hK66<|av<|WS fun _ hK67=>rS (SX (qp 4 rfl rfl rfl) rfl rfl)<|rP 2 [] mn ?_
   refine RK hK67<|ak<|rP 2 [] mn ?_
   refine oJ (kV:=iV) (x:=u) (C':=[_,_,_,(gQ iV gc19 (bw vB (cj rk u))),_,_,_]) 3 rfl rfl rfl rfl th (eK oZ) rfl (kS _ _ _).symm rfl<|aB<|ax<|gT 4 rfl vZ rfl ?_
   refine aN (hJ55 ⟨((cj left u),(cj rk u)),⟨fZ hl24_0,Hu hl24_0 hr0 hmm hl24_1⟩⟩ _ _ _ rfl (eI hmm) (aL rfl) (aG [0,1,2,3,4,5,6]))
  refine rP 1 [] mn ?_
  refine RK hK56<|ai fun _ hK57=>aW rfl<|bp<|ae<|ae<|au<|KK hK52<|WS fun _ hK58=>?_
  have hrk:iB rk (fun u=>(1≤u∧u≤(m.length:Int))∧ ¬ sZ m i k u):=hl24_1.wh fun u=>⟨fun q=>⟨q.1,fun z=>q.2 ⟨z,by rw [h69]; simp⟩⟩,fun q=>⟨q.1,fun z=>q.2 z.1⟩⟩
  have hkey:iq (rk.map (·.1))=(iI m i (aC m i)):=AS hi hfin hrk
  have hrl:rk.length≤m.length:=En hrk fun k q=>q.1
  have hnl:rk.length=(iI m i (aC m i)).length:=by rw [← hkey]; simp
  refine rP 1 [] mn ?_
  refine cX (Ia gc19) (aT) rfl fun b61 hy60=>?_
  try dsimp only
  refine cX (D4 rk gc19 b61 sd) (bh [4,0]) rfl fun y62 hy63=>?_
  obtain ⟨a64,c65⟩:=y62
  try dsimp only
  rw [hkey]
  refine rP 1 [] mn ?_
  refine RK hK58<|an ?_
  refine hQ _ _ _ (oh 2 rfl rfl<|aZ (vs:=[(vS a64 rk.length c65)]) ⟨rfl,trivial⟩ fun w hs=>ej (a64,c65) [0] ?_ ?_ rfl rfl rfl hs)
  ·(rw [← hnl]; rfl)
  ·trivial
 rintro k x k2 nw l ra rb S w1 K26 Qr27 hsz hx hin28 hK26 hQr27 xQr27 yQr27
 obtain ⟨n,hnp,rfl,rfl⟩:=hx
 have hr0:=hin28
 try dsimp only
 refine ak<|rP 1 [] mn ?_
 refine aB ?_
 refine aN (hK26 _ _ ?_)
 refine av<|WS fun _ hK29=>rP 2 [] mn ?_
 refine RK hK29<|ai fun _ hK30=>WS fun _ hK31=>rP 1 [] (mc 5 rfl mn) ?_
 refine rS (SX (cf rfl rfl) rfl rfl)<|rP 2 [] (mr 6 rfl mn) ?_
 refine kd (kV:=iV) (m:=bw dF m) 7 rfl rfl nJ rfl ⟨rfl,fun h=>h⟩ (by exact mg 7 rfl) rfl fun r32=>?_
 try dsimp only
 refine RK hK31<|av ?_
 have hinit:((1:Int)+(ig m i n:Int)=1+(ig m i n:Int))∧((1:Int)+(j1 m i n:Int)=1+(j1 m i n:Int))∧(∀ p∈m,p∈m)∧(1≤(1:Int)∧1≤(1:Int)):=by exact ⟨rfl,rfl,fun p hp=>hp,om⟩
 refine cp (ι:={z:kJ×Int×Int // (z.2.1+(ig z.1 i n:Int)=1+(ig m i n:Int))∧(z.2.2+(j1 z.1 i n:Int)=1+(j1 m i n:Int))∧(∀ p∈z.1,p∈m)∧(1≤z.2.1∧1≤z.2.2)}) (fun z=>[(2,(vP b2)),(3,(vP b3)),(5,(vP b6)),(7,(Value.map (some gc19))),(8,(vI n)),(9,(vI z.1.2.1)),(10,(vI z.1.2.2)),(38,(vP r32))]) (fun z=>[(wo iV r32 gs (bw dF m) (bw dF z.1.1) none),(kb l (.loop rb)),(gQ iV gc19 (bw vB nv)),(br b6 121 [(Value.map (some b5))]),(gQ iV b5 (bw vB nw)),(br b3 3 [(vI i)]),(br b2 77 [(vP gw)]),(br gw 100 (eC.cells (eC.mk (kx r kA kC cA cC bA bC slA slC drA drC heA heC) (bB.mk tA tN tC) (Value.map (some gs))))).ro,(gQ iV gs (bw dF m)).ro]) (fun z=>z.1.1.length) ⟨(m,(1:Int),(1:Int)),hinit⟩ (aL rfl) (aG [0,1,2,3,4,5,6,7,8]) ?_
 clear hinit
 rintro ⟨⟨left,s,t⟩,⟨hl12_0,hl12_1,hl12_2,hl12_3⟩⟩ J33 hJ33
 try dsimp only at hl12_0 hl12_1 hl12_2 hl12_3
 try dsimp only
 have hs1:=xW (m:=m) (i:=i) (n:=n)
 have hs2:=Ap (m:=m) (i:=i) (n:=n)
 refine WS fun _ hK34=>?_
 refine jE (eK oZ).inj (f:=dF) 0 rfl rfl rfl rfl (fun h39=>?_) (fun x y hm hn=>?_)
 ·refine rP 1 [] mn ?_
  refine RK hK34<|ai fun _ hK35=>aW rfl<|bp<|ae<|ae<|au<|KK hK30<|WS fun _ hK36=>rP 2 [] mn ?_
  refine RK hK36<|av ?_
  have hinit:(s≤s∧(s≤t+1∨s=s))∧(iB nw (fun u=>sZ m i k u∧ ¬ (s≤u∧u<s))):=by exact ⟨⟨Int.le_refl _,.inr rfl⟩,hr0.wh fun u=>⟨fun q=>⟨q,fun z=>by omega⟩,fun q=>q.1⟩⟩
  refine cp (ι:={z:Int×pB // (s≤z.1∧(z.1≤t+1∨z.1=s))∧(iB z.2 (fun u=>sZ m i k u∧ ¬ (s≤u∧u<z.1)))}) (fun z=>[(2,(vP b2)),(3,(vP b3)),(5,(vP b6)),(7,(Value.map (some gc19))),(8,(vI n)),(9,(vI s)),(10,(vI t)),(13,(vI z.1.1))]) (fun z=>[(wo iV r32 gs (bw dF m) (bw dF left) none),(kb l (.loop rb)),(gQ iV gc19 (bw vB nv)),(br b6 121 [(Value.map (some b5))]),(gQ iV b5 (bw vB z.1.2)),(br b3 3 [(vI i)]),(br b2 77 [(vP gw)]),(br gw 100 (eC.cells (eC.mk (kx r kA kC cA cC bA bC slA slC drA drC heA heC) (bB.mk tA tN tC) (Value.map (some gs))))).ro,(gQ iV gs (bw dF m)).ro]) (fun z=>(t+1-z.1.1).toNat) ⟨(s,nw),hinit⟩ (aL rfl) (aG [0,1,2,3,4,5,6,7,8]) ?_
  clear hinit
  rintro ⟨⟨q,n2⟩,⟨hl20_0,hl20_1⟩⟩ J37 hJ37
  try dsimp only at hl20_0 hl20_1
  try dsimp only
  have hs1:=xW (m:=m) (i:=i) (n:=n)
  have hs2:=Ap (m:=m) (i:=i) (n:=n)
  have hs3:s=1+(ig m i n:Int):=by rw [h39] at hl12_0; simp only [wO] at hl12_0; omega
  have hs4:t=1+(j1 m i n:Int):=by rw [h39] at hl12_1; simp only [za] at hl12_1; omega
  refine ai fun _ hK38=>WS fun _ hK39=>rP 3 [] mn ?_
  refine RK hK39 ?_
  refine bM rfl (aQ fun h62=>?_) (aP fun h62=>?_)
  ·refine bp ?_
   refine ae<|ae<|au<|ax ?_
   exact hQr27 n2 _ _ (by exact Gb (a:=s) (b:=t) (by rw [h39,wO] at hl12_0; omega) (by rw [h39,za] at hl12_1; omega) (hl20_1.wh fun u=>⟨fun z=>⟨z.1,fun w=>z.2 om⟩,fun z=>⟨z.1,fun w=>z.2 om⟩⟩)) (aG [1,2,3,4,5,6,7,8])
  refine WK hK38<|ai fun _ hK40=>av<|ak<|rP 2 [] (mc 3 rfl mn) ?_
  refine oJ (kV:=iV) (x:=q) (C':=[_,_,_,_,(gQ iV b5 (bw vB (cj n2 q))),_,_,_,_]) 4 rfl rfl rfl rfl th (eK oZ) rfl (kS _ _ _).symm rfl<|aB<|ax<|KK hK40<|ak<|rP 3 [] mn ?_
  refine aB ?_
  refine aN (hJ37 ⟨((q+1),(cj n2 q)),⟨om,Aj hl20_0.1 hl20_1⟩⟩ _ _ _ rfl dso (aL rfl) (aG [0,1,2,3,4,5,6,7,8]))
 try dsimp only
 refine rP 1 [] mn ?_
 refine RK hK34<|ai fun _ hK41=>aI rfl<|WK hK41<|av<|WS fun _ hK42=>rS (SX (jL 0 rfl rfl rfl) rfl rfl)<|rP 2 [] mn ?_
 refine AL rfl cV fun b43=>rP 1 [] mn ?_
 refine f_ rfl bY rfl<|RK hK42<|ai fun _ hK44=>WS fun _ hK45=>rP 3 [] (mc 6 rfl mn) ?_
 refine RK hK45 ?_
 refine cP rfl (aP fun h46=>?_) (aQ fun h46=>?_)
 ·refine bp ?_
  refine ae<|au<|gT 1 rfl fx rfl ?_
  refine aN (hJ33 ⟨((cj left x),s,t),(by refine ⟨?_,?_,fZ hl12_2,?_⟩<;>dsimp only <;>first|omega|(rw [← nK hn hm h46]; omega)|(rw [← pa hn hm h46]; omega)|(have:=nW hn hm h46 h50; omega)|(have:=po hn hm h46 h50; omega)|(have:=o_ hn hm h46 h56; omega)|(have:=rM hn hm h46 h56; omega))⟩ _ _ _ rfl (eI hm) (aL rfl) (aG [1,2,3,4,5,6,7,8,9]))
 refine WK hK44<|ai fun _ hK46=>WS fun _ hK47=>rP 4 [] (mc 0 rfl mn) ?_
 refine RK hK47 ?_
 refine bM rfl (aQ fun h50=>?_) (aP fun h50=>?_)
 ·refine WK hK46 ?_
  refine WS fun _ hK49=>rP 4 [] (mc 0 rfl mn) ?_
  refine RK hK49 ?_
  refine bM rfl (aQ fun h56=>?_) (aP fun h56=>?_)
  ·refine bZ ?_
   refine ax<|gT 1 rfl fx rfl ?_
   refine aN (hJ33 ⟨((cj left x),s,t),(by refine ⟨?_,?_,fZ hl12_2,?_⟩<;>dsimp only <;>first|omega|(rw [← nK hn hm h46]; omega)|(rw [← pa hn hm h46]; omega)|(have:=nW hn hm h46 h50; omega)|(have:=po hn hm h46 h50; omega)|(have:=o_ hn hm h46 h56; omega)|(have:=rM hn hm h46 h56; omega))⟩ _ _ _ rfl (eI hm) (aL rfl) (aG [1,2,3,4,5,6,7,8,9]))
  refine ak<|rP 3 [] mn ?_
  refine aB<|ax<|gT 1 rfl fx rfl ?_
  refine aN (hJ33 ⟨((cj left x),s,(t+1)),(by refine ⟨?_,?_,fZ hl12_2,?_⟩<;>dsimp only <;>first|omega|(rw [← nK hn hm h46]; omega)|(rw [← pa hn hm h46]; omega)|(have:=nW hn hm h46 h50; omega)|(have:=po hn hm h46 h50; omega)|(have:=o_ hn hm h46 h56; omega)|(have:=rM hn hm h46 h56; omega))⟩ _ _ _ rfl (eI hm) (aL rfl) (aG [1,2,3,4,5,6,7,8,9]))
 refine ak<|rP 3 [] mn ?_
 refine RK hK46<|WS fun _ hK48=>rP 4 [] (mc 0 rfl mn) ?_
 refine RK hK48 ?_
 refine bM rfl (aQ fun h56=>?_) (aP fun h56=>?_)
 ·refine bZ ?_
  refine ax<|gT 1 rfl fx rfl ?_
  refine aN (hJ33 ⟨((cj left x),(s+1),t),(by refine ⟨?_,?_,fZ hl12_2,?_⟩<;>dsimp only <;>first|omega|(rw [← nK hn hm h46]; omega)|(rw [← pa hn hm h46]; omega)|(have:=nW hn hm h46 h50; omega)|(have:=po hn hm h46 h50; omega)|(have:=o_ hn hm h46 h56; omega)|(have:=rM hn hm h46 h56; omega))⟩ _ _ _ rfl (eI hm) (aL rfl) (aG [1,2,3,4,5,6,7,8,9]))
 refine ak<|rP 3 [] mn ?_
 refine aB<|ax<|gT 1 rfl fx rfl ?_
 refine aN (hJ33 ⟨((cj left x),(s+1),(t+1)),(by refine ⟨?_,?_,fZ hl12_2,?_⟩<;>dsimp only <;>first|omega|(rw [← nK hn hm h46]; omega)|(rw [← pa hn hm h46]; omega)|(have:=nW hn hm h46 h50; omega)|(have:=po hn hm h46 h50; omega)|(have:=o_ hn hm h46 h56; omega)|(have:=rM hn hm h46 h56; omega))⟩ _ _ _ rfl (eI hm) (aL rfl) (aG [1,2,3,4,5,6,7,8,9]))
end
section
open Go.RowKit
theorem HI (i:Int) (r:dg) (kA:OA) (kC:Nat) (az:List RA) (cA:OA) (cC:Nat) (bA:OA) (bC:Nat) (slA:OA) (slC:Nat) (drA:OA) (drC:Nat) (ha:List gZ) (heA:OA) (heC:Nat) (hin:iT r az ha):
 oY Tryz.prog 7 [(vA (eT.cells (kx r kA kC cA cC bA bC slA slC drA drC heA heC))),(vI i)] [(rd g0 3 2 fQ),(rd kA r.aD.aH.length 9 (r.aD.aH.map ah.cells)),(rd cA r.aD.aj.length 2 (List.zipWith al.cells r.aD.aj az)),(du (aU al.fK r.aD.aj az)),(rd bA r.aD.ab.length 4 (r.aD.ab.map bx.cells)),(rd slA r.aF.length 1 (r.aF.map iC)),(rd drA r.cG.length 1 (r.cG.map iC)),(rd heA r.ay.length 1 (List.zipWith eO r.ay ha)),(du (aU gf r.ay ha))] (fun (x:(OA)×Nat)=>(vT [(vS x.1 ((iJ r i).length) x.2),(vI (nt r i))])) (fun (x:(OA)×Nat)=>True) (fun (x:(OA)×Nat)=>[(own x.1 x.2 3 1 ((iJ r i).map iC))]):=by
 have hline:=hin.line
 have hhl:=hin.jZ
 have hhs:=hin.has
 have hsll:=hin.j6
 have hdrl:=hin.draw
 have htal:=eA (r:=r)
 refine ff kr Tryz.func7 rfl rfl fun w0 Q hQ hN=>?_
 try dsimp only
 refine WS fun _ hK1=>fP rfl fun b2=>rP 2 [] mn ?_
 refine RK hK1<|WS fun _ hK3=>rP 2 [] (mc 0 rfl mn) ?_
 refine fc (xs:=[.tmp 11]) (cs:=[(vI i)]) rfl dB lT rfl rfl rfl rfl (by simp [Value.cells]) rfl rfl fun b4=>cX (Dw r kA kC az cA cC bA bC slA slC drA drC ha heA heC i b4 hin) (bh [2,3,4,5,6,7,8,9,10,0]) rfl fun y5 hy6=>?_
 obtain ⟨ok15,ec7,gw8,gs9,tA10,tC11,Ja,lA13,lC14⟩:=y5
 cases ok15
 ·obtain ⟨hec,he⟩:=hy6.2 rfl
  try dsimp only at hec he
  subst hec
  try dsimp only [cond_true,cond_false,List.cons_append,List.nil_append]
  refine rP 7 [] mn ?_
  refine RK hK3<|ai fun _ hK16=>WS fun _ hK17=>rP 2 [] mn ?_
  refine RK hK17 ?_
  refine bM rfl (bj fun h18=>?_) (bk fun h18=>?_)
  ·exact absurd h18 he
  refine WS fun _ hK18=>kY 3 1 ?_
  rw [show (own none 0 3 1 ([]:List (List Value)))=own none 0 3 1 ((iJ r i).map iC) from by rw [jl he]; rfl]
  refine rP 1 [] mn ?_
  refine rP 2 [] mn ?_
  refine RK hK18<|an ?_
  refine hQ _ _ _ (aZ (vs:=[(vS none 0 0),(vI (nt r i))]) ⟨rfl,rfl,trivial⟩ fun w hs=>ej (none,0) [0] ?_ ?_ rfl rfl rfl hs)
  ·first|rfl|(rw [he]; rfl)|(rw [jl he]; rfl)
  ·trivial
 obtain ⟨he,htz⟩:=hy6.1 rfl
 try dsimp only [cond_true,cond_false,List.cons_append,List.nil_append]
 try dsimp only at htz
 obtain ⟨hr0,hin0,hlk0⟩:=DL he
 have hsb0:=u_ hr0
 have hsl0:=vn hr0
 refine rP 7 [] mn ?_
 refine RK hK3<|ai fun _ hK19=>WS fun _ hK20=>rP 1 [] mn ?_
 refine rS (SX (cb (r:= .bool false) rfl rfl rfl qj) rfl rfl)<|RK hK20<|aW rfl<|WK hK19<|WS fun _ hK21=>rP 2 [] mn ?_
 refine cX (H6 r kA kC cA cC bA bC slA slC drA drC heA heC tA10 ((bX r).length) tC11 gs9 gw8 (aJ r) i (by exact hsb0) (by exact hlk0) om) (bh [0,3]) rfl fun y22 hy23=>?_
 obtain ⟨a24,c25⟩:=y22
 try dsimp only
 rw [show (iI (aJ r) i (aC (aJ r) i))=iJ r i from (xh he).symm]
 refine rP 2 [] mn ?_
 refine RK hK21<|an ?_
 refine hQ _ _ _ (aZ (vs:=[(vS a24 ((iJ r i).length) c25),(vI 0)]) ⟨rfl,rfl,trivial⟩ fun w hs=>ej (a24,c25) [0] ?_ ?_ rfl rfl rfl hs)
 ·first|rfl|(rw [he]; rfl)|(rw [jl he]; rfl)
 ·trivial
theorem Fq (a b:Int) (r:dg) (kA:OA) (kC:Nat) (az:List RA) (cA:OA) (cC:Nat) (bA:OA) (bC:Nat) (slA:OA) (slC:Nat) (drA:OA) (drC:Nat) (ha:List gZ) (heA:OA) (heC:Nat) (hin:iT r az ha):
 eu Tryz.prog 9 [(vA (eT.cells (kx r kA kC cA cC bA bC slA slC drA drC heA heC))),(vI a),(vI b)] [(rd g0 3 2 fQ),(rd kA r.aD.aH.length 9 (r.aD.aH.map ah.cells)),(rd cA r.aD.aj.length 2 (List.zipWith al.cells r.aD.aj az)),(du (aU al.fK r.aD.aj az)),(rd bA r.aD.ab.length 4 (r.aD.ab.map bx.cells)),(rd slA r.aF.length 1 (r.aF.map iC)),(rd drA r.cG.length 1 (r.cG.map iC)),(rd heA r.ay.length 1 (List.zipWith eO r.ay ha)),(du (aU gf r.ay ha))] (vT [(Value.int .u8 (vl r a b)),(vI (ku r a b))]):=by
 have hline:=hin.line
 have hhl:=hin.jZ
 have hhs:=hin.has
 have hsll:=hin.j6
 have hdrl:=hin.draw
 have htal:=eA (r:=r)
 refine bu kr Tryz.func9 rfl rfl fun w0 Q hQ hN=>?_
 try dsimp only
 refine WS fun _ hK1=>fP rfl fun b2=>rP 2 [] mn ?_
 refine RK hK1<|WS fun _ hK3=>rP 3 [] (mc 0 rfl mn) ?_
 refine fc (xs:=[.tmp 13,.tmp 14]) (cs:=[(vI a),(vI b)]) rfl dB lT rfl rfl rfl rfl (by simp [Value.cells]) rfl rfl fun b4=>cX (wS r kA kC az cA cC bA bC slA slC drA drC ha heA heC a b b4 hin) (bh [2,3,4,5,6,7,8,9,10,0]) rfl fun y5 hy6=>?_
 obtain ⟨ok15,ec7,gw8,gs9,tA10,tC11,Ja,lA13,lC14⟩:=y5
 cases ok15
 ·obtain ⟨hec,he⟩:=hy6.2 rfl
  try dsimp only at hec he
  subst hec
  try dsimp only [cond_true,cond_false,List.cons_append,List.nil_append]
  refine rP 7 [] mn ?_
  refine RK hK3<|ai fun _ hK16=>WS fun _ hK17=>rP 2 [] mn ?_
  refine RK hK17 ?_
  refine bM rfl (bj fun h21=>?_) (bk fun h21=>?_)
  ·exact absurd h21 he
  refine WS fun _ hK18=>rP 3 [] mn ?_
  refine RK hK18<|an<|Q2 hQ rfl rfl rfl rfl ?_
  first|(rw [show vl r a b=0 from if_neg he]; done)|(rw [he,show vl r a b=xQ _ _ from if_pos he,← Co])
 obtain ⟨he,htz⟩:=hy6.1 rfl
 try dsimp only [cond_true,cond_false,List.cons_append,List.nil_append]
 try dsimp only at htz
 obtain ⟨hr0,hin0,hlk1,hlk2⟩:=xo he
 have hsb0:=u_ hr0
 have hba:=lI (i:=a) hsb0
 have hbb:=lI (i:=b) hsb0
 refine rP 7 [] mn ?_
 refine RK hK3<|ai fun _ hK19=>WS fun _ hK20=>rP 1 [] mn ?_
 refine rS (SX (cb (r:= .bool false) rfl rfl rfl qj) rfl rfl)<|RK hK20<|aW rfl<|WK hK19<|ai fun _ hK21=>dC cD 21 kr<|dP 1 [] mn ?_
 refine dS (IA 0 rfl (aK (n:=2) 4 rfl sq) jF dc rfl om)<|dS (mT ((0*2)+1) rfl (aK (n:=([(aC (aJ r) a),(aC (aJ r) b)]).length) 4 rfl sm) (Nat.succ_pos _) gp rfl)<|dS (gU 0 1 (vI ((aC (aJ r) a).Hi)) rfl bJ (aK (n:=([(aC (aJ r) a),(aC (aJ r) b)]).length) 4 rfl sm) (show ([(aC (aJ r) a),(aC (aJ r) b)].map aa.cells)[0]? =some [(vI ((aC (aJ r) a).Lo)),(vI ((aC (aJ r) a).Hi))] from rfl) rfl dc rfl)<|dP 1 [] mn ?_
 refine dS (IA 1 rfl (aK (n:=2) 4 rfl sq) jF dc rfl om)<|dS (mT (1*2) rfl (aK (n:=([(aC (aJ r) a),(aC (aJ r) b)]).length) 4 rfl sm) (Nat.succ_pos _) gp rfl)<|dS (gU 1 0 (vI ((aC (aJ r) b).Lo)) rfl bJ (aK (n:=([(aC (aJ r) a),(aC (aJ r) b)]).length) 4 rfl sm) (show ([(aC (aJ r) a),(aC (aJ r) b)].map aa.cells)[1]? =some [(vI ((aC (aJ r) b).Lo)),(vI ((aC (aJ r) b).Hi))] from rfl) rfl dc rfl)<|dP 2 [] mn ?_
 refine dS (IA 0 rfl (aK (n:=2) 4 rfl sq) jF dc rfl om)<|dS (mT (0*2) rfl (aK (n:=([(aC (aJ r) a),(aC (aJ r) b)]).length) 4 rfl sm) (Nat.succ_pos _) gp rfl)<|dS (gU 0 0 (vI ((aC (aJ r) a).Lo)) rfl bJ (aK (n:=([(aC (aJ r) a),(aC (aJ r) b)]).length) 4 rfl sm) (show ([(aC (aJ r) a),(aC (aJ r) b)].map aa.cells)[0]? =some [(vI ((aC (aJ r) a).Lo)),(vI ((aC (aJ r) a).Hi))] from rfl) rfl dc rfl)<|dP 1 [] mn ?_
 refine dS (IA 1 rfl (aK (n:=2) 4 rfl sq) jF dc rfl om)<|dS (mT ((1*2)+1) rfl (aK (n:=([(aC (aJ r) a),(aC (aJ r) b)]).length) 4 rfl sm) (Nat.succ_pos _) gp rfl)<|dS (gU 1 1 (vI ((aC (aJ r) b).Hi)) rfl bJ (aK (n:=([(aC (aJ r) a),(aC (aJ r) b)]).length) 4 rfl sm) (show ([(aC (aJ r) a),(aC (aJ r) b)].map aa.cells)[1]? =some [(vI ((aC (aJ r) b).Lo)),(vI ((aC (aJ r) b).Hi))] from rfl) rfl dc rfl)<|dP 1 [] mn ?_
 refine dS (CL (uW (decide (((aC (aJ r) a).Hi)<((aC (aJ r) b).Lo))) (decide (((aC (aJ r) a).Lo)<((aC (aJ r) b).Hi)))) (aT) rfl)<|dP 2 [] mn ?_
 refine cO<|RK hK21<|an<|Q2 hQ rfl rfl rfl rfl ?_
 first|(rw [show vl r a b=0 from if_neg he]; done)|(rw [he,show vl r a b=xQ _ _ from if_pos he,← Co])
theorem JT (a b:Int) (r:dg) (kA:OA) (kC:Nat) (az:List RA) (cA:OA) (cC:Nat) (bA:OA) (bC:Nat) (slA:OA) (slC:Nat) (drA:OA) (drC:Nat) (ha:List gZ) (heA:OA) (heC:Nat) (hin:iT r az ha):
 eu Tryz.prog 11 [(vA (eT.cells (kx r kA kC cA cC bA bC slA slC drA drC heA heC))),(vI a),(vI b)] [(rd g0 3 2 fQ),(rd kA r.aD.aH.length 9 (r.aD.aH.map ah.cells)),(rd cA r.aD.aj.length 2 (List.zipWith al.cells r.aD.aj az)),(du (aU al.fK r.aD.aj az)),(rd bA r.aD.ab.length 4 (r.aD.ab.map bx.cells)),(rd slA r.aF.length 1 (r.aF.map iC)),(rd drA r.cG.length 1 (r.cG.map iC)),(rd heA r.ay.length 1 (List.zipWith eO r.ay ha)),(du (aU gf r.ay ha))] (vT [(Value.int .u8 (kp r a b)),(vI (ku r a b))]):=by
 have hline:=hin.line
 have hhl:=hin.jZ
 have hhs:=hin.has
 have hsll:=hin.j6
 have hdrl:=hin.draw
 have htal:=eA (r:=r)
 refine bu kr Tryz.func11 rfl rfl fun w0 Q hQ hN=>?_
 try dsimp only
 refine WS fun _ hK1=>fP rfl fun b2=>rP 2 [] mn ?_
 refine RK hK1<|WS fun _ hK3=>rP 3 [] (mc 0 rfl mn) ?_
 refine fc (xs:=[.tmp 14,.tmp 15]) (cs:=[(vI a),(vI b)]) rfl dB lT rfl rfl rfl rfl (by simp [Value.cells]) rfl rfl fun b4=>cX (wS r kA kC az cA cC bA bC slA slC drA drC ha heA heC a b b4 hin) (bh [2,3,4,5,6,7,8,9,10,0]) rfl fun y5 hy6=>?_
 obtain ⟨ok15,ec7,gw8,gs9,tA10,tC11,Ja,lA13,lC14⟩:=y5
 cases ok15
 ·obtain ⟨hec,he⟩:=hy6.2 rfl
  try dsimp only at hec he
  subst hec
  try dsimp only [cond_true,cond_false,List.cons_append,List.nil_append]
  refine rP 7 [] mn ?_
  refine RK hK3<|ai fun _ hK16=>WS fun _ hK17=>rP 2 [] mn ?_
  refine RK hK17 ?_
  refine bM rfl (bj fun h22=>?_) (bk fun h22=>?_)
  ·exact absurd h22 he
  refine WS fun _ hK18=>rP 3 [] mn ?_
  refine RK hK18<|an<|Q2 hQ rfl rfl rfl rfl ?_
  first|(rw [show kp r a b=0 from if_neg he]; done)|(rw [he,show kp r a b=ko _ _ from if_pos he,← vh h50]; done)|(rw [he,show kp r a b=ko _ _ from if_pos he,← yd hba.2.1 hbb.2.1 h50]; done)
 obtain ⟨he,htz⟩:=hy6.1 rfl
 try dsimp only [cond_true,cond_false,List.cons_append,List.nil_append]
 try dsimp only at htz
 obtain ⟨hr0,hin0,hlk1,hlk2⟩:=xo he
 have hsb0:=u_ hr0
 have hba:=lI (i:=a) hsb0
 have hbb:=lI (i:=b) hsb0
 refine rP 7 [] mn ?_
 refine RK hK3<|ai fun _ hK19=>WS fun _ hK20=>rP 1 [] mn ?_
 refine rS (SX (cb (r:= .bool false) rfl rfl rfl qj) rfl rfl)<|RK hK20<|aW rfl<|WK hK19<|ai fun _ hK21=>ep cD [19,20] [] [] [0,1,2,3,4,5,6,7,8,9,10,11,12,13,14,15] [] rfl rfl rfl rfl rfl<|eS rfl (MV rfl)<|eS rfl (IA 0 rfl (aK (n:=2) 4 rfl sq) jF dc rfl om)<|eS rfl (mT (0*2) rfl (aK (n:=([(aC (aJ r) a),(aC (aJ r) b)]).length) 4 rfl sm) (Nat.succ_pos _) gp rfl)<|eS rfl (gU 0 0 (vI ((aC (aJ r) a).Lo)) rfl bJ (aK (n:=([(aC (aJ r) a),(aC (aJ r) b)]).length) 4 rfl sm) (show ([(aC (aJ r) a),(aC (aJ r) b)].map aa.cells)[0]? =some [(vI ((aC (aJ r) a).Lo)),(vI ((aC (aJ r) a).Hi))] from rfl) rfl dc rfl) ?_
 refine eS rfl (MV rfl)<|eS rfl (IA 1 rfl (aK (n:=2) 4 rfl sq) jF dc rfl om)<|eS rfl (mT (1*2) rfl (aK (n:=([(aC (aJ r) a),(aC (aJ r) b)]).length) 4 rfl sm) (Nat.succ_pos _) gp rfl)<|eS rfl (gU 1 0 (vI ((aC (aJ r) b).Lo)) rfl bJ (aK (n:=([(aC (aJ r) a),(aC (aJ r) b)]).length) 4 rfl sm) (show ([(aC (aJ r) a),(aC (aJ r) b)].map aa.cells)[1]? =some [(vI ((aC (aJ r) b).Lo)),(vI ((aC (aJ r) b).Hi))] from rfl) rfl dc rfl)<|eS rfl (MX rfl)<|eS rfl (MV rfl)<|eS rfl (IA 0 rfl (aK (n:=2) 4 rfl sq) jF dc rfl om)<|eS rfl (mT ((0*2)+1) rfl (aK (n:=([(aC (aJ r) a),(aC (aJ r) b)]).length) 4 rfl sm) (Nat.succ_pos _) gp rfl)<|eS rfl (gU 0 1 (vI ((aC (aJ r) a).Hi)) rfl bJ (aK (n:=([(aC (aJ r) a),(aC (aJ r) b)]).length) 4 rfl sm) (show ([(aC (aJ r) a),(aC (aJ r) b)].map aa.cells)[0]? =some [(vI ((aC (aJ r) a).Lo)),(vI ((aC (aJ r) a).Hi))] from rfl) rfl dc rfl)<|eS rfl (MV rfl) ?_
 refine eS rfl (IA 1 rfl (aK (n:=2) 4 rfl sq) jF dc rfl om)<|eS rfl (mT ((1*2)+1) rfl (aK (n:=([(aC (aJ r) a),(aC (aJ r) b)]).length) 4 rfl sm) (Nat.succ_pos _) gp rfl)<|eS rfl (gU 1 1 (vI ((aC (aJ r) b).Hi)) rfl bJ (aK (n:=([(aC (aJ r) a),(aC (aJ r) b)]).length) 4 rfl sm) (show ([(aC (aJ r) a),(aC (aJ r) b)].map aa.cells)[1]? =some [(vI ((aC (aJ r) b).Lo)),(vI ((aC (aJ r) b).Hi))] from rfl) rfl dc rfl)<|eS rfl (MN rfl)<|eS rfl (SX (bg (xs:=[(0,.tmp 32),(1,.tmp 41)]) (cs:=(aa.cells (aa.mk (max ((aC (aJ r) a).Lo) ((aC (aJ r) b).Lo)) (min ((aC (aJ r) a).Hi) ((aC (aJ r) b).Hi))))) rfl rfl (bf fg rfl)) rfl rfl)<|fp rfl<|cr rfl fun T22 hT22=>AL rfl cV fun b23=>?_
 refine aB (hT22 _ _ (aG [1,2,3,4,5,6,7,8,9,10,11,12,13,14,15,16]) ?_)
 refine cr rfl fun T24 hT24=>f_ rfl bY rfl ?_
 refine aB (hT24 _ _ (aG [1,2,3,4,5,6,7,8,9,10,11,12,13,14,15,16]) ?_)
 refine gh rfl<|KK hK21<|ai fun _ hK25=>dC cD 22 kr<|dP 1 [] mn ?_
 refine dS (IA 0 rfl (aK (n:=2) 5 rfl sq) jF dc rfl om)<|dS (n9 0 0 (aa.cells (aC (aJ r) a)) rfl bJ (aK (n:=([(aC (aJ r) a),(aC (aJ r) b)]).length) 5 rfl sm) (show ([(aC (aJ r) a),(aC (aJ r) b)].map aa.cells)[0]? =some [(vI ((aC (aJ r) a).Lo)),(vI ((aC (aJ r) a).Hi))] from rfl) rfl dc rfl rfl)<|dP 1 [] mn ?_
 refine dS (IA 1 rfl (aK (n:=2) 5 rfl sq) jF dc rfl om)<|dS (n9 1 0 (aa.cells (aC (aJ r) b)) rfl bJ (aK (n:=([(aC (aJ r) a),(aC (aJ r) b)]).length) 5 rfl sm) (show ([(aC (aJ r) a),(aC (aJ r) b)].map aa.cells)[1]? =some [(vI ((aC (aJ r) b).Lo)),(vI ((aC (aJ r) b).Hi))] from rfl) rfl dc rfl rfl)<|dS (BI rfl (tL _ _ (aC (aJ r) a) (aC (aJ r) b)))<|dP 1 [] mn ?_
 refine jT (t:=50) rfl (aQ fun h50=>?_) (aP fun h50=>?_)
 ·refine dP 11 [] (mc 0 rfl mn) ?_
  refine dS (CL (uW false (decide ((max ((aC (aJ r) a).Lo) ((aC (aJ r) b).Lo))≤(min ((aC (aJ r) a).Hi) ((aC (aJ r) b).Hi))))) (aT) rfl)<|dP 2 [] mn ?_
  refine cO<|RK hK25<|an<|Q2 hQ rfl rfl rfl rfl ?_
  first|(rw [show kp r a b=0 from if_neg he]; done)|(rw [he,show kp r a b=ko _ _ from if_pos he,← vh h50]; done)|(rw [he,show kp r a b=ko _ _ from if_pos he,← yd hba.2.1 hbb.2.1 h50]; done)
 refine dP 11 [] (mc 0 rfl mn) ?_
 refine dS (CL (uW (decide ((max ((aC (aJ r) a).Lo) ((aC (aJ r) b).Lo))=(min ((aC (aJ r) a).Hi) ((aC (aJ r) b).Hi)))) (decide ((max ((aC (aJ r) a).Lo) ((aC (aJ r) b).Lo))≤(min ((aC (aJ r) a).Hi) ((aC (aJ r) b).Hi))))) (aT) rfl)<|dP 2 [] mn ?_
 refine cO<|RK hK25<|an<|Q2 hQ rfl rfl rfl rfl ?_
 first|(rw [show kp r a b=0 from if_neg he]; done)|(rw [he,show kp r a b=ko _ _ from if_pos he,← vh h50]; done)|(rw [he,show kp r a b=ko _ _ from if_pos he,← yd hba.2.1 hbb.2.1 h50]; done)
end
section
open Go.RowKit
theorem j2 (n lo hi:Int):
 eu Tryz.prog 45 [(vI n),(vI lo),(vI hi)] [] (vB (decide (lo≤n∧n≤hi))):=by
 refine bu kr Tryz.func45 rfl rfl fun w0 Q hQ hN=>?_
 try dsimp only
 refine WS fun _ hK1=>rP 1 [] mn ?_
 refine RK hK1<|WS fun _ hK2=>rP 4 [] mn ?_
 refine c8 (t:=10) rfl (aP fun h3=>?_) (aQ fun h3=>?_)
 ·refine rP 5 [] mn ?_
  refine RK hK2<|an<|Q1 hQ rfl rfl rfl ?_
  exact cB (decide_eq_decide.2 om)
 refine rP 5 [] mn ?_
 refine RK hK2<|an<|Q1 hQ rfl rfl rfl ?_
 exact cB (a7 om).symm
theorem Bx (r:cq) (sgA:OA) (sgC:Nat):
 eu Tryz.prog 123 [(vA (eE.cells (ke r sgA sgC)))] [(rd sgA r.ag.length 2 (r.ag.map aM.cells))] (vB (decide (gO r))):=by
 refine bu kr Tryz.func123 rfl rfl fun w0 Q hQ hN=>?_
 try dsimp only
 refine WS fun _ hK1=>fP rfl fun b2=>rP 1 [] mn ?_
 refine RK hK1<|WS fun _ hK3=>rP 4 [] (mc 0 rfl mn) ?_
 refine dp (t:=6) rfl (aQ fun h4=>?_) (aP fun h4=>?_)
 ·refine rP 11 [] mn ?_
  refine RK hK3<|an<|Q1 hQ rfl rfl rfl ?_
  simp only [gO]
  first|rfl|exact cB (a7 om).symm|exact cB (bW om).symm|exact cB (decide_eq_decide.2 om)
 refine rP 5 [] (mc 0 rfl mn) ?_
 refine dp (t:=11) rfl (aQ fun h5=>?_) (aP fun h5=>?_)
 ·refine rP 6 [] mn ?_
  refine RK hK3<|an<|Q1 hQ rfl rfl rfl ?_
  simp only [gO]
  first|rfl|exact cB (a7 om).symm|exact cB (bW om).symm|exact cB (decide_eq_decide.2 om)
 refine rP 6 [] (mc 0 rfl mn) ?_
 refine RK hK3<|an<|Q1 hQ rfl rfl rfl ?_
 simp only [gO]
 first|rfl|exact cB (a7 om).symm|exact cB (bW om).symm|exact cB (decide_eq_decide.2 om)
theorem H7 (s:aa):
 eu Tryz.prog 84 [(vA (aa.cells s))] [] (vB (decide (jY s))):=by
 refine bu kr Tryz.func84 rfl rfl fun w0 Q hQ hN=>?_
 try dsimp only
 refine WS fun _ hK1=>fP rfl fun b2=>rP 1 [] mn ?_
 refine RK hK1<|WS fun _ hK3=>rP 4 [] (mc 0 rfl mn) ?_
 refine dp (t:=6) rfl (aQ fun h4=>?_) (aP fun h4=>?_)
 ·refine rP 12 [] mn ?_
  refine RK hK3<|an<|Q1 hQ rfl rfl rfl ?_
  simp only [jY]
  first|rfl|exact cB (a7 om).symm|exact cB (bW om).symm|exact cB (decide_eq_decide.2 om)
 refine rP 7 [] (mc 0 rfl mn) ?_
 refine dp (t:=13) rfl (aQ fun h5=>?_) (aP fun h5=>?_)
 ·refine rP 5 [] mn ?_
  refine RK hK3<|an<|Q1 hQ rfl rfl rfl ?_
  simp only [jY]
  first|rfl|exact cB (a7 om).symm|exact cB (bW om).symm|exact cB (decide_eq_decide.2 om)
 refine rP 5 [] (mc 0 rfl mn) ?_
 refine RK hK3<|an<|Q1 hQ rfl rfl rfl ?_
 simp only [jY]
 first|rfl|exact cB (a7 om).symm|exact cB (bW om).symm|exact cB (decide_eq_decide.2 om)
theorem yD (la:List Int) (laA:OA) (laC:Nat) (lb:List Int) (lbA:OA) (lbC:Nat) (h1:la.length≤1000000) (h2:lb.length≤1000000):
 eu Tryz.prog 13 [(vS laA la.length laC),(vS lbA lb.length lbC)] [(rd laA la.length 1 (la.map iC)),(rd lbA lb.length 1 (lb.map iC))] (vB (decide (la=lb))):=by
 refine bu kr Tryz.func13 rfl rfl fun w0 Q hQ hN=>?_
 try dsimp only
 refine WS fun _ hK1=>rP 1 [] mn ?_
 refine RK hK1<|ai fun _ hK2=>WS fun _ hK3=>rP 5 [] mn ?_
 refine RK hK3 ?_
 refine cP rfl (bk fun hl=>?_) (bj fun hl=>?_)
 ·refine WS fun _ hK4=>?_
  refine rP 1 [] mn ?_
  refine RK hK4<|an<|Q1 hQ rfl rfl rfl ?_
  first|exact cB (a7 (uQ hx hy h)).symm|exact cB (bW (uB om hl0_1 om)).symm|exact cB (a7 (fun e=>by subst e; omega)).symm
 refine WK hK2<|ai fun _ hK5=>WS fun _ hK6=>rP 1 [] mn ?_
 refine RK hK6<|av ?_
 have hinit:(0≤la.length)∧(la.take 0=lb.take 0):=by simp
 refine cp (ι:={z:Nat // (z≤la.length)∧(la.take z=lb.take z)}) (fun z=>[(0,(vS laA la.length laC)),(1,(vS lbA lb.length lbC)),(5,(vI ((z.1:Nat):Int)))]) (fun z=>[(rd laA la.length 1 (la.map iC)).ro,(rd lbA lb.length 1 (lb.map iC)).ro]) (fun z=>la.length-z.1) ⟨0,hinit⟩ (aL rfl) (aG [0,1]) ?_
 clear hinit
 rintro ⟨i,⟨hl0_0,hl0_1⟩⟩ J7 hJ7
 try dsimp only
 refine ai fun _ hK8=>WS fun _ hK9=>rP 4 [] mn ?_
 refine RK hK9 ?_
 refine bM rfl (aQ fun h10=>?_) (aP fun h10=>?_)
 ·refine bp ?_
  refine ae<|ae<|au<|KK hK5<|WS fun _ hK15=>rP 1 [] mn ?_
  refine RK hK15<|an<|Q1 hQ rfl rfl rfl ?_
  first|exact cB (a7 (uQ hx hy h)).symm|exact cB (bW (uB om hl0_1 om)).symm|exact cB (a7 (fun e=>by subst e; omega)).symm
 refine WK hK8<|ai fun _ hK11=>av<|ai fun _ hK12=>dC cD 9 kr<|dP 2 [] mn ?_
 obtain ⟨x,hx⟩:=aO la i om
 have hxm:=bI iC hx
 refine dS (IA i rfl (aA 0 rfl) dB dc om om)<|dS (gU i 0 (vI x) rfl bJ (aA 0 rfl) hxm rfl dc rfl)<|dP 2 [] mn ?_
 obtain ⟨y,hy⟩:=aO lb i om
 have hym:=bI iC hy
 refine dS (IA i rfl (aA 1 rfl) dB dc om om)<|dS (gU i 0 (vI y) rfl bJ (aA 1 rfl) hym rfl dc rfl)<|dP 1 [] mn ?_
 refine cO<|RK hK12 ?_
 refine cP rfl (bk fun h=>?_) (bj fun h=>?_)
 ·refine WS fun _ hK13=>?_
  refine rP 1 [] mn ?_
  refine RK hK13<|an<|Q1 hQ rfl rfl rfl ?_
  first|exact cB (a7 (uQ hx hy h)).symm|exact cB (bW (uB om hl0_1 om)).symm|exact cB (a7 (fun e=>by subst e; omega)).symm
 refine bZ<|ax<|KK hK11<|ak<|rP 3 [] mn ?_
 refine aB ?_
 have hb14:(vI (((i+1):Nat):Int))=(vI (((i:Nat):Int)+1)):=by exact cI om
 refine aN (hJ7 ⟨(i+1),⟨om,DE hl0_1 hx hy h⟩⟩ _ _ _ rfl os (dK.cons rfl<|dK.cons rfl<|aY rfl hb14<|dK.nil _) (aG [0,1]))
end
section
open Go.RowKit
theorem ij (n lo hi:Int):
 eu Tryz.prog 119 [(vI n),(vI lo),(vI hi)] [] (vB (decide (lo≤n∧n≤hi))):=by
 refine bu kr Tryz.func119 rfl rfl fun w0 Q hQ hN=>?_
 try dsimp only
 refine WS fun _ hK1=>rP 1 [] mn ?_
 refine RK hK1<|WS fun _ hK2=>rP 4 [] mn ?_
 refine c8 (t:=10) rfl (aP fun h3=>?_) (aQ fun h3=>?_)
 ·refine rP 5 [] mn ?_
  refine RK hK2<|an<|Q1 hQ rfl rfl rfl ?_
  exact cB (decide_eq_decide.2 om)
 refine rP 5 [] mn ?_
 refine RK hK2<|an<|Q1 hQ rfl rfl rfl ?_
 exact cB (a7 om).symm
theorem yp (ts:List ah) (tsA:OA) (tsC:Nat) (hst: ∀ x∈ts,bo x) (hlen:ts.length≤12):
 oY Tryz.prog 164 [(vA (bL.cells (bL.mk (bB.mk tsA ts.length tsC))))] [(rd tsA ts.length 9 (ts.map ah.cells))] (fun (x:(OA)×Nat)=>(vS x.1 ((gL ts (ts.length+1)).length) x.2)) (fun (x:(OA)×Nat)=>True) (fun (x:(OA)×Nat)=>[(own x.1 x.2 47 2 ((gL ts (ts.length+1)).map aa.cells))]):=by
 refine ff kr Tryz.func164 rfl rfl fun w0 Q hQ hN=>?_
 try dsimp only
 refine WS fun _ hK1=>fP rfl fun b2=>rP 1 [] mn ?_
 refine RK hK1<|WS fun _ hK3=>rP 1 [] mn ?_
 refine RK hK3<|ai fun _ hK4=>WS fun _ hK5=>rP 1 [] mn ?_
 refine RK hK5<|av<|fI 47 2 ?_
 have hinit:(0≤ts.length+1):=by exact Nat.zero_le _
 refine cp (ι:={z:Nat×(OA)×Nat // (z.1≤ts.length+1)}) (fun z=>[(1,(vP b2)),(3,(vS z.1.2.1 ((gL ts z.1.1).length) z.1.2.2)),(4,(vI ((z.1.1:Nat):Int)))]) (fun z=>[(own z.1.2.1 z.1.2.2 47 2 ((gL ts z.1.1).map aa.cells)),(br b2 24 (bL.cells (bL.mk (bB.mk tsA ts.length tsC)))),(rd tsA ts.length 9 (ts.map ah.cells)).ro]) (fun z=>ts.length+1-z.1.1) ⟨(0,none,0),hinit⟩ (aL rfl) (aG [0,1,2]) ?_
 clear hinit
 rintro ⟨⟨i,a,c⟩,hl0_0⟩ J6 hJ6
 try dsimp only at hl0_0
 try dsimp only
 refine ai fun _ hK7=>WS fun _ hK8=>rP 5 [] (mc 1 rfl mn) ?_
 refine RK hK8 ?_
 refine bM rfl (aQ fun h9=>?_) (aP fun h9=>?_)
 ·refine bp ?_
  refine ae<|ae<|au<|KK hK4<|WS fun _ hK18=>?_
  obtain rfl:i=ts.length+1:=by omega
  refine rP 2 [] mn ?_
  refine RK hK18<|an ?_
  refine hQ _ _ _ (aZ (vs:=[(vS a ((gL ts (ts.length+1)).length) c)]) ⟨rfl,trivial⟩ fun w hs=>ej (a,c) [0] ?_ ?_ rfl rfl rfl hs)
  ·rfl
  ·trivial
 refine WK hK7<|ai fun _ hK10=>av<|WS fun _ hK11=>rP 2 [] (mc 1 rfl mn) ?_
 refine rS (CL (xZ ts tsA tsC 0 ((i:Nat):Int) hst hlen om) (bh [2]) rfl)<|rP 3 [] mn ?_
 refine AL rfl cV fun b12=>AL rfl cV fun b13=>oV rfl bY rfl<|f_ rfl bY rfl<|RK hK11<|ak<|rP 2 [] (mc 1 rfl mn) ?_
 refine fc (xs:=[.tmp 21]) (cs:=(aa.cells (cN ts (0:Int).toNat (((i:Nat):Int)-0).toNat))) rfl jF cV rfl rfl rfl rfl (by simp [Value.cells,aa.aX]) rfl rfl fun b14=>er (es2:=(List.map aa.cells (gL ts (i+1)))) (m':=(gL ts (i+1)).length) 3 rfl rfl rfl Ar rfl rfl sm (a_ (es:=List.map aa.cells [(cN ts (0:Int).toNat (((i:Nat):Int)-0).toNat)]) 0 rfl rfl (by simp [aa.aX]) rfl) (gM _) (by simp only [nq]; omega) (by simp only [maxLen,nq]; omega) (by rw [yB]; simp) sm rfl fun a15 c16=>?_
 try dsimp only
 refine rP 1 [] mn ?_
 refine aB<|ax<|KK hK10<|ak<|rP 3 [] mn ?_
 refine aB ?_
 have hb17:(vI (((i+1):Nat):Int))=(vI (((i:Nat):Int)+1)):=by exact cI om
 refine aN (hJ6 ⟨((i+1),a15,c16),(by first|omega|(simp only []; omega))⟩ _ _ _ rfl os (dK.cons rfl<|dK.cons rfl<|aY rfl hb17<|dK.nil _) (aG [3,4,5]))
theorem Mm (ts:List ah) (tsA:OA) (tsC:Nat) (s:cL) (hlen:ts.length≤1000000) (hside: ∀ x∈ts,0≤x.iy∧x.iy≤255):
 eu Tryz.prog 148 [(vA (bL.cells (bL.mk (bB.mk tsA ts.length tsC)))),(vA (cL.cells s))] [(rd tsA ts.length 9 (ts.map ah.cells))] (vT [(vA (aa.cells (z7 ts s))),(vI (v8 ts s))]):=by
 refine bu kr Tryz.func148 rfl rfl fun w0 Q hQ hN=>?_
 try dsimp only
 refine WS fun _ hK1=>fP rfl fun b2=>fP rfl fun b3=>AL rfl cV fun b4=>rP 1 [] mn ?_
 refine RK hK1<|ai fun _ hK5=>WS fun _ hK6=>rP 1 [] (mc 2 rfl mn) ?_
 refine rS (CL (uh ts tsA tsC hlen) (bh [3]) rfl)<|rP 1 [] mn ?_
 refine RK hK6 ?_
 refine cP rfl (fun h9=>?_) (fun h9=>?_)
 ·rw [Bool.not_eq_true'] at h9
  refine WS fun _ hK7=>rS (SX (bg (xs:=[]) (cs:=(aa.cells (aa.mk 0 0))) rfl rfl (bf fg rfl)) rfl rfl)<|f_ rfl bY rfl<|rP 1 [] mn ?_
  refine RK hK7<|an ?_
  refine hQ _ _ _ (aZ (vs:=[(vA (aa.cells (aa.mk 0 0))),(vI 10)]) ⟨⟨_,rfl,.inl ⟨_,_,bJ,bQ (vs:=(aa.cells (aa.mk 0 0))) 0 rfl rfl,rfl,rfl⟩⟩,rfl,trivial⟩ fun w hs=>eM ?_ hs)
  show (vT [(vA (aa.cells (aa.mk 0 0))),(vI 10)])=(vT [(vA (aa.cells (z7 ts s))),(vI (v8 ts s))])
  clear hs w hQ hN hK7 hK6 hK5 hK1
  first|(have e:=oE (s:=s) (by simpa using h9); rw [e.1,e.2]<;>rfl)|(have e:=n_ h9 h14; rw [e.1,e.2]<;>rfl)|(have e:=nT h9 h14; subst hzm; rw [e.1,e.2]<;>rfl)
 rw [Bool.not_eq_false'] at h9
 refine WK hK5<|ai fun _ hK8=>WS fun _ hK9=>?_
 have hst:=jN h9
 have hl12:=kf h9
 refine rP 2 [0,1] (mc 2 rfl (mc 1 rfl mn)) ?_
 refine rS (CL (pN ts tsA tsC s sd sd) (bh [3]) rfl)<|rP 1 [] mn ?_
 refine RK hK9 ?_
 refine cP rfl (bk fun h14=>?_) (bj fun h14=>?_)
 ·refine WS fun _ hK10=>?_
  refine rS (SX (bg (xs:=[]) (cs:=(aa.cells (aa.mk 0 0))) rfl rfl (bf fg rfl)) rfl rfl)<|f_ rfl bY rfl<|rP 1 [] mn ?_
  refine RK hK10<|an ?_
  refine hQ _ _ _ (aZ (vs:=[(vA (aa.cells (aa.mk 0 0))),(vI 12)]) ⟨⟨_,rfl,.inl ⟨_,_,bJ,bQ (vs:=(aa.cells (aa.mk 0 0))) 0 rfl rfl,rfl,rfl⟩⟩,rfl,trivial⟩ fun w hs=>eM ?_ hs)
  show (vT [(vA (aa.cells (aa.mk 0 0))),(vI 12)])=(vT [(vA (aa.cells (z7 ts s))),(vI (v8 ts s))])
  clear hs w hQ hN hK10 hK9 hK8 hK6 hK5 hK1
  first|(have e:=oE (s:=s) (by simpa using h9); rw [e.1,e.2]<;>rfl)|(have e:=n_ h9 h14; rw [e.1,e.2]<;>rfl)|(have e:=nT h9 h14; subst hzm; rw [e.1,e.2]<;>rfl)
 refine WK hK8<|ai fun _ hK11=>pG cD [0,2,3] [1,4,5,6,7] [false,false,false] [] [(br b4 47 (aa.cells (aa.mk 0 0))),(br b3 139 (cL.cells s)),(br b2 24 (bL.cells (bL.mk (bB.mk tsA ts.length tsC)))),(rd tsA ts.length 9 (ts.map ah.cells)).ro] [] kr (aG [0,1,2,3]) (aG []) ?_
 have hsb:=h14.1
 have hof:=pA hst h14
 have hml:(gL ts (ts.length+1)).length=ts.length+1:=nq
 refine eS rfl (LW 2 rfl bJ rfl rfl)<|eS rfl (FA 0 rfl gp rfl)<|eS rfl (L1 (vI s.ar) 1 rfl bJ rfl rfl)<|fp rfl ?_
 refine ox [1,6] kr (jG ?_<|jG ?_<|qP)
 rotate_left 1
 ·refine NO rfl rfl [1,4,5,7] fun T12 hT12=>?_
  refine AL rfl cV fun b13=>RD hT12 1 rfl<|N1 1<|NO rfl rfl [4,5,7] fun T14 hT14=>cX (yp ts tsA tsC sd sd) (bh [4]) rfl fun y15 hy16=>?_
  obtain ⟨a17,c18⟩:=y15
  try dsimp only
  refine RD hT14 2 rfl<|N1 4<|NO rfl rfl [5,7] fun T19 hT19=>?_
  obtain ⟨z,hz⟩:=aO (gL ts (ts.length+1)) ((s.ar).toNat) om
  have hzm:=bI aa.cells hz
  refine rS (IA ((s.ar).toNat) rfl (aK (n:=(gL ts (ts.length+1)).length) 0 rfl sm) jF dc om om)<|RD hT19 2 rfl<|N1 5<|NO rfl rfl [7] fun T20 hT20=>rS (n9 ((s.ar).toNat) 0 (aa.cells z) rfl bJ (aK (n:=(gL ts (ts.length+1)).length) 0 rfl sm) hzm rfl dc rfl rfl)<|RD hT20 2 rfl<|N1 7<|NO rfl rfl [] fun T21 hT21=>oV rfl bY rfl<|RD hT21 2 rfl ?_
  refine oP<|KK hK11<|WS fun _ hK22=>rP 1 [] mn ?_
  have hzm:=oe hz
  have hlb:=lz hst 0 s.ar.toNat
  unfold kN at hof
  rw [← hzm] at hlb
  refine rP 11 [0,1,0,1] (mc 1 rfl (mc 3 rfl mn)) ?_
  refine rS (SX (bg (xs:=[(0,.tmp 27),(1,.tmp 33)]) (cs:=(aa.cells (aa.mk (z.Lo+s.gk.Lo) (z.Hi+s.gk.Hi)))) rfl rfl (bf fg rfl)) rfl rfl)<|wb rfl bY rfl<|rP 1 [] mn ?_
  refine RK hK22<|an ?_
  refine hQ _ _ _ (aZ (vs:=[(vA (aa.cells (aa.mk (z.Lo+s.gk.Lo) (z.Hi+s.gk.Hi)))),(vI 0)]) ⟨⟨_,rfl,.inl ⟨_,_,bJ,bQ (vs:=(aa.cells (aa.mk (z.Lo+s.gk.Lo) (z.Hi+s.gk.Hi)))) 2 rfl rfl,rfl,rfl⟩⟩,rfl,trivial⟩ fun w hs=>eM ?_ hs)
  show (vT [(vA (aa.cells (aa.mk (z.Lo+s.gk.Lo) (z.Hi+s.gk.Hi)))),(vI 0)])=(vT [(vA (aa.cells (z7 ts s))),(vI (v8 ts s))])
  clear hs w hQ hN hK22 hT21 T21 hT20 T20 hT19 T19 hT14 T14 hT12 T12 hK11 hK9 hK8 hK6 hK5 hK1
  first|(have e:=oE (s:=s) (by simpa using h9); rw [e.1,e.2]<;>rfl)|(have e:=n_ h9 h14; rw [e.1,e.2]<;>rfl)|(have e:=nT h9 h14; subst hzm; rw [e.1,e.2]<;>rfl)
 refine NO rfl rfl [4,5,6,7] fun T12 hT12=>cX (yp ts tsA tsC sd sd) (bh [3]) rfl fun y13 hy14=>?_
 obtain ⟨a15,c16⟩:=y13
 try dsimp only
 refine RD hT12 1 rfl ?_
 refine ox [4,6] kr (jG ?_<|jG ?_<|qP)
 rotate_left 1
 ·refine NO rfl rfl [4,5,7] fun T17 hT17=>?_
  refine AL rfl cV fun b18=>RD hT17 2 rfl<|N1 4<|NO rfl rfl [5,7] fun T19 hT19=>?_
  obtain ⟨z,hz⟩:=aO (gL ts (ts.length+1)) ((s.ar).toNat) om
  have hzm:=bI aa.cells hz
  refine rS (IA ((s.ar).toNat) rfl (aK (n:=(gL ts (ts.length+1)).length) 1 rfl sm) jF dc om om)<|RD hT19 2 rfl<|N1 5<|NO rfl rfl [7] fun T20 hT20=>rS (n9 ((s.ar).toNat) 0 (aa.cells z) rfl bJ (aK (n:=(gL ts (ts.length+1)).length) 1 rfl sm) hzm rfl dc rfl rfl)<|RD hT20 2 rfl<|N1 7<|NO rfl rfl [] fun T21 hT21=>f_ rfl bY rfl<|RD hT21 2 rfl ?_
  refine oP<|KK hK11<|WS fun _ hK22=>rP 1 [] mn ?_
  have hzm:=oe hz
  have hlb:=lz hst 0 s.ar.toNat
  unfold kN at hof
  rw [← hzm] at hlb
  refine rP 11 [0,1,0,1] (mc 0 rfl (mc 3 rfl mn)) ?_
  refine rS (SX (bg (xs:=[(0,.tmp 27),(1,.tmp 33)]) (cs:=(aa.cells (aa.mk (z.Lo+s.gk.Lo) (z.Hi+s.gk.Hi)))) rfl rfl (bf fg rfl)) rfl rfl)<|wb rfl bY rfl<|rP 1 [] mn ?_
  refine RK hK22<|an ?_
  refine hQ _ _ _ (aZ (vs:=[(vA (aa.cells (aa.mk (z.Lo+s.gk.Lo) (z.Hi+s.gk.Hi)))),(vI 0)]) ⟨⟨_,rfl,.inl ⟨_,_,bJ,bQ (vs:=(aa.cells (aa.mk (z.Lo+s.gk.Lo) (z.Hi+s.gk.Hi)))) 2 rfl rfl,rfl,rfl⟩⟩,rfl,trivial⟩ fun w hs=>eM ?_ hs)
  show (vT [(vA (aa.cells (aa.mk (z.Lo+s.gk.Lo) (z.Hi+s.gk.Hi)))),(vI 0)])=(vT [(vA (aa.cells (z7 ts s))),(vI (v8 ts s))])
  clear hs w hQ hN hK22 hT21 T21 hT20 T20 hT19 T19 hT17 T17 hT12 T12 hK11 hK9 hK8 hK6 hK5 hK1
  first|(have e:=oE (s:=s) (by simpa using h9); rw [e.1,e.2]<;>rfl)|(have e:=n_ h9 h14; rw [e.1,e.2]<;>rfl)|(have e:=nT h9 h14; subst hzm; rw [e.1,e.2]<;>rfl)
 refine NO rfl rfl [5,6,7] fun T17 hT17=>?_
 obtain ⟨z,hz⟩:=aO (gL ts (ts.length+1)) ((s.ar).toNat) om
 have hzm:=bI aa.cells hz
 refine rS (IA ((s.ar).toNat) rfl (aK (n:=(gL ts (ts.length+1)).length) 0 rfl sm) jF dc om om)<|RD hT17 1 rfl ?_
 refine ox [5,6] kr (jG ?_<|jG ?_<|qP)
 rotate_left 1
 ·refine NO rfl rfl [5,7] fun T18 hT18=>?_
  refine AL rfl cV fun b19=>RD hT18 2 rfl<|N1 5<|NO rfl rfl [7] fun T20 hT20=>rS (n9 ((s.ar).toNat) 0 (aa.cells z) rfl bJ (aK (n:=(gL ts (ts.length+1)).length) 1 rfl sm) hzm rfl dc rfl rfl)<|RD hT20 2 rfl<|N1 7<|NO rfl rfl [] fun T21 hT21=>f_ rfl bY rfl<|RD hT21 2 rfl ?_
  refine oP<|KK hK11<|WS fun _ hK22=>rP 1 [] mn ?_
  have hzm:=oe hz
  have hlb:=lz hst 0 s.ar.toNat
  unfold kN at hof
  rw [← hzm] at hlb
  refine rP 11 [0,1,0,1] (mc 0 rfl (mc 3 rfl mn)) ?_
  refine rS (SX (bg (xs:=[(0,.tmp 27),(1,.tmp 33)]) (cs:=(aa.cells (aa.mk (z.Lo+s.gk.Lo) (z.Hi+s.gk.Hi)))) rfl rfl (bf fg rfl)) rfl rfl)<|wb rfl bY rfl<|rP 1 [] mn ?_
  refine RK hK22<|an ?_
  refine hQ _ _ _ (aZ (vs:=[(vA (aa.cells (aa.mk (z.Lo+s.gk.Lo) (z.Hi+s.gk.Hi)))),(vI 0)]) ⟨⟨_,rfl,.inl ⟨_,_,bJ,bQ (vs:=(aa.cells (aa.mk (z.Lo+s.gk.Lo) (z.Hi+s.gk.Hi)))) 2 rfl rfl,rfl,rfl⟩⟩,rfl,trivial⟩ fun w hs=>eM ?_ hs)
  show (vT [(vA (aa.cells (aa.mk (z.Lo+s.gk.Lo) (z.Hi+s.gk.Hi)))),(vI 0)])=(vT [(vA (aa.cells (z7 ts s))),(vI (v8 ts s))])
  clear hs w hQ hN hK22 hT21 T21 hT20 T20 hT18 T18 hT17 T17 hT12 T12 hK11 hK9 hK8 hK6 hK5 hK1
  first|(have e:=oE (s:=s) (by simpa using h9); rw [e.1,e.2]<;>rfl)|(have e:=n_ h9 h14; rw [e.1,e.2]<;>rfl)|(have e:=nT h9 h14; subst hzm; rw [e.1,e.2]<;>rfl)
 refine NO rfl rfl [6,7] fun T18 hT18=>rS (n9 ((s.ar).toNat) 0 (aa.cells z) rfl bJ (aK (n:=(gL ts (ts.length+1)).length) 0 rfl sm) hzm rfl dc rfl rfl)<|RD hT18 1 rfl<|N1 6<|NO rfl rfl [7] fun T19 hT19=>AL rfl cV fun b20=>RD hT19 2 rfl<|N1 7<|NO rfl rfl [] fun T21 hT21=>f_ rfl bY rfl ?_
 refine RD hT21 2 rfl<|oP<|KK hK11<|WS fun _ hK22=>rP 1 [] mn ?_
 have hzm:=oe hz
 have hlb:=lz hst 0 s.ar.toNat
 unfold kN at hof
 rw [← hzm] at hlb
 refine rP 11 [0,1,0,1] (mc 0 rfl (mc 3 rfl mn)) ?_
 refine rS (SX (bg (xs:=[(0,.tmp 27),(1,.tmp 33)]) (cs:=(aa.cells (aa.mk (z.Lo+s.gk.Lo) (z.Hi+s.gk.Hi)))) rfl rfl (bf fg rfl)) rfl rfl)<|wb rfl bY rfl<|rP 1 [] mn ?_
 refine RK hK22<|an ?_
 refine hQ _ _ _ (aZ (vs:=[(vA (aa.cells (aa.mk (z.Lo+s.gk.Lo) (z.Hi+s.gk.Hi)))),(vI 0)]) ⟨⟨_,rfl,.inl ⟨_,_,bJ,bQ (vs:=(aa.cells (aa.mk (z.Lo+s.gk.Lo) (z.Hi+s.gk.Hi)))) 2 rfl rfl,rfl,rfl⟩⟩,rfl,trivial⟩ fun w hs=>eM ?_ hs)
 show (vT [(vA (aa.cells (aa.mk (z.Lo+s.gk.Lo) (z.Hi+s.gk.Hi)))),(vI 0)])=(vT [(vA (aa.cells (z7 ts s))),(vI (v8 ts s))])
 clear hs w hQ hN hK22 hT21 T21 hT19 T19 hT18 T18 hT17 T17 hT12 T12 hK11 hK9 hK8 hK6 hK5 hK1
 first|(have e:=oE (s:=s) (by simpa using h9); rw [e.1,e.2]<;>rfl)|(have e:=n_ h9 h14; rw [e.1,e.2]<;>rfl)|(have e:=nT h9 h14; subst hzm; rw [e.1,e.2]<;>rfl)
theorem DN (ts:List ah) (tsA:OA) (tsC:Nat) (p:cL) (q:cL) (hlen:ts.length≤1000000) (hside: ∀ x∈ts,0≤x.iy∧x.iy≤255) (hord: ¬ q.ar<p.ar):
 eu Tryz.prog 149 [(vA (bL.cells (bL.mk (bB.mk tsA ts.length tsC)))),(vA (cL.cells p)),(vA (cL.cells q))] [(rd tsA ts.length 9 (ts.map ah.cells))] (vT [(vA (aa.cells (e7 ts p q))),(vI (gG ts p q))]):=by
 refine bu kr Tryz.func149 rfl rfl fun w0 Q hQ hN=>?_
 try dsimp only
 refine WS fun _ hK1=>fP rfl fun b2=>fP rfl fun b3=>fP rfl fun b4=>AL rfl cV fun b5=>rP 1 [] mn ?_
 refine RK hK1<|ai fun _ hK6=>WS fun _ hK7=>rP 1 [] (mc 3 rfl mn) ?_
 refine rS (CL (uh ts tsA tsC hlen) (bh [4]) rfl)<|rP 1 [] mn ?_
 refine RK hK7 ?_
 refine cP rfl (fun h14=>?_) (fun h14=>?_)
 ·rw [Bool.not_eq_true'] at h14
  refine WS fun _ hK8=>rS (SX (bg (xs:=[]) (cs:=(aa.cells (aa.mk 0 0))) rfl rfl (bf fg rfl)) rfl rfl)<|f_ rfl bY rfl<|rP 1 [] mn ?_
  refine RK hK8<|an ?_
  refine hQ _ _ _ (aZ (vs:=[(vA (aa.cells (aa.mk 0 0))),(vI 10)]) ⟨⟨_,rfl,.inl ⟨_,_,bJ,bQ (vs:=(aa.cells (aa.mk 0 0))) 0 rfl rfl,rfl,rfl⟩⟩,rfl,trivial⟩ fun w hs=>eM ?_ hs)
  show (vT [(vA (aa.cells (aa.mk 0 0))),(vI 10)])=(vT [(vA (aa.cells (e7 ts p q))),(vI (gG ts p q))])
  clear hs w hQ hN hK8 hK7 hK6 hK1
  first|(have e:=gW (a:=p) (b:=q) (by simpa using h14); rw [e.1,e.2]<;>rfl)|(have e:=cM h14 hq1; rw [e.1,e.2,fT h31]<;>rfl)|(have e:=cM h14 hq1; have e2:=cM h14 ⟨h25,h20⟩; rw [e.1,e.2,e2.2,iQ h31]<;>rfl)|(have e:=gX (a:=p) (b:=q) h14 (fun h=>by first|exact h20 h.1|exact h25 h.2); rw [e.1,e.2]<;>rfl)
 rw [Bool.not_eq_false'] at h14
 refine WK hK6<|ai fun _ hK9=>WS fun _ hK10=>?_
 have hst:=jN h14
 have hl12:=kf h14
 refine rP 2 [0,1] (mc 3 rfl (mc 2 rfl mn)) ?_
 refine rS (CL (pN ts tsA tsC p sd sd) (bh [4]) rfl)<|rP 2 [] mn ?_
 refine c8 (t:=20) rfl (bk fun h20=>?_) (bj fun h20=>?_)
 ·refine rP 5 [] mn ?_
  refine RK hK10<|aI rfl<|WS fun _ hK11=>rS (SX (bg (xs:=[]) (cs:=(aa.cells (aa.mk 0 0))) rfl rfl (bf fg rfl)) rfl rfl)<|f_ rfl bY rfl<|rP 1 [] mn ?_
  refine RK hK11<|an ?_
  refine hQ _ _ _ (aZ (vs:=[(vA (aa.cells (aa.mk 0 0))),(vI 12)]) ⟨⟨_,rfl,.inl ⟨_,_,bJ,bQ (vs:=(aa.cells (aa.mk 0 0))) 0 rfl rfl,rfl,rfl⟩⟩,rfl,trivial⟩ fun w hs=>eM ?_ hs)
  show (vT [(vA (aa.cells (aa.mk 0 0))),(vI 12)])=(vT [(vA (aa.cells (e7 ts p q))),(vI (gG ts p q))])
  clear hs w hQ hN hK11 hK10 hK9 hK7 hK6 hK1
  first|(have e:=gW (a:=p) (b:=q) (by simpa using h14); rw [e.1,e.2]<;>rfl)|(have e:=cM h14 hq1; rw [e.1,e.2,fT h31]<;>rfl)|(have e:=cM h14 hq1; have e2:=cM h14 ⟨h25,h20⟩; rw [e.1,e.2,e2.2,iQ h31]<;>rfl)|(have e:=gX (a:=p) (b:=q) h14 (fun h=>by first|exact h20 h.1|exact h25 h.2); rw [e.1,e.2]<;>rfl)
 refine rP 2 [0,1] (mc 3 rfl (mc 1 rfl mn)) ?_
 refine rS (CL (pN ts tsA tsC q sd sd) (bh [4]) rfl)<|rP 2 [] mn ?_
 refine RK hK10 ?_
 refine cP rfl (bk fun h25=>?_) (bj fun h25=>?_)
 ·refine WS fun _ hK12=>?_
  refine rS (SX (bg (xs:=[]) (cs:=(aa.cells (aa.mk 0 0))) rfl rfl (bf fg rfl)) rfl rfl)<|f_ rfl bY rfl<|rP 1 [] mn ?_
  refine RK hK12<|an ?_
  refine hQ _ _ _ (aZ (vs:=[(vA (aa.cells (aa.mk 0 0))),(vI 12)]) ⟨⟨_,rfl,.inl ⟨_,_,bJ,bQ (vs:=(aa.cells (aa.mk 0 0))) 0 rfl rfl,rfl,rfl⟩⟩,rfl,trivial⟩ fun w hs=>eM ?_ hs)
  show (vT [(vA (aa.cells (aa.mk 0 0))),(vI 12)])=(vT [(vA (aa.cells (e7 ts p q))),(vI (gG ts p q))])
  clear hs w hQ hN hK12 hK10 hK9 hK7 hK6 hK1
  first|(have e:=gW (a:=p) (b:=q) (by simpa using h14); rw [e.1,e.2]<;>rfl)|(have e:=cM h14 hq1; rw [e.1,e.2,fT h31]<;>rfl)|(have e:=cM h14 hq1; have e2:=cM h14 ⟨h25,h20⟩; rw [e.1,e.2,e2.2,iQ h31]<;>rfl)|(have e:=gX (a:=p) (b:=q) h14 (fun h=>by first|exact h20 h.1|exact h25 h.2); rw [e.1,e.2]<;>rfl)
 refine WK hK9<|ai fun _ hK13=>WS fun _ hK14=>?_
 have hq1:eZ ts p∧eZ ts q:=⟨h20,h25⟩
 have hpo:=pA hst h20
 have hqo:=pA hst h25
 have hpb:=h20.1
 have hqb:=h25.1
 have hab:=vy hst hl12 h25 h20
 unfold kN at hpo hqo
 refine rP 5 [0,1] (mc 1 rfl (mc 2 rfl mn)) ?_
 refine RK hK14 ?_
 refine cP rfl (aP fun h31=>?_) (aQ fun h31=>?_)
 ·exfalso; omega
 refine WK hK13<|WS fun _ hK15=>rP 2 [] (mc 3 rfl mn) ?_
 have hlb:=lz hst p.ar.toNat (q.ar-p.ar).toNat
 refine rP 3 [0,1] (mc 2 rfl (mc 1 rfl mn)) ?_
 refine rS (CL (xZ ts tsA tsC p.ar q.ar sd sd om) (bh [4]) rfl)<|rP 3 [] mn ?_
 refine AL rfl cV fun b16=>AL rfl cV fun b17=>oV rfl bY rfl<|f_ rfl bY rfl<|RK hK15<|WS fun _ hK18=>rP 20 [0,1,2,0,1,2] (mc 1 rfl (mc 3 rfl (mc 4 rfl mn))) ?_
 refine rS (SX (bg (xs:=[(0,.tmp 64),(1,.tmp 74)]) (cs:=(aa.cells (aa.mk ((((cN ts p.ar.toNat (q.ar-p.ar).toNat).Lo)+q.gk.Lo)-p.gk.Hi) ((((cN ts p.ar.toNat (q.ar-p.ar).toNat).Hi)+q.gk.Hi)-p.gk.Lo)))) rfl rfl (bf fg rfl)) rfl rfl)<|wb rfl bY rfl<|rP 1 [] mn ?_
 refine RK hK18<|an ?_
 refine hQ _ _ _ (aZ (vs:=[(vA (aa.cells (aa.mk ((((cN ts p.ar.toNat (q.ar-p.ar).toNat).Lo)+q.gk.Lo)-p.gk.Hi) ((((cN ts p.ar.toNat (q.ar-p.ar).toNat).Hi)+q.gk.Hi)-p.gk.Lo)))),(vI 0)]) ⟨⟨_,rfl,.inl ⟨_,_,bJ,bQ (vs:=(aa.cells (aa.mk ((((cN ts p.ar.toNat (q.ar-p.ar).toNat).Lo)+q.gk.Lo)-p.gk.Hi) ((((cN ts p.ar.toNat (q.ar-p.ar).toNat).Hi)+q.gk.Hi)-p.gk.Lo)))) 2 rfl rfl,rfl,rfl⟩⟩,rfl,trivial⟩ fun w hs=>eM ?_ hs)
 show (vT [(vA (aa.cells (aa.mk ((((cN ts p.ar.toNat (q.ar-p.ar).toNat).Lo)+q.gk.Lo)-p.gk.Hi) ((((cN ts p.ar.toNat (q.ar-p.ar).toNat).Hi)+q.gk.Hi)-p.gk.Lo)))),(vI 0)])=(vT [(vA (aa.cells (e7 ts p q))),(vI (gG ts p q))])
 clear hs w hQ hN hK18 hK15 hK14 hK13 hK10 hK9 hK7 hK6 hK1
 first|(have e:=gW (a:=p) (b:=q) (by simpa using h14); rw [e.1,e.2]<;>rfl)|(have e:=cM h14 hq1; rw [e.1,e.2,fT h31]<;>rfl)|(have e:=cM h14 hq1; have e2:=cM h14 ⟨h25,h20⟩; rw [e.1,e.2,e2.2,iQ h31]<;>rfl)|(have e:=gX (a:=p) (b:=q) h14 (fun h=>by first|exact h20 h.1|exact h25 h.2); rw [e.1,e.2]<;>rfl)
theorem FR (ts:List ah) (tsA:OA) (tsC:Nat) (p:cL) (q:cL) (hlen:ts.length≤1000000) (hside: ∀ x∈ts,0≤x.iy∧x.iy≤255):
 eu Tryz.prog 149 [(vA (bL.cells (bL.mk (bB.mk tsA ts.length tsC)))),(vA (cL.cells p)),(vA (cL.cells q))] [(rd tsA ts.length 9 (ts.map ah.cells))] (vT [(vA (aa.cells (e7 ts p q))),(vI (gG ts p q))]):=by
 refine bu kr Tryz.func149 rfl rfl fun w0 Q hQ hN=>?_
 try dsimp only
 refine WS fun _ hK1=>fP rfl fun b2=>fP rfl fun b3=>fP rfl fun b4=>AL rfl cV fun b5=>rP 1 [] mn ?_
 refine RK hK1<|ai fun _ hK6=>WS fun _ hK7=>rP 1 [] (mc 3 rfl mn) ?_
 refine rS (CL (uh ts tsA tsC hlen) (bh [4]) rfl)<|rP 1 [] mn ?_
 refine RK hK7 ?_
 refine cP rfl (fun h14=>?_) (fun h14=>?_)
 ·rw [Bool.not_eq_true'] at h14
  refine WS fun _ hK8=>rS (SX (bg (xs:=[]) (cs:=(aa.cells (aa.mk 0 0))) rfl rfl (bf fg rfl)) rfl rfl)<|f_ rfl bY rfl<|rP 1 [] mn ?_
  refine RK hK8<|an ?_
  refine hQ _ _ _ (aZ (vs:=[(vA (aa.cells (aa.mk 0 0))),(vI 10)]) ⟨⟨_,rfl,.inl ⟨_,_,bJ,bQ (vs:=(aa.cells (aa.mk 0 0))) 0 rfl rfl,rfl,rfl⟩⟩,rfl,trivial⟩ fun w hs=>eM ?_ hs)
  show (vT [(vA (aa.cells (aa.mk 0 0))),(vI 10)])=(vT [(vA (aa.cells (e7 ts p q))),(vI (gG ts p q))])
  clear hs w hQ hN hK8 hK7 hK6 hK1
  first|(have e:=gW (a:=p) (b:=q) (by simpa using h14); rw [e.1,e.2]<;>rfl)|(have e:=cM h14 hq1; rw [e.1,e.2,fT h31]<;>rfl)|(have e:=cM h14 hq1; have e2:=cM h14 ⟨h25,h20⟩; rw [e.1,e.2,e2.2,iQ h31]<;>rfl)|(have e:=gX (a:=p) (b:=q) h14 (fun h=>by first|exact h20 h.1|exact h25 h.2); rw [e.1,e.2]<;>rfl)
 rw [Bool.not_eq_false'] at h14
 refine WK hK6<|ai fun _ hK9=>WS fun _ hK10=>?_
 have hst:=jN h14
 have hl12:=kf h14
 refine rP 2 [0,1] (mc 3 rfl (mc 2 rfl mn)) ?_
 refine rS (CL (pN ts tsA tsC p sd sd) (bh [4]) rfl)<|rP 2 [] mn ?_
 refine c8 (t:=20) rfl (bk fun h20=>?_) (bj fun h20=>?_)
 ·refine rP 5 [] mn ?_
  refine RK hK10<|aI rfl<|WS fun _ hK11=>rS (SX (bg (xs:=[]) (cs:=(aa.cells (aa.mk 0 0))) rfl rfl (bf fg rfl)) rfl rfl)<|f_ rfl bY rfl<|rP 1 [] mn ?_
  refine RK hK11<|an ?_
  refine hQ _ _ _ (aZ (vs:=[(vA (aa.cells (aa.mk 0 0))),(vI 12)]) ⟨⟨_,rfl,.inl ⟨_,_,bJ,bQ (vs:=(aa.cells (aa.mk 0 0))) 0 rfl rfl,rfl,rfl⟩⟩,rfl,trivial⟩ fun w hs=>eM ?_ hs)
  show (vT [(vA (aa.cells (aa.mk 0 0))),(vI 12)])=(vT [(vA (aa.cells (e7 ts p q))),(vI (gG ts p q))])
  clear hs w hQ hN hK11 hK10 hK9 hK7 hK6 hK1
  first|(have e:=gW (a:=p) (b:=q) (by simpa using h14); rw [e.1,e.2]<;>rfl)|(have e:=cM h14 hq1; rw [e.1,e.2,fT h31]<;>rfl)|(have e:=cM h14 hq1; have e2:=cM h14 ⟨h25,h20⟩; rw [e.1,e.2,e2.2,iQ h31]<;>rfl)|(have e:=gX (a:=p) (b:=q) h14 (fun h=>by first|exact h20 h.1|exact h25 h.2); rw [e.1,e.2]<;>rfl)
 refine rP 2 [0,1] (mc 3 rfl (mc 1 rfl mn)) ?_
 refine rS (CL (pN ts tsA tsC q sd sd) (bh [4]) rfl)<|rP 2 [] mn ?_
 refine RK hK10 ?_
 refine cP rfl (bk fun h25=>?_) (bj fun h25=>?_)
 ·refine WS fun _ hK12=>?_
  refine rS (SX (bg (xs:=[]) (cs:=(aa.cells (aa.mk 0 0))) rfl rfl (bf fg rfl)) rfl rfl)<|f_ rfl bY rfl<|rP 1 [] mn ?_
  refine RK hK12<|an ?_
  refine hQ _ _ _ (aZ (vs:=[(vA (aa.cells (aa.mk 0 0))),(vI 12)]) ⟨⟨_,rfl,.inl ⟨_,_,bJ,bQ (vs:=(aa.cells (aa.mk 0 0))) 0 rfl rfl,rfl,rfl⟩⟩,rfl,trivial⟩ fun w hs=>eM ?_ hs)
  show (vT [(vA (aa.cells (aa.mk 0 0))),(vI 12)])=(vT [(vA (aa.cells (e7 ts p q))),(vI (gG ts p q))])
  clear hs w hQ hN hK12 hK10 hK9 hK7 hK6 hK1
  first|(have e:=gW (a:=p) (b:=q) (by simpa using h14); rw [e.1,e.2]<;>rfl)|(have e:=cM h14 hq1; rw [e.1,e.2,fT h31]<;>rfl)|(have e:=cM h14 hq1; have e2:=cM h14 ⟨h25,h20⟩; rw [e.1,e.2,e2.2,iQ h31]<;>rfl)|(have e:=gX (a:=p) (b:=q) h14 (fun h=>by first|exact h20 h.1|exact h25 h.2); rw [e.1,e.2]<;>rfl)
 refine WK hK9<|ai fun _ hK13=>WS fun _ hK14=>?_
 have hq1:eZ ts p∧eZ ts q:=⟨h20,h25⟩
 have hpo:=pA hst h20
 have hqo:=pA hst h25
 have hpb:=h20.1
 have hqb:=h25.1
 have hab:=vy hst hl12 h25 h20
 unfold kN at hpo hqo
 refine rP 5 [0,1] (mc 1 rfl (mc 2 rfl mn)) ?_
 refine RK hK14 ?_
 refine cP rfl (aP fun h31=>?_) (aQ fun h31=>?_)
 ·refine WS fun _ hK15=>?_
  refine rP 3 [0,1,2] (mc 3 rfl (mc 1 rfl (mc 2 rfl mn))) ?_
  refine rS (CL (DN ts tsA tsC q p hlen hside sd) (bh [4]) rfl)<|rP 3 [] mn ?_
  refine AL rfl cV fun b16=>f_ rfl bY rfl<|rP 1 [] mn ?_
  refine RK hK15<|WS fun _ hK17=>rP 2 [] (mc 0 rfl mn) ?_
  have hav:e7 ts q p=g3 ts q p:=(cM h14 ⟨h25,h20⟩).2
  have hav1: -400000≤(e7 ts q p).Lo∧(e7 ts q p).Hi≤400000:=by rw [hav]; omega
  have hav2:(e7 ts q p).Lo≤(e7 ts q p).Hi:=by rw [hav]; omega
  refine rS (NG rfl ⟨om,om⟩)<|rP 2 [] (mc 0 rfl mn) ?_
  refine rS (NG rfl ⟨om,om⟩)<|rS (SX (bg (xs:=[(0,.tmp 41),(1,.tmp 44)]) (cs:=(aa.cells (aa.mk (-((e7 ts q p).Hi)) (-((e7 ts q p).Lo))))) rfl rfl (bf fg rfl)) rfl rfl)<|oV rfl bY rfl<|rP 1 [] mn ?_
  refine RK hK17<|an ?_
  refine hQ _ _ _ (aZ (vs:=[(vA (aa.cells (aa.mk (-((e7 ts q p).Hi)) (-((e7 ts q p).Lo))))),(vI 0)]) ⟨⟨_,rfl,.inl ⟨_,_,bJ,bQ (vs:=(aa.cells (aa.mk (-((e7 ts q p).Hi)) (-((e7 ts q p).Lo))))) 1 rfl rfl,rfl,rfl⟩⟩,rfl,trivial⟩ fun w hs=>eM ?_ hs)
  show (vT [(vA (aa.cells (aa.mk (-((e7 ts q p).Hi)) (-((e7 ts q p).Lo))))),(vI 0)])=(vT [(vA (aa.cells (e7 ts p q))),(vI (gG ts p q))])
  clear hs w hQ hN hK17 hK15 hK14 hK13 hK10 hK9 hK7 hK6 hK1
  first|(have e:=gW (a:=p) (b:=q) (by simpa using h14); rw [e.1,e.2]<;>rfl)|(have e:=cM h14 hq1; rw [e.1,e.2,fT h31]<;>rfl)|(have e:=cM h14 hq1; have e2:=cM h14 ⟨h25,h20⟩; rw [e.1,e.2,e2.2,iQ h31]<;>rfl)|(have e:=gX (a:=p) (b:=q) h14 (fun h=>by first|exact h20 h.1|exact h25 h.2); rw [e.1,e.2]<;>rfl)
 refine WK hK13<|WS fun _ hK18=>rP 2 [] (mc 3 rfl mn) ?_
 have hlb:=lz hst p.ar.toNat (q.ar-p.ar).toNat
 refine rP 3 [0,1] (mc 2 rfl (mc 1 rfl mn)) ?_
 refine rS (CL (xZ ts tsA tsC p.ar q.ar sd sd om) (bh [4]) rfl)<|rP 3 [] mn ?_
 refine AL rfl cV fun b19=>AL rfl cV fun b20=>oV rfl bY rfl<|f_ rfl bY rfl<|RK hK18<|WS fun _ hK21=>rP 20 [0,1,2,0,1,2] (mc 1 rfl (mc 3 rfl (mc 4 rfl mn))) ?_
 refine rS (SX (bg (xs:=[(0,.tmp 64),(1,.tmp 74)]) (cs:=(aa.cells (aa.mk ((((cN ts p.ar.toNat (q.ar-p.ar).toNat).Lo)+q.gk.Lo)-p.gk.Hi) ((((cN ts p.ar.toNat (q.ar-p.ar).toNat).Hi)+q.gk.Hi)-p.gk.Lo)))) rfl rfl (bf fg rfl)) rfl rfl)<|wb rfl bY rfl<|rP 1 [] mn ?_
 refine RK hK21<|an ?_
 refine hQ _ _ _ (aZ (vs:=[(vA (aa.cells (aa.mk ((((cN ts p.ar.toNat (q.ar-p.ar).toNat).Lo)+q.gk.Lo)-p.gk.Hi) ((((cN ts p.ar.toNat (q.ar-p.ar).toNat).Hi)+q.gk.Hi)-p.gk.Lo)))),(vI 0)]) ⟨⟨_,rfl,.inl ⟨_,_,bJ,bQ (vs:=(aa.cells (aa.mk ((((cN ts p.ar.toNat (q.ar-p.ar).toNat).Lo)+q.gk.Lo)-p.gk.Hi) ((((cN ts p.ar.toNat (q.ar-p.ar).toNat).Hi)+q.gk.Hi)-p.gk.Lo)))) 2 rfl rfl,rfl,rfl⟩⟩,rfl,trivial⟩ fun w hs=>eM ?_ hs)
 show (vT [(vA (aa.cells (aa.mk ((((cN ts p.ar.toNat (q.ar-p.ar).toNat).Lo)+q.gk.Lo)-p.gk.Hi) ((((cN ts p.ar.toNat (q.ar-p.ar).toNat).Hi)+q.gk.Hi)-p.gk.Lo)))),(vI 0)])=(vT [(vA (aa.cells (e7 ts p q))),(vI (gG ts p q))])
 clear hs w hQ hN hK21 hK18 hK14 hK13 hK10 hK9 hK7 hK6 hK1
 first|(have e:=gW (a:=p) (b:=q) (by simpa using h14); rw [e.1,e.2]<;>rfl)|(have e:=cM h14 hq1; rw [e.1,e.2,fT h31]<;>rfl)|(have e:=cM h14 hq1; have e2:=cM h14 ⟨h25,h20⟩; rw [e.1,e.2,e2.2,iQ h31]<;>rfl)|(have e:=gX (a:=p) (b:=q) h14 (fun h=>by first|exact h20 h.1|exact h25 h.2); rw [e.1,e.2]<;>rfl)
end
end Go.Proofs.YtcoejkiaokbmpaaGreatDoor
