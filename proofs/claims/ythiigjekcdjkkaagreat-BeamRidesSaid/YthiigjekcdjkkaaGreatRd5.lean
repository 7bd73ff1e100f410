/-
 The statement beamRides_said, part 5 of 6: V6, S1, Wh1, V4, V8, Wh2, MapD, S2, Wh3, Z1, BoolC, B9, R1, Y1.
 Conditions: none.
-/
import Derived.Test.YthiigjekcdjkkaaGreatRd1
import Derived.Test.YthiigjekcdjkkaaGreatRd2
import Derived.Test.YthiigjekcdjkkaaGreatRd3
import Derived.Test.YthiigjekcdjkkaaGreatRd4
namespace Go.Proofs.YthiigjekcdjkkaaGreat
section
open Go.RowKit
set_option linter.unusedVariables false
set_option maxRecDepth 100000 in
set_option maxHeartbeats 400000 in
theorem xR (l:aU) (kA:Option Addr) (kC:Nat) (az:List RA) (cA:Option Addr) (cC:Nat) (bA:Option Addr) (bC:Nat) (g1:Nat) (bm:Int) (g2:Nat) (hin:dC l az):
 eH Tryz.prog 38 [(Value.pointer (some ⟨g1,0,none⟩)),(Value.pointer (some ⟨g2,0,none⟩))] [(rd kA l.al.length 9 (l.al.map ah.cells)),(rd cA l.ag.length 2 (List.zipWith aj.cells l.ag az)),(cZ (aL aj.dX l.ag az)),(rd bA l.aa.length 4 (l.aa.map aY.cells)),(aT g1 28 (aF.cells (aF.mk (au.mk (av.mk kA l.al.length kC)) l.bw (av.mk cA l.ag.length cC) (av.mk bA l.aa.length bC) l.aD l.aV l.aJ))),(aT g2 3 [(Value.int .i64 bm)])] (Value.int .i64 (dU l bm)):=by
 have htk:=hin.nm
 have hck:=hin.nv
 have has:=hin.m_
 have hbm:=hin.nd
 refine bL Ib Tryz.func38 rfl rfl fun w0 Q hQ hN=>?_
 try dsimp only
 refine WS fun _ hK1=>rS (AG rfl)<|RK hK1<|aq fun _ hK2=>WS fun _ hK3=>rS (FA 3 rfl dy rfl)<|rS (ny (Value.slice bA l.aa.length bC) 4 rfl g3 rfl rfl)<|rS (LN rfl jL)<|rS (BI rfl (da ⟨by omega,by omega⟩))<|rS (tS 5 rfl bu rfl) ?_
 refine fp (xs:=[.tmp 7]) (cs:=[(Value.int .i64 bm)]) rfl dY lK rfl rfl rfl rfl (by simp [Value.cells]) rfl rfl fun b4=>rS (CL (eH.eq (fu 0 (((l.aa.length:Nat):Int)-1) ([bm]) (some ⟨b4,0,none⟩) 1 (by first|assumption|omega|(simp; done)|(simp; omega))) dq) (aM (bf 0 rfl rfl (by simp [bY]) rfl)<|ay) rfl)<|rS (NT rfl)<|RK hK3 ?_
 refine bj rfl (fun h10=>?_) (fun h10=>?_)
 ·replace h10:=XT h10
  refine WS fun _ hK5=>rS (AG rfl)<|RK hK5<|aE<|Q1 hQ rfl rfl rfl ?_
  first|exact congrArg (Value.int .i64) (if_pos (by omega)).symm|exact congrArg (Value.int .i64) (if_neg (by omega)).symm
 replace h10:=XF h10
 refine WK hK2<|WS fun _ hK6=>rS (AG rfl)<|RK hK6<|aE<|Q1 hQ rfl rfl rfl ?_
 first|exact congrArg (Value.int .i64) (if_pos (by omega)).symm|exact congrArg (Value.int .i64) (if_neg (by omega)).symm
set_option maxRecDepth 100000 in
set_option maxHeartbeats 400000 in
theorem uP (l:aU) (kA:Option Addr) (kC:Nat) (az:List RA) (cA:Option Addr) (cC:Nat) (bA:Option Addr) (bC:Nat) (r:bK) (sgA:Option Addr) (sgC:Nat) (hin:dC l az) (hsl:r.ab.length≤1000000):
 rp Tryz.prog 33 [(Value.agg (aF.cells (aF.mk (au.mk (av.mk kA l.al.length kC)) l.bw (av.mk cA l.ag.length cC) (av.mk bA l.aa.length bC) l.aD l.aV l.aJ)).toArray),(Value.agg (aS.cells (aS.mk r.Start r.cI (av.mk sgA r.ab.length sgC))).toArray),(Value.slice none 0 0)] [(rd kA l.al.length 9 (l.al.map ah.cells)),(rd cA l.ag.length 2 (List.zipWith aj.cells l.ag az)),(cZ (aL aj.dX l.ag az)),(rd bA l.aa.length 4 (l.aa.map aY.cells)),(rd sgA r.ab.length 2 (r.ab.map aw.cells))] (fun (x:Bool×Int×Nat×(Option Addr)×Nat×(Option Addr)×Nat×(List Nat)×(List FM)×(List Nat)×(Option Addr)×Nat×(List FM)×(List Nat)×(Option Addr)×Nat)=>bif x.1 then (Value.tuple [(Value.pointer (some ⟨x.2.2.1,0,none⟩)),(Value.int .i64 0)].toArray) else (Value.tuple [(Value.pointer none),(Value.int .i64 x.2.1)].toArray)) (fun (x:Bool×Int×Nat×(Option Addr)×Nat×(Option Addr)×Nat×(List Nat)×(List FM)×(List Nat)×(Option Addr)×Nat×(List FM)×(List Nat)×(Option Addr)×Nat)=>(x.1=true→(cr l r 0=0∧qZ (aW l r) x.2.2.2.2.2.2.2.2.1∧oZ (aW l r) x.2.2.2.2.2.2.2.2.2.2.2.2.1∧x.2.2.2.2.2.2.2.2.2.1.length=x.2.2.2.2.2.2.2.2.1.length∧x.2.2.2.2.2.2.2.2.2.2.2.2.2.1.length=x.2.2.2.2.2.2.2.2.2.2.2.2.1.length∧x.2.2.2.2.2.2.2.1.length=(bo l r.ab r.ab.length).length))∧(x.1=false→(x.2.1=cr l r 0∧ ¬ cr l r 0=0))) (fun (x:Bool×Int×Nat×(Option Addr)×Nat×(Option Addr)×Nat×(List Nat)×(List FM)×(List Nat)×(Option Addr)×Nat×(List FM)×(List Nat)×(Option Addr)×Nat)=>bif x.1 then [(aT x.2.2.1 117 (aN.cells (aN.mk (aF.mk (au.mk (av.mk kA l.al.length kC)) l.bw (av.mk cA l.ag.length cC) (av.mk bA l.aa.length bC) l.aD l.aV l.aJ) (aS.mk r.Start r.cI (av.mk sgA r.ab.length sgC)) (av.mk x.2.2.2.1 ((aR l l.aa.length).length) x.2.2.2.2.1) (av.mk x.2.2.2.2.2.1 ((bo l r.ab r.ab.length).length) x.2.2.2.2.2.2.1) (av.mk x.2.2.2.2.2.2.2.2.2.2.1 x.2.2.2.2.2.2.2.2.1.length x.2.2.2.2.2.2.2.2.2.2.2.1) (av.mk x.2.2.2.2.2.2.2.2.2.2.2.2.2.2.1 x.2.2.2.2.2.2.2.2.2.2.2.2.1.length x.2.2.2.2.2.2.2.2.2.2.2.2.2.2.2)))),(own x.2.2.2.1 x.2.2.2.2.1 3 1 ((aR l l.aa.length).map iC)),(own x.2.2.2.2.2.1 x.2.2.2.2.2.2.1 120 1 (List.zipWith cl (bo l r.ab r.ab.length) x.2.2.2.2.2.2.2.1)),(a5 (aL ib (bo l r.ab r.ab.length) x.2.2.2.2.2.2.2.1)),(own x.2.2.2.2.2.2.2.2.2.2.1 x.2.2.2.2.2.2.2.2.2.2.2.1 122 1 (List.zipWith cl x.2.2.2.2.2.2.2.2.1 x.2.2.2.2.2.2.2.2.2.1)),(a5 (aL fW x.2.2.2.2.2.2.2.2.1 x.2.2.2.2.2.2.2.2.2.1)),(own x.2.2.2.2.2.2.2.2.2.2.2.2.2.2.1 x.2.2.2.2.2.2.2.2.2.2.2.2.2.2.2 122 1 (List.zipWith cl x.2.2.2.2.2.2.2.2.2.2.2.2.1 x.2.2.2.2.2.2.2.2.2.2.2.2.2.1)),(a5 (aL fW x.2.2.2.2.2.2.2.2.2.2.2.2.1 x.2.2.2.2.2.2.2.2.2.2.2.2.2.1))] else []):=by
 have htk:=hin.nm
 have hck:=hin.nv
 have has:=hin.m_
 have hbm:=hin.nd
 have hsd:=hin.side
 refine gp Fh Tryz.func33 rfl rfl fun w0 Q hQ hN=>?_
 try dsimp only
 refine WS fun _ hK1=>fy rfl fun b2=>fy rfl fun b3=>rS (AG rfl)<|rS (AG rfl)<|RK hK1<|aq fun _ hK4=>WS fun _ hK5=>rS (LW 1 rfl eO rfl rfl)<|rS (CL (vE l kA kC az cA cC bA bC hin) (ax 2 rfl rfl<|ax 3 rfl rfl<|ax 4 rfl rfl<|ax 5 rfl rfl<|ay) rfl) ?_
 refine rS (AG rfl)<|RK hK5<|WS fun _ hK6=>rS (MV rfl)<|rS (BI rfl dB)<|RK hK6 ?_
 refine bj rfl (fun h21=>?_) (fun h21=>?_)
 ·replace h21:=XT h21
  refine WS fun _ hK7=>rS (MV rfl)<|rS (AG rfl)<|rS (AG rfl)<|RK hK7<|aE ?_
  refine hQ _ _ _ (bB (vs:=[(Value.pointer none),(Value.int .i64 (dk l))]) ⟨rfl,rfl,trivial⟩ fun w hs=>fB (false,(dk l),0,none,0,none,0,[],[],[],none,0,[],[],none,0) [] ?_ ?_ rfl rfl (by first|rfl|(show List.all _ _=true; simp only [cond_true,List.all_cons,List.all_nil,iF,jg,Bool.and_true]; rfl)) hs)
  ·rfl
  ·refine ⟨fun q=>Bool.noConfusion (show false=true from q),fun _=>?_⟩; first|(have e:=bZ (r:=r) (me:=0) h21; exact ⟨e.symm,fun q=>h21 (e.symm.trans q)⟩)|(have e:=bk (me:=0) h10 (fun q:cN l r=>by have q1:=q.time; have q2:=q.len; omega); exact ⟨e.symm,fun q=>absurd (e.symm.trans q) (by decide)⟩)|(have e:=bk (me:=0) h10 (fG hx (by unfold eA eN; omega)); exact ⟨e.symm,fun q=>absurd (e.symm.trans q) (by decide)⟩)|(have e:=c_ (me:=0) h10 hro (by first|rfl|exact h156) (show eb (aW l r)=[] from List.eq_nil_of_length_eq_zero (Int.natCast_eq_zero.1 h164)); exact ⟨e.symm,fun q=>absurd (e.symm.trans q) (by decide)⟩)
 replace h21:=XF h21
 refine WK hK4<|aq fun _ hK8=>WS fun _ hK9=>?_
 have h10:dk l=0:=h21
 obtain ⟨htr,hok⟩:=di h10
 have hhd:=hok.head
 unfold cS at hhd
 refine rS (FA 0 rfl jr rfl)<|rS (L1 (Value.int .i64 r.Start) 0 rfl bu rfl rfl)<|fp (xs:=[.tmp 24]) (cs:=[(Value.int .i64 r.Start)]) rfl dY lK rfl rfl rfl rfl (by simp [Value.cells]) rfl rfl fun b10=>rS (CL (eH.eq (fu 0 86400000 ([r.Start]) (some ⟨b10,0,none⟩) 1 (by first|assumption|omega|(simp; done)|(simp; omega))) dq) (aM (bf 0 rfl rfl (by simp [bY]) rfl)<|ay) rfl)<|rS (NT rfl)<|rS (MV rfl) ?_
 refine bH (t:=28) rfl (fun h28=>?_) (fun h28=>?_)
 ·replace h28:=XT h28
  refine rS (OX rfl)<|rS (OX rfl)<|rS (OX rfl)<|rS (OX rfl)<|rS (OX rfl)<|rS (OX rfl)<|rS (OX rfl)<|rS (PK rfl)<|rS (MV rfl)<|rS (OX rfl) ?_
  refine rS (OX rfl)<|rS (OX rfl)<|rS (OX rfl)<|rS (PK rfl)<|RK hK9<|aX rfl<|WS fun _ hK11=>rS (AG rfl)<|rS (AG rfl)<|RK hK11 ?_
  refine aE ?_
  refine hQ _ _ _ (bB (vs:=[(Value.pointer none),(Value.int .i64 51)]) ⟨rfl,rfl,trivial⟩ fun w hs=>fB (false,51,0,none,0,none,0,[],[],[],none,0,[],[],none,0) [] ?_ ?_ rfl rfl (by first|rfl|(show List.all _ _=true; simp only [cond_true,List.all_cons,List.all_nil,iF,jg,Bool.and_true]; rfl)) hs)
  ·rfl
  ·refine ⟨fun q=>Bool.noConfusion (show false=true from q),fun _=>?_⟩; first|(have e:=bZ (r:=r) (me:=0) h21; exact ⟨e.symm,fun q=>h21 (e.symm.trans q)⟩)|(have e:=bk (me:=0) h10 (fun q:cN l r=>by have q1:=q.time; have q2:=q.len; omega); exact ⟨e.symm,fun q=>absurd (e.symm.trans q) (by decide)⟩)|(have e:=bk (me:=0) h10 (fG hx (by unfold eA eN; omega)); exact ⟨e.symm,fun q=>absurd (e.symm.trans q) (by decide)⟩)|(have e:=c_ (me:=0) h10 hro (by first|rfl|exact h156) (show eb (aW l r)=[] from List.eq_nil_of_length_eq_zero (Int.natCast_eq_zero.1 h164)); exact ⟨e.symm,fun q=>absurd (e.symm.trans q) (by decide)⟩)
 replace h28:=XF h28
 refine rS (FA 0 rfl jr rfl)<|rS (L1 (Value.int .i64 r.Start) 1 rfl bu rfl rfl)<|rS (FA 1 rfl lY rfl)<|rS (L1 (Value.int .i64 r.cI) 1 rfl bu rfl rfl)<|fp (xs:=[.tmp 32]) (cs:=[(Value.int .i64 r.cI)]) rfl dY lK rfl rfl rfl rfl (by simp [Value.cells]) rfl rfl fun b12=>rS (CL (eH.eq (fu r.Start 86400000 ([r.cI]) (some ⟨b12,0,none⟩) 1 (by first|assumption|omega|(simp; done)|(simp; omega))) dq) (aM (bf 0 rfl rfl (by simp [bY]) rfl)<|ay) rfl)<|rS (NT rfl)<|rS (PK rfl)<|rS (MV rfl) ?_
 refine bH (t:=37) rfl (fun h37=>?_) (fun h37=>?_)
 ·replace h37:=XT h37
  refine rS (OX rfl)<|rS (OX rfl)<|rS (OX rfl)<|rS (OX rfl)<|rS (PK rfl)<|RK hK9<|aX rfl<|WS fun _ hK13=>rS (AG rfl)<|rS (AG rfl) ?_
  refine RK hK13<|aE ?_
  refine hQ _ _ _ (bB (vs:=[(Value.pointer none),(Value.int .i64 51)]) ⟨rfl,rfl,trivial⟩ fun w hs=>fB (false,51,0,none,0,none,0,[],[],[],none,0,[],[],none,0) [] ?_ ?_ rfl rfl (by first|rfl|(show List.all _ _=true; simp only [cond_true,List.all_cons,List.all_nil,iF,jg,Bool.and_true]; rfl)) hs)
  ·rfl
  ·refine ⟨fun q=>Bool.noConfusion (show false=true from q),fun _=>?_⟩; first|(have e:=bZ (r:=r) (me:=0) h21; exact ⟨e.symm,fun q=>h21 (e.symm.trans q)⟩)|(have e:=bk (me:=0) h10 (fun q:cN l r=>by have q1:=q.time; have q2:=q.len; omega); exact ⟨e.symm,fun q=>absurd (e.symm.trans q) (by decide)⟩)|(have e:=bk (me:=0) h10 (fG hx (by unfold eA eN; omega)); exact ⟨e.symm,fun q=>absurd (e.symm.trans q) (by decide)⟩)|(have e:=c_ (me:=0) h10 hro (by first|rfl|exact h156) (show eb (aW l r)=[] from List.eq_nil_of_length_eq_zero (Int.natCast_eq_zero.1 h164)); exact ⟨e.symm,fun q=>absurd (e.symm.trans q) (by decide)⟩)
 replace h37:=XF h37
 refine rS (FA 2 rfl gd rfl)<|rS (L1 (Value.slice sgA r.ab.length sgC) 2 rfl lh rfl rfl)<|rS (LN rfl nB)<|rS (BI rfl fY)<|rS (PK rfl)<|RK hK9 ?_
 refine bj rfl (fun h42=>?_) (fun h42=>?_)
 ·replace h42:=DT h42
  refine WS fun _ hK14=>rS (AG rfl)<|rS (AG rfl)<|RK hK14<|aE ?_
  refine hQ _ _ _ (bB (vs:=[(Value.pointer none),(Value.int .i64 51)]) ⟨rfl,rfl,trivial⟩ fun w hs=>fB (false,51,0,none,0,none,0,[],[],[],none,0,[],[],none,0) [] ?_ ?_ rfl rfl (by first|rfl|(show List.all _ _=true; simp only [cond_true,List.all_cons,List.all_nil,iF,jg,Bool.and_true]; rfl)) hs)
  ·rfl
  ·refine ⟨fun q=>Bool.noConfusion (show false=true from q),fun _=>?_⟩; first|(have e:=bZ (r:=r) (me:=0) h21; exact ⟨e.symm,fun q=>h21 (e.symm.trans q)⟩)|(have e:=bk (me:=0) h10 (fun q:cN l r=>by have q1:=q.time; have q2:=q.len; omega); exact ⟨e.symm,fun q=>absurd (e.symm.trans q) (by decide)⟩)|(have e:=bk (me:=0) h10 (fG hx (by unfold eA eN; omega)); exact ⟨e.symm,fun q=>absurd (e.symm.trans q) (by decide)⟩)|(have e:=c_ (me:=0) h10 hro (by first|rfl|exact h156) (show eb (aW l r)=[] from List.eq_nil_of_length_eq_zero (Int.natCast_eq_zero.1 h164)); exact ⟨e.symm,fun q=>absurd (e.symm.trans q) (by decide)⟩)
 replace h42:=DF h42
 refine WK hK8<|WS fun _ hK15=>rS (SX (bp (xs:=[(0,.const (Value.int .i64 (-1)))]) (cs:=(aw.cells (aw.mk (-1) 0))) rfl rfl (bq GU rfl)) rfl rfl)<|AL rfl BK fun b16=>fO rfl qi rfl<|RK hK15<|aq fun _ hK17=>er cG [0,1,2,3,4] [5,6,7,8] [false,false,false,false,false] [false,false,false,false] [(aT b16 67 (aw.cells (aw.mk (-1) 0))),(aT b12 3 [(Value.int .i64 r.cI)]),(aT b10 3 [(Value.int .i64 r.Start)]),(aT b3 31 (aS.cells (aS.mk r.Start r.cI (av.mk sgA r.ab.length sgC)))),(aT b2 28 (aF.cells (aF.mk (au.mk (av.mk kA l.al.length kC)) l.bw (av.mk cA l.ag.length cC) (av.mk bA l.aa.length bC) l.aD l.aV l.aJ))),(rd kA l.al.length 9 (l.al.map ah.cells)).ro,(rd cA l.ag.length 2 (List.zipWith aj.cells l.ag az)).ro,(cZ (aL aj.dX l.ag az)).ro,(rd bA l.aa.length 4 (l.aa.map aY.cells)).ro,(rd sgA r.ab.length 2 (r.ab.map aw.cells)).ro] [] (by kernel_rfl) (fun w hs=>St.br [0,1,2,3,4,5,6,7,8,9] rfl rfl hs) (fun w hs=>St.br [] rfl rfl hs)<|eS rfl (LW 4 rfl eO rfl rfl)<|eS rfl (LW 3 rfl iw rfl rfl) ?_
 refine eS rfl (FA 3 rfl dy rfl)<|eS rfl (L1 (Value.slice bA l.aa.length bC) 4 rfl g3 rfl rfl)<|eS rfl (LN rfl jL)<|fw rfl<|cL rfl fun T18 hT18=>qT (n:=l.aa.length) (es:=(List.map oC (List.replicate l.aa.length (none:Option Nat)))) rfl rfl rfl Dm (by omega) (by omega) (by simp only [maxLen]; omega) (by rw [List.map_replicate]; rfl) rfl fun b19=>?_
 try dsimp only
 refine RN hT18 [1,2,3,4,5,6,7,8,9,10] rfl rfl<|cL rfl fun T20 hT20=>rS (SX (bp (xs:=[(0,.tmp 44),(1,.tmp 45),(3,.tmp 49)]) (cs:=(aN.cells (aN.mk (aF.mk (au.mk (av.mk kA l.al.length kC)) l.bw (av.mk cA l.ag.length cC) (av.mk bA l.aa.length bC) l.aD l.aV l.aJ) (aS.mk r.Start r.cI (av.mk sgA r.ab.length sgC)) (av.mk none 0 0) (av.mk (some ⟨b19,0,none⟩) l.aa.length l.aa.length) (av.mk none 0 0) (av.mk none 0 0)))) rfl rfl (bq Dv rfl)) rfl rfl)<|RN hT20 [1,2,3,4,5,6,7,8,9,10] rfl rfl<|cL rfl fun T21 hT21=>fy rfl fun b22=>RN hT21 [2,3,4,5,6,7,8,9,10,11] rfl rfl<|cL rfl fun T23 hT23=>rS (AG rfl)<|RN hT23 [2,3,4,5,6,7,8,9,10,11] rfl rfl ?_
 refine g_ rfl<|KK hK17<|aq fun _ hK24=>WS fun _ hK25=>rS (FA 3 rfl dy rfl)<|rS (L1 (Value.slice bA l.aa.length bC) 6 rfl g3 rfl rfl)<|rS (LN rfl jL)<|rS (MV rfl)<|RK hK25<|aG ?_
 rw [qe]
 refine fU 3 1<|nT ?_
 have hinit:(0≤l.aa.length)∧(([]:List Nat).length=0):=by exact ⟨Nat.zero_le _,rfl⟩
 refine cq (ι:={z:Nat×(Option Addr)×Nat×(List Nat) // (z.1≤l.aa.length)∧(z.2.2.2.length=z.1)}) (fun z=>[(2,(Value.slice none 0 0)),(3,(Value.pointer (some ⟨b2,0,none⟩))),(4,(Value.pointer (some ⟨b3,0,none⟩))),(6,(Value.pointer none)),(7,(Value.int .i64 0)),(9,(Value.pointer (some ⟨b16,0,none⟩))),(10,(Value.pointer (some ⟨b22,0,none⟩))),(54,(Value.int .i64 ((l.aa.length:Nat):Int))),(55,(Value.int .i64 ((z.1.1:Nat):Int)))]) (fun z=>[(a5 (aL ib (List.replicate z.1.1 ([]:TM)) z.1.2.2.2)),(own z.1.2.1 z.1.2.2.1 3 1 ((aR l z.1.1).map iC)),(aT b22 117 (aN.cells (aN.mk (aF.mk (au.mk (av.mk kA l.al.length kC)) l.bw (av.mk cA l.ag.length cC) (av.mk bA l.aa.length bC) l.aD l.aV l.aJ) (aS.mk r.Start r.cI (av.mk sgA r.ab.length sgC)) (av.mk z.1.2.1 ((aR l z.1.1).length) z.1.2.2.1) (av.mk (some ⟨b19,0,none⟩) l.aa.length l.aa.length) (av.mk none 0 0) (av.mk none 0 0)))),(own (some ⟨b19,0,none⟩) l.aa.length 120 1 (List.map oC (cg z.1.2.2.2 l.aa.length))),(aT b16 67 (aw.cells (aw.mk (-1) 0))),(aT b3 31 (aS.cells (aS.mk r.Start r.cI (av.mk sgA r.ab.length sgC)))),(aT b2 28 (aF.cells (aF.mk (au.mk (av.mk kA l.al.length kC)) l.bw (av.mk cA l.ag.length cC) (av.mk bA l.aa.length bC) l.aD l.aV l.aJ))),(rd kA l.al.length 9 (l.al.map ah.cells)).ro,(rd cA l.ag.length 2 (List.zipWith aj.cells l.ag az)).ro,(cZ (aL aj.dX l.ag az)).ro,(rd bA l.aa.length 4 (l.aa.map aY.cells)).ro,(rd sgA r.ab.length 2 (r.ab.map aw.cells)).ro]) (fun z=>l.aa.length-z.1.1) ⟨(0,none,0,([]:List Nat)),hinit⟩ (an.cons rfl<|an.cons rfl<|an.cons rfl<|an.cons rfl<|an.cons rfl<|an.cons rfl<|an.cons rfl<|an.cons rfl<|an.cons rfl<|an.nil _) (fun w hs=>St.br [0,1,2,3,4,7,8,9,10,11,12,13] rfl rfl hs) ?_
 clear hinit
 rintro ⟨⟨b,a,c,fb⟩,⟨hl9_0,hl9_1⟩⟩ J26 hJ26
 try dsimp only at hl9_0 hl9_1
 try dsimp only
 have hlf:(cg fb l.aa.length).length=l.aa.length:=kS (by omega)
 refine WS fun _ hK27=>rS (BI rfl cv)<|RK hK27<|aq fun _ hK28=>?_
 refine bj rfl (fun h29=>?_) (fun h29=>?_)
 ·replace h29:=DT h29
  refine WK hK28<|aq fun _ hK30=>aG<|WS fun _ hK31=>rS (MV rfl)<|rS (AG rfl)<|RK hK31<|aq fun _ hK32=>er cG [0,1,2,3,4,5,6,7,8,9,10,11,14,15] [12,13,16] [false,false,false,false,true,false,false,false,false,false,false,false,false,false] [true,false,false] [(a5 (aL ib (List.replicate b ([]:TM)) fb)),(own (some ⟨b19,0,none⟩) l.aa.length 120 1 (List.map oC (cg fb l.aa.length))),(aT b16 67 (aw.cells (aw.mk (-1) 0))),(aT b3 31 (aS.cells (aS.mk r.Start r.cI (av.mk sgA r.ab.length sgC)))),(aT b2 28 (aF.cells (aF.mk (au.mk (av.mk kA l.al.length kC)) l.bw (av.mk cA l.ag.length cC) (av.mk bA l.aa.length bC) l.aD l.aV l.aJ))),(rd kA l.al.length 9 (l.al.map ah.cells)).ro,(rd cA l.ag.length 2 (List.zipWith aj.cells l.ag az)).ro,(cZ (aL aj.dX l.ag az)).ro,(rd bA l.aa.length 4 (l.aa.map aY.cells)).ro,(rd sgA r.ab.length 2 (r.ab.map aw.cells)).ro] [(a5 (aL ib (List.replicate b ([]:TM)) fb)),(own a c 3 1 ((aR l b).map iC)),(aT b22 117 (aN.cells (aN.mk (aF.mk (au.mk (av.mk kA l.al.length kC)) l.bw (av.mk cA l.ag.length cC) (av.mk bA l.aa.length bC) l.aD l.aV l.aJ) (aS.mk r.Start r.cI (av.mk sgA r.ab.length sgC)) (av.mk a ((aR l b).length) c) (av.mk (some ⟨b19,0,none⟩) l.aa.length l.aa.length) (av.mk none 0 0) (av.mk none 0 0)))),(own (some ⟨b19,0,none⟩) l.aa.length 120 1 (List.map oC (cg fb l.aa.length))),(aT b16 67 (aw.cells (aw.mk (-1) 0))),(aT b3 31 (aS.cells (aS.mk r.Start r.cI (av.mk sgA r.ab.length sgC)))),(aT b2 28 (aF.cells (aF.mk (au.mk (av.mk kA l.al.length kC)) l.bw (av.mk cA l.ag.length cC) (av.mk bA l.aa.length bC) l.aD l.aV l.aJ))),(rd kA l.al.length 9 (l.al.map ah.cells)).ro,(rd cA l.ag.length 2 (List.zipWith aj.cells l.ag az)).ro,(cZ (aL aj.dX l.ag az)).ro,(rd bA l.aa.length 4 (l.aa.map aY.cells)).ro,(rd sgA r.ab.length 2 (r.ab.map aw.cells)).ro] (by kernel_rfl) (fun w hs=>St.br [0,3,4,5,6,7,8,9,10,11] rfl rfl hs) (fun w hs=>St.br [0,1,2,3,4,5,6,7,8,9,10,11] rfl rfl hs)<|eS rfl (MV rfl) ?_
  refine eS rfl (MV rfl)<|eS rfl (SX (cx rfl rfl) rfl rfl)<|eS rfl (FA 10 rfl m0 rfl)<|fS rfl (L1 (Value.slice a ((aR l b).length) c) 2 rfl nZ rfl rfl)<|eS rfl (LW 4 rfl eO rfl rfl)<|eS rfl (MV rfl)<|eS rfl (CL (Ad l kA kC az cA cC bA bC ((b:Nat):Int) hin (by first|assumption|omega|(simp; done)|(simp; omega)) (by exact hok.jT) (by first|assumption|omega|(simp; done)|(simp; omega))) (ax 5 rfl rfl<|ax 6 rfl rfl<|ax 7 rfl rfl<|ax 8 rfl rfl<|ay) rfl) ?_
  have hwb:=vH htr hok.jT b
  have hwy:=hok.tx b (by omega)
  simp only [Int.toNat_natCast]
  refine eS rfl (BI rfl (vV ⟨by omega,by omega⟩))<|eS rfl (FA 1 rfl n9 rfl)<|eS rfl (L1 (Value.int .i64 l.bw) 4 rfl bu rfl rfl)<|eS rfl (CL (AQ (1000*(kg l ((b:Nat):Int).toNat)) l.bw (by first|assumption|omega|(simp; done)|(simp; omega)) (by first|assumption|omega|(simp; done)|(simp; omega))) (ay) rfl)<|eS rfl (SX (cx rfl rfl) rfl rfl)<|eS rfl (FA 10 rfl m0 rfl)<|fw rfl<|jm rfl fun T33 hT33=>fp (xs:=[.tmp 69]) (cs:=[(Value.int .i64 (kW (1000*(kg l ((b:Nat):Int).toNat)) l.bw))]) rfl dY lK rfl rfl rfl rfl (by simp [Value.cells]) rfl rfl fun b34=>?_
  refine aP (hT33 _ _ (fun w hs=>St.br [1,4,5,6,7,8,9,10,11,12] rfl rfl hs) (fun w hs=>St.br [1,2,3,4,5,6,7,8,9,10,11,12] rfl rfl hs) ?_)
  refine cL rfl fun T35 hT35=>dR (es2:=(List.map iC (aR l (b+1)))) (m':=(aR l (b+1)).length) 2 rfl rfl rfl o9 rfl rfl (by simp [bI]) (bf (es:=List.map iC [(kW (1000*(kg l ((b:Nat):Int).toNat)) l.bw)]) 0 rfl rfl (by simp [bY]) rfl) (jF _) (by have:=bI (l:=l) (n:=b); first|omega|(simp; omega)) (by simp only [maxLen,bI]; omega) (by rw [nW]; simp [df]) (by simp [bI]) rfl fun a36 c37=>?_
  try dsimp only
  refine RN hT35 [1,4,5,6,7,8,9,10,11,12] rfl rfl<|cL rfl fun T38 hT38=>Dq (aN.cells (aN.mk (aF.mk (au.mk (av.mk kA l.al.length kC)) l.bw (av.mk cA l.ag.length cC) (av.mk bA l.aa.length bC) l.aD l.aV l.aJ) (aS.mk r.Start r.cI (av.mk sgA r.ab.length sgC)) (av.mk a36 ((aR l (b+1)).length) c37) (av.mk (some ⟨b19,0,none⟩) l.aa.length l.aa.length) (av.mk none 0 0) (av.mk none 0 0))) rfl Em rfl rfl<|RN hT38 [1,4,5,6,7,8,9,10,11,12] rfl rfl<|g_ rfl<|KK hK32<|ar<|rS (MV rfl)<|rS (SX (cx rfl rfl) rfl rfl)<|rS (FA 11 rfl mP rfl) ?_
  refine rS (L1 (Value.slice (some ⟨b19,0,none⟩) l.aa.length l.aa.length) 3 rfl tm rfl rfl)<|rS (MV rfl)<|ml (kV:=iV) rfl rfl fun b39=>?_
  try dsimp only
  obtain ⟨x40,hx41⟩: ∃ y_,(cg fb l.aa.length)[b]? =some y_:=⟨(cg fb l.aa.length)[b]'(by omega),List.getElem?_eq_getElem _⟩
  have hx41m:(List.map oC (cg fb l.aa.length))[b]? =some (oC x40):=by rw [List.getElem?_map,hx41]; rfl
  refine rS (IA b rfl (aC (n:=l.aa.length) 5 rfl (by first|(simp; done)|(simp; omega))) rY (by decide) (by omega) (by omega)) ?_
  have hb42:((cg fb l.aa.length).set b (some b39))=(cg (fb++[b39]) l.aa.length):=by exact oG (by omega) (by omega)
  refine fP (k:=b) (o:=0) (vs:=[(Value.map (some b39))]) (es':=(List.map oC (cg (fb++[b39]) l.aa.length))) (C':=[_,_,_,_,_,(own (some ⟨b19,0,none⟩) l.aa.length 120 1 (List.map oC (cg (fb++[b39]) l.aa.length))),_,_,_,_,_,_,_,_]) 5 rfl rfl rfl DG rfl rfl rfl rfl hx41m rfl (by decide) (by exact (List.map_set (f:=oC) (l:=(cg fb l.aa.length)) (i:=b) (a:=(some b39))).symm.trans (congrArg _ hb42)) rfl<|aP<|aK<|KK hK30<|ar<|rS (BI rfl (aZ ⟨by omega,by omega⟩))<|rS (MV rfl)<|aP<|wG (X':=aL ib (List.replicate (b+1) ([]:TM)) (fb++[b39])) 2 0 rfl rfl (yr hl9_1) ?_
  try dsimp only
  have hb43:(Value.int .i64 (((b+1):Nat):Int))=(Value.int .i64 (((b:Nat):Int)+1)):=by exact congrArg (Value.int .i64) (by omega)
  refine aO (hJ26 ⟨((b+1),a36,c37,(fb++[b39])),⟨by omega,by simp; omega⟩⟩ _ _ _ rfl (by first|omega|(simp; omega)) (an.cons rfl<|an.cons rfl<|an.cons rfl<|an.cons rfl<|an.cons rfl<|an.cons rfl<|an.cons rfl<|an.cons rfl<|aQ rfl hb43<|an.nil _) (fun w hs=>St.br [0,2,3,4,5,6,7,8,9,10,11,12] rfl rfl hs))
 replace h29:=DF h29
 refine bE<|ai<|ai<|aH<|KK hK24<|aq fun _ hK44=>WS fun _ hK45=>rS (FA 2 rfl gd rfl)<|rS (L1 (Value.slice sgA r.ab.length sgC) 5 rfl lh rfl rfl)<|rS (LN rfl nB) ?_
 refine rS (MV rfl)<|RK hK45<|aG ?_
 rw [show (List.replicate b ([]:TM))=bo l r.ab 0 from by rw [sd,show b=l.aa.length by omega]]
 rw [show aR l b=aR l l.aa.length from by rw [show b=l.aa.length by omega]]
 have hinit:(0≤r.ab.length)∧(lW l r.ab 0):=by exact ⟨Nat.zero_le _,qd⟩
 refine cq (ι:={z:Nat // (z≤r.ab.length)∧(lW l r.ab z)}) (fun z=>[(2,(Value.slice none 0 0)),(3,(Value.pointer (some ⟨b2,0,none⟩))),(4,(Value.pointer (some ⟨b3,0,none⟩))),(6,(Value.pointer none)),(7,(Value.int .i64 0)),(9,(Value.pointer (some ⟨b16,0,none⟩))),(10,(Value.pointer (some ⟨b22,0,none⟩))),(83,(Value.slice sgA r.ab.length sgC)),(84,(Value.int .i64 ((r.ab.length:Nat):Int))),(85,(Value.int .i64 ((z.1:Nat):Int)))]) (fun z=>[(a5 (aL ib (bo l r.ab z.1) fb)),(own a c 3 1 ((aR l l.aa.length).map iC)),(aT b22 117 (aN.cells (aN.mk (aF.mk (au.mk (av.mk kA l.al.length kC)) l.bw (av.mk cA l.ag.length cC) (av.mk bA l.aa.length bC) l.aD l.aV l.aJ) (aS.mk r.Start r.cI (av.mk sgA r.ab.length sgC)) (av.mk a ((aR l l.aa.length).length) c) (av.mk (some ⟨b19,0,none⟩) l.aa.length l.aa.length) (av.mk none 0 0) (av.mk none 0 0)))),(own (some ⟨b19,0,none⟩) l.aa.length 120 1 (List.map oC (cg fb l.aa.length))),(aT b16 67 (aw.cells (ir r.ab z.1))),(aT b3 31 (aS.cells (aS.mk r.Start r.cI (av.mk sgA r.ab.length sgC)))),(aT b2 28 (aF.cells (aF.mk (au.mk (av.mk kA l.al.length kC)) l.bw (av.mk cA l.ag.length cC) (av.mk bA l.aa.length bC) l.aD l.aV l.aJ))),(rd kA l.al.length 9 (l.al.map ah.cells)).ro,(rd cA l.ag.length 2 (List.zipWith aj.cells l.ag az)).ro,(cZ (aL aj.dX l.ag az)).ro,(rd bA l.aa.length 4 (l.aa.map aY.cells)).ro,(rd sgA r.ab.length 2 (r.ab.map aw.cells)).ro]) (fun z=>r.ab.length-z.1) ⟨0,hinit⟩ (an.cons rfl<|an.cons rfl<|an.cons rfl<|an.cons rfl<|an.cons rfl<|an.cons rfl<|an.cons rfl<|an.cons rfl<|an.cons rfl<|an.cons rfl<|an.nil _) (fun w hs=>St.br [0,1,2,3,4,5,6,7,8,9,10,11] rfl rfl hs) ?_
 clear hinit
 rintro ⟨i,⟨hl15_0,hl15_1⟩⟩ J46 hJ46
 try dsimp only
 have htlen:(bo l r.ab i).length=l.aa.length:=en
 have hlf:(cg fb l.aa.length).length=l.aa.length:=kS (by omega)
 refine WS fun _ hK47=>rS (BI rfl cv)<|RK hK47<|aq fun _ hK48=>?_
 refine bj rfl (fun h49=>?_) (fun h49=>?_)
 rotate_left 1
 ·replace h49:=DF h49
  refine bE<|ai<|ai<|aH<|KK hK44<|aq fun _ hK79=>aq fun _ hK80=>?_
  have hro:cN l r:=jd (by omega) (by omega) hl15_1 (by omega)
  refine ar<|rS (MV rfl)<|rS (LN rfl Df)<|rS (MV rfl)<|RK hK80<|aG<|pZ 1<|kJ fun R81 hR81=>WS fun _ hK82=>rS (SX (fK (r:= .bool false) rfl rfl rfl cv) rfl rfl) ?_
  refine RK hK82<|aq fun _ hK83=>bV rfl<|bE<|ai<|ai<|aH<|KK hK79<|aq fun _ hK84=>?_
  rw [show bo l r.ab i=bo l r.ab r.ab.length from by rw [show i=r.ab.length by omega]]
  have htl:(bo l r.ab r.ab.length).length=l.aa.length:=en
  rw [show (List.map oC (cg fb l.aa.length))=(List.zipWith cl (bo l r.ab r.ab.length) fb) from FQ (by omega) htl]
  rw [show (aT b22 117 (aN.cells (aN.mk (aF.mk (au.mk (av.mk kA l.al.length kC)) l.bw (av.mk cA l.ag.length cC) (av.mk bA l.aa.length bC) l.aD l.aV l.aJ) (aS.mk r.Start r.cI (av.mk sgA r.ab.length sgC)) (av.mk a ((aR l l.aa.length).length) c) (av.mk (some ⟨b19,0,none⟩) l.aa.length l.aa.length) (av.mk none 0 0) (av.mk none 0 0))))=(aT b22 117 (aN.cells (aN.mk (aF.mk (au.mk (av.mk kA l.al.length kC)) l.bw (av.mk cA l.ag.length cC) (av.mk bA l.aa.length bC) l.aD l.aV l.aJ) (aS.mk r.Start r.cI (av.mk sgA r.ab.length sgC)) (av.mk a ((aR l l.aa.length).length) c) (av.mk (some ⟨b19,0,none⟩) ((bo l r.ab r.ab.length).length) l.aa.length) (av.mk none 0 0) (av.mk none 0 0)))) from by rw [htl]]
  have hwo:=jf htr hok hro
  have hlel:(aR l l.aa.length).length=l.aa.length:=bI
  refine ar<|rS (MV rfl) ?_
  refine mK 2 rfl rfl rfl rfl (vq (aF.mk (au.mk (av.mk kA l.al.length kC)) l.bw (av.mk cA l.ag.length cC) (av.mk bA l.aa.length bC) l.aD l.aV l.aJ) (aS.mk r.Start r.cI (av.mk sgA r.ab.length sgC)) (aR l l.aa.length) (bo l r.ab r.ab.length) a c fb (some ⟨b19,0,none⟩) l.aa.length b22 (by exact hwo) (by exact bI.symm) (by rw [htl]; omega)) rfl (eV 1 rfl rfl (eh (by simp)) (eV 3 rfl rfl (eh (by rw [List.length_zipWith]; omega)) (eV 0 rfl rfl iE o0))) rfl (fun y93 hfo=>?_)
  obtain ⟨fs85,fb86,fA87,fC88,bs89,bb90,bA91,bC92⟩:=y93
  refine xV (X:=[(aT b22 117 (aN.cells (aN.mk (aF.mk (au.mk (av.mk kA l.al.length kC)) l.bw (av.mk cA l.ag.length cC) (av.mk bA l.aa.length bC) l.aD l.aV l.aJ) (aS.mk r.Start r.cI (av.mk sgA r.ab.length sgC)) (av.mk a ((aR l l.aa.length).length) c) (av.mk (some ⟨b19,0,none⟩) ((bo l r.ab r.ab.length).length) l.aa.length) (av.mk fA87 fs85.length fC88) (av.mk bA91 bs89.length bC92)))),(own fA87 fC88 122 1 (List.zipWith cl fs85 fb86)),(a5 (aL fW fs85 fb86)),(own bA91 bC92 122 1 (List.zipWith cl bs89 bb90)),(a5 (aL fW bs89 bb90))]) 2 rfl rfl ?_
  try dsimp only
  obtain ⟨hq1,hq2,hq3,hq4⟩:=hfo
  dsimp only at hq1 hq2 hq3 hq4
  refine RK hK84<|aq fun _ hK94=>WS fun _ hK95=>rS (MV rfl)<|cX (oi (aF.mk (au.mk (av.mk kA l.al.length kC)) l.bw (av.mk cA l.ag.length cC) (av.mk bA l.aa.length bC) l.aD l.aV l.aJ) (aS.mk r.Start r.cI (av.mk sgA r.ab.length sgC)) (aR l l.aa.length) (bo l r.ab r.ab.length) a c fb (some ⟨b19,0,none⟩) l.aa.length fs85 bs89 fb86 fA87 fC88 bb90 bA91 bC92 b22 (by exact hwo) (by first|assumption|omega|(simp; done)|(simp; omega)) (by exact bI.symm) (by exact hq1) (by first|assumption|omega|(simp; done)|(simp; omega))) (aM (aC (n:=(aR l l.aa.length).length) 6 rfl (by simp))<|aM (aC (n:=(bo l r.ab r.ab.length).length) 7 rfl (by rw [List.length_zipWith]; omega))<|aM (dT 5 rfl h_)<|aM (aC (n:=fs85.length) 1 rfl (by rw [List.length_zipWith]; omega))<|aM (dT 2 rfl h_)<|aM (aC (n:=bs89.length) 3 rfl (by rw [List.length_zipWith]; omega))<|aM (dT 4 rfl h_)<|ax 0 rfl rfl<|ay) rfl fun y96 hy97=>?_
  obtain ⟨a98,c99⟩:=y96
  try dsimp only
  refine rS (LN rfl l9)<|rS (BI rfl g0)<|RK hK95 ?_
  refine bj rfl (fun h164=>?_) (fun h164=>?_)
  rotate_left 1
  ·replace h164:=DF h164
   refine WK hK94<|WS fun _ hK101=>rS (MV rfl)<|rS (AG rfl)<|rS (AG rfl)<|RK hK101<|aE ?_
   refine hQ _ _ _ (bB (vs:=[(Value.pointer (some ⟨b22,0,none⟩)),(Value.int .i64 0)]) ⟨rfl,rfl,trivial⟩ fun w hs=>fB (true,0,b22,a,c,(some ⟨b19,0,none⟩),l.aa.length,fb,fs85,fb86,fA87,fC88,bs89,bb90,bA91,bC92) [1,7,8,6,2,3,4,5] ?_ ?_ rfl rfl (by first|rfl|(show List.all _ _=true; simp only [cond_true,List.all_cons,List.all_nil,iF,jg,Bool.and_true]; rfl)) hs)
   ·rfl
   ·exact ⟨fun _=>⟨ke h10 hro (by first|rfl|exact h156) (fun q=>h164 (congrArg (fun z:List Int=>((z.length:Nat):Int)) q)),hq1,hq2,hq3,hq4,by dsimp only; omega⟩,fun q=>Bool.noConfusion (show true=false from q)⟩
  replace h164:=DT h164
  refine WS fun _ hK100=>rS (AG rfl)<|rS (AG rfl)<|RK hK100<|aE ?_
  refine hQ _ _ _ (bB (vs:=[(Value.pointer none),(Value.int .i64 8)]) ⟨rfl,rfl,trivial⟩ fun w hs=>fB (false,8,0,none,0,none,0,[],[],[],none,0,[],[],none,0) [] ?_ ?_ rfl rfl (by first|rfl|(show List.all _ _=true; simp only [cond_true,List.all_cons,List.all_nil,iF,jg,Bool.and_true]; rfl)) hs)
  ·rfl
  ·refine ⟨fun q=>Bool.noConfusion (show false=true from q),fun _=>?_⟩; first|(have e:=bZ (r:=r) (me:=0) h21; exact ⟨e.symm,fun q=>h21 (e.symm.trans q)⟩)|(have e:=bk (me:=0) h10 (fun q:cN l r=>by have q1:=q.time; have q2:=q.len; omega); exact ⟨e.symm,fun q=>absurd (e.symm.trans q) (by decide)⟩)|(have e:=bk (me:=0) h10 (fG hx (by unfold eA eN; omega)); exact ⟨e.symm,fun q=>absurd (e.symm.trans q) (by decide)⟩)|(have e:=c_ (me:=0) h10 hro (by first|rfl|exact h156) (show eb (aW l r)=[] from List.eq_nil_of_length_eq_zero (Int.natCast_eq_zero.1 h164)); exact ⟨e.symm,fun q=>absurd (e.symm.trans q) (by decide)⟩)
 replace h49:=DT h49
 refine WK hK48<|aq fun _ hK50=>aG<|WS fun _ hK51=>rS (MV rfl) ?_
 obtain ⟨x,hx⟩: ∃ y_,r.ab[i]? =some y_:=⟨r.ab[i]'(by omega),List.getElem?_eq_getElem _⟩
 have hxm:(r.ab.map aw.cells)[i]? =some (aw.cells x):=by rw [List.getElem?_map,hx]; rfl
 refine rS (IA i rfl (aI 11 rfl) sU (by decide) (by omega) (by omega))<|rS (lF i 0 (aw.cells x) rfl mO (aI 11 rfl) hxm rfl (by decide) rfl rfl)<|AL rfl BK fun b52=>rS (AG rfl)<|fO rfl qi rfl<|RK hK51<|aq fun _ hK53=>WS fun _ hK54=>rS (FA 3 rfl dy rfl)<|rS (L1 (Value.slice bA l.aa.length bC) 7 rfl g3 rfl rfl) ?_
 refine rS (LN rfl jL)<|rS (BI rfl (da ⟨by omega,by omega⟩))<|rS (FA 0 rfl gr rfl)<|rS (L1 (Value.int .i64 x.cU) 0 rfl bu rfl rfl)<|fp (xs:=[.tmp 95]) (cs:=[(Value.int .i64 x.cU)]) rfl dY lK rfl rfl rfl rfl (by simp [Value.cells]) rfl rfl fun b55=>rS (CL (eH.eq (fu 0 (((l.aa.length:Nat):Int)-1) ([x.cU]) (some ⟨b55,0,none⟩) 1 (by first|assumption|omega|(simp; done)|(simp; omega))) dq) (aM (bf 0 rfl rfl (by simp [bY]) rfl)<|ay) rfl)<|rS (NT rfl)<|rS (MV rfl) ?_
 refine bH (t:=99) rfl (fun h99=>?_) (fun h99=>?_)
 ·replace h99:=XT h99
  refine rS (OX rfl)<|rS (OX rfl)<|rS (OX rfl)<|rS (OX rfl)<|rS (OX rfl)<|rS (PK rfl)<|rS (MV rfl)<|rS (OX rfl)<|rS (OX rfl)<|rS (OX rfl) ?_
  refine rS (OX rfl)<|rS (OX rfl)<|rS (PK rfl)<|rS (MV rfl)<|rS (OX rfl)<|rS (OX rfl)<|rS (OX rfl)<|rS (OX rfl)<|rS (OX rfl)<|rS (OX rfl) ?_
  refine rS (OX rfl)<|rS (OX rfl)<|rS (OX rfl)<|rS (OX rfl)<|rS (OX rfl)<|rS (OX rfl)<|rS (PK rfl)<|RK hK54<|aX rfl<|WS fun _ hK56=>?_
  refine rS (AG rfl)<|rS (AG rfl)<|RK hK56<|aE ?_
  refine hQ _ _ _ (bB (vs:=[(Value.pointer none),(Value.int .i64 51)]) ⟨rfl,rfl,trivial⟩ fun w hs=>fB (false,51,0,none,0,none,0,[],[],[],none,0,[],[],none,0) [] ?_ ?_ rfl rfl (by first|rfl|(show List.all _ _=true; simp only [cond_true,List.all_cons,List.all_nil,iF,jg,Bool.and_true]; rfl)) hs)
  ·rfl
  ·refine ⟨fun q=>Bool.noConfusion (show false=true from q),fun _=>?_⟩; first|(have e:=bZ (r:=r) (me:=0) h21; exact ⟨e.symm,fun q=>h21 (e.symm.trans q)⟩)|(have e:=bk (me:=0) h10 (fun q:cN l r=>by have q1:=q.time; have q2:=q.len; omega); exact ⟨e.symm,fun q=>absurd (e.symm.trans q) (by decide)⟩)|(have e:=bk (me:=0) h10 (fG hx (by unfold eA eN; omega)); exact ⟨e.symm,fun q=>absurd (e.symm.trans q) (by decide)⟩)|(have e:=c_ (me:=0) h10 hro (by first|rfl|exact h156) (show eb (aW l r)=[] from List.eq_nil_of_length_eq_zero (Int.natCast_eq_zero.1 h164)); exact ⟨e.symm,fun q=>absurd (e.symm.trans q) (by decide)⟩)
 replace h99:=XF h99
 refine rS (FA 1 rfl j7 rfl)<|rS (L1 (Value.int .i64 x.Read) 1 rfl bu rfl rfl)<|fp (xs:=[.tmp 101]) (cs:=[(Value.int .i64 x.Read)]) rfl dY lK rfl rfl rfl rfl (by simp [Value.cells]) rfl rfl fun b57=>rS (CL (eH.eq (fu 0 86400000 ([x.Read]) (some ⟨b57,0,none⟩) 1 (by first|assumption|omega|(simp; done)|(simp; omega))) dq) (aM (bf 0 rfl rfl (by simp [bY]) rfl)<|ay) rfl)<|rS (NT rfl)<|rS (PK rfl)<|rS (MV rfl) ?_
 refine bH (t:=106) rfl (fun h106=>?_) (fun h106=>?_)
 ·replace h106:=XT h106
  refine rS (OX rfl)<|rS (OX rfl)<|rS (OX rfl)<|rS (OX rfl)<|rS (OX rfl)<|rS (PK rfl)<|rS (MV rfl)<|rS (OX rfl)<|rS (OX rfl)<|rS (OX rfl) ?_
  refine rS (OX rfl)<|rS (OX rfl)<|rS (OX rfl)<|rS (OX rfl)<|rS (OX rfl)<|rS (OX rfl)<|rS (OX rfl)<|rS (OX rfl)<|rS (OX rfl)<|rS (PK rfl) ?_
  refine RK hK54<|aX rfl<|WS fun _ hK58=>rS (AG rfl)<|rS (AG rfl)<|RK hK58<|aE ?_
  refine hQ _ _ _ (bB (vs:=[(Value.pointer none),(Value.int .i64 51)]) ⟨rfl,rfl,trivial⟩ fun w hs=>fB (false,51,0,none,0,none,0,[],[],[],none,0,[],[],none,0) [] ?_ ?_ rfl rfl (by first|rfl|(show List.all _ _=true; simp only [cond_true,List.all_cons,List.all_nil,iF,jg,Bool.and_true]; rfl)) hs)
  ·rfl
  ·refine ⟨fun q=>Bool.noConfusion (show false=true from q),fun _=>?_⟩; first|(have e:=bZ (r:=r) (me:=0) h21; exact ⟨e.symm,fun q=>h21 (e.symm.trans q)⟩)|(have e:=bk (me:=0) h10 (fun q:cN l r=>by have q1:=q.time; have q2:=q.len; omega); exact ⟨e.symm,fun q=>absurd (e.symm.trans q) (by decide)⟩)|(have e:=bk (me:=0) h10 (fG hx (by unfold eA eN; omega)); exact ⟨e.symm,fun q=>absurd (e.symm.trans q) (by decide)⟩)|(have e:=c_ (me:=0) h10 hro (by first|rfl|exact h156) (show eb (aW l r)=[] from List.eq_nil_of_length_eq_zero (Int.natCast_eq_zero.1 h164)); exact ⟨e.symm,fun q=>absurd (e.symm.trans q) (by decide)⟩)
 replace h106:=XF h106
 refine rS (FA 0 rfl gr rfl)<|rS (L1 (Value.int .i64 x.cU) 2 rfl bu rfl rfl)<|rS (FA 0 rfl gr rfl)<|rS (L1 (Value.int .i64 ((ir r.ab i).cU)) 7 rfl bu rfl rfl)<|rS (BI rfl cv)<|rS (PK rfl)<|rS (MV rfl) ?_
 refine bH (t:=113) rfl (fun h113=>?_) (fun h113=>?_)
 ·replace h113:=DT h113
  refine rS (OX rfl)<|rS (OX rfl)<|rS (OX rfl)<|rS (OX rfl)<|rS (OX rfl)<|rS (OX rfl)<|rS (OX rfl)<|rS (OX rfl)<|rS (OX rfl)<|rS (OX rfl) ?_
  refine rS (OX rfl)<|rS (OX rfl)<|rS (PK rfl)<|RK hK54<|aX rfl<|WS fun _ hK59=>rS (AG rfl)<|rS (AG rfl)<|RK hK59<|aE ?_
  refine hQ _ _ _ (bB (vs:=[(Value.pointer none),(Value.int .i64 51)]) ⟨rfl,rfl,trivial⟩ fun w hs=>fB (false,51,0,none,0,none,0,[],[],[],none,0,[],[],none,0) [] ?_ ?_ rfl rfl (by first|rfl|(show List.all _ _=true; simp only [cond_true,List.all_cons,List.all_nil,iF,jg,Bool.and_true]; rfl)) hs)
  ·rfl
  ·refine ⟨fun q=>Bool.noConfusion (show false=true from q),fun _=>?_⟩; first|(have e:=bZ (r:=r) (me:=0) h21; exact ⟨e.symm,fun q=>h21 (e.symm.trans q)⟩)|(have e:=bk (me:=0) h10 (fun q:cN l r=>by have q1:=q.time; have q2:=q.len; omega); exact ⟨e.symm,fun q=>absurd (e.symm.trans q) (by decide)⟩)|(have e:=bk (me:=0) h10 (fG hx (by unfold eA eN; omega)); exact ⟨e.symm,fun q=>absurd (e.symm.trans q) (by decide)⟩)|(have e:=c_ (me:=0) h10 hro (by first|rfl|exact h156) (show eb (aW l r)=[] from List.eq_nil_of_length_eq_zero (Int.natCast_eq_zero.1 h164)); exact ⟨e.symm,fun q=>absurd (e.symm.trans q) (by decide)⟩)
 replace h113:=DF h113
 refine rS (FA 0 rfl gr rfl)<|rS (L1 (Value.int .i64 x.cU) 2 rfl bu rfl rfl)<|rS (FA 0 rfl gr rfl)<|rS (L1 (Value.int .i64 ((ir r.ab i).cU)) 7 rfl bu rfl rfl)<|rS (BI rfl g0)<|rS (MV rfl) ?_
 refine bH (t:=119) rfl (fun h119=>?_) (fun h119=>?_)
 rotate_left 1
 ·replace h119:=DF h119
  refine rS (OX rfl)<|rS (OX rfl)<|rS (OX rfl)<|rS (OX rfl)<|rS (OX rfl)<|rS (PK rfl)<|rS (PK rfl)<|RK hK54<|bV rfl<|WK hK53 ?_
  refine aq fun _ hK70=>WS fun _ hK71=>rS (LW 9 rfl eO rfl rfl)<|rS (LW 2 rfl mO rfl rfl)<|rS (CL (uI l kA kC az cA cC bA bC x hin (by first|assumption|omega|(simp; done)|(simp; omega)) (by first|assumption|omega|(simp; done)|(simp; omega))) (ax 10 rfl rfl<|ax 11 rfl rfl<|ax 12 rfl rfl<|ax 13 rfl rfl<|ay) rfl)<|AL rfl dF fun b72=>fO rfl cK rfl<|RK hK71<|WS fun _ hK73=>rS (FA 0 rfl bU rfl) ?_
  refine rS (L1 (Value.int .i64 ((bT l x).Lo)) 0 rfl bu rfl rfl)<|rS (FA 1 rfl cd rfl)<|rS (L1 (Value.int .i64 ((bT l x).Hi)) 0 rfl bu rfl rfl)<|rS (BI rfl gl)<|RK hK73 ?_
  refine bj rfl (fun h134=>?_) (fun h134=>?_)
  rotate_left 1
  ·replace h134:=DF h134
   refine WK hK70<|ar<|rS (LW 3 rfl mO rfl rfl)<|G7 rfl qi rfl<|aP<|aK<|KK hK50 ?_
   have hb77:(aw.cells x)=(aw.cells (ir r.ab (i+1))):=by rw [iD hx]
   rw [hb77]
   refine ar<|rS (BI rfl (aZ ⟨by omega,by omega⟩))<|rS (MV rfl)<|aP ?_
   rw [show (bo l r.ab i)=(bo l r.ab (i+1)) from (mR hx h134).symm]
   have hb78:(Value.int .i64 (((i+1):Nat):Int))=(Value.int .i64 (((i:Nat):Int)+1)):=by exact congrArg (Value.int .i64) (by omega)
   refine aO (hJ46 ⟨(i+1),⟨by omega,gO hl15_1 hx (by unfold eA eN; omega)⟩⟩ _ _ _ rfl (by first|omega|(simp; omega)) (an.cons rfl<|an.cons rfl<|an.cons rfl<|an.cons rfl<|an.cons rfl<|an.cons rfl<|an.cons rfl<|an.cons rfl<|an.cons rfl<|aQ rfl hb78<|an.nil _) (fun w hs=>St.br [4,5,6,7,8,9,10,11,12,13,14,15] rfl rfl hs))
  replace h134:=DT h134
  obtain ⟨mb,hmb⟩: ∃ y_,(bo l r.ab i)[(x.cU).toNat]? =some y_:=⟨(bo l r.ab i)[(x.cU).toNat]'(by omega),List.getElem?_eq_getElem _⟩
  obtain ⟨ga,hga⟩: ∃ y_,fb[(x.cU).toNat]? =some y_:=⟨fb[(x.cU).toNat]'(by omega),List.getElem?_eq_getElem _⟩
  refine tT 4 hmb hga rfl rfl rfl ?_
  try dsimp only
  refine dm cG 10 (by kernel_rfl)<|dS (MV rfl)<|dS (SX (cx rfl rfl) rfl rfl)<|dS (FA 11 rfl mP rfl)<|dS (L1 (Value.slice (some ⟨b19,0,none⟩) l.aa.length l.aa.length) 7 rfl tm rfl rfl)<|dS (FA 0 rfl gr rfl)<|dS (L1 (Value.int .i64 x.cU) 5 rfl bu rfl rfl) ?_
  have hk74:(List.map oC (cg fb l.aa.length))[(x.cU).toNat]? =some (oC (some ga)):=nu (kr hga)
  refine dS (IA ((x.cU).toNat) rfl (aC (n:=l.aa.length) 8 rfl (by first|(simp; done)|(simp; omega))) rY (by decide) (by omega) (by omega))<|dS (iX ((x.cU).toNat) 0 (Value.map (some ga)) rfl tQ (aC (n:=(cg fb l.aa.length).length) 8 rfl (by simp)) hk74 rfl (by decide) rfl)<|dS (MV rfl)<|dS (LW 2 rfl cp rfl rfl)<|cP<|iQ (kV:=iV) (x:=((i:Nat):Int)) (C':=[(kD iV ga (bG lS (dV mb ((i:Nat):Int) (bT l x)))),_,_,_,_,_,_,_,_,_,_,_,_,_,_,_,_]) 0 rfl rfl rfl rfl vC (ku qY) rfl (gf _ _ _ _).symm rfl<|RK hK70<|ar<|rS (LW 5 rfl mO rfl rfl)<|G_ rfl qi rfl ?_
  refine aP<|aK<|KK hK50 ?_
  have hb75:(aw.cells x)=(aw.cells (ir r.ab (i+1))):=by rw [iD hx]
  rw [hb75]
  refine ar<|rS (BI rfl (aZ ⟨by omega,by omega⟩))<|rS (MV rfl)<|aP<|uA (f:=ib) (ms:=(bo l r.ab i)) (m:=(dV mb ((i:Nat):Int) (bT l x))) 1 0 (by rw [en]; omega) hga rfl rfl rfl ?_
  rw [oq hx (by omega) h134 hmb]
  have hb76:(Value.int .i64 (((i+1):Nat):Int))=(Value.int .i64 (((i:Nat):Int)+1)):=by exact congrArg (Value.int .i64) (by omega)
  refine aO (hJ46 ⟨(i+1),⟨by omega,gO hl15_1 hx (by unfold eA eN; omega)⟩⟩ _ _ _ rfl (by first|omega|(simp; omega)) (an.cons rfl<|an.cons rfl<|an.cons rfl<|an.cons rfl<|an.cons rfl<|an.cons rfl<|an.cons rfl<|an.cons rfl<|an.cons rfl<|aQ rfl hb76<|an.nil _) (fun w hs=>St.br [0,5,6,7,8,9,10,11,12,13,14,15] rfl rfl hs))
 replace h119:=DT h119
 refine rS (FA 1 rfl j7 rfl)<|rS (L1 (Value.int .i64 x.Read) 2 rfl bu rfl rfl)<|rS (FA 1 rfl j7 rfl)<|rS (L1 (Value.int .i64 ((ir r.ab i).Read)) 7 rfl bu rfl rfl)<|rS (BI rfl gl)<|rS (PK rfl)<|rS (PK rfl)<|RK hK54 ?_
 refine bj rfl (fun h126=>?_) (fun h126=>?_)
 ·replace h126:=DT h126
  refine WS fun _ hK60=>rS (AG rfl)<|rS (AG rfl)<|RK hK60<|aE ?_
  refine hQ _ _ _ (bB (vs:=[(Value.pointer none),(Value.int .i64 51)]) ⟨rfl,rfl,trivial⟩ fun w hs=>fB (false,51,0,none,0,none,0,[],[],[],none,0,[],[],none,0) [] ?_ ?_ rfl rfl (by first|rfl|(show List.all _ _=true; simp only [cond_true,List.all_cons,List.all_nil,iF,jg,Bool.and_true]; rfl)) hs)
  ·rfl
  ·refine ⟨fun q=>Bool.noConfusion (show false=true from q),fun _=>?_⟩; first|(have e:=bZ (r:=r) (me:=0) h21; exact ⟨e.symm,fun q=>h21 (e.symm.trans q)⟩)|(have e:=bk (me:=0) h10 (fun q:cN l r=>by have q1:=q.time; have q2:=q.len; omega); exact ⟨e.symm,fun q=>absurd (e.symm.trans q) (by decide)⟩)|(have e:=bk (me:=0) h10 (fG hx (by unfold eA eN; omega)); exact ⟨e.symm,fun q=>absurd (e.symm.trans q) (by decide)⟩)|(have e:=c_ (me:=0) h10 hro (by first|rfl|exact h156) (show eb (aW l r)=[] from List.eq_nil_of_length_eq_zero (Int.natCast_eq_zero.1 h164)); exact ⟨e.symm,fun q=>absurd (e.symm.trans q) (by decide)⟩)
 replace h126:=DF h126
 refine WK hK53<|aq fun _ hK61=>WS fun _ hK62=>rS (LW 9 rfl eO rfl rfl)<|rS (LW 2 rfl mO rfl rfl)<|rS (CL (uI l kA kC az cA cC bA bC x hin (by first|assumption|omega|(simp; done)|(simp; omega)) (by first|assumption|omega|(simp; done)|(simp; omega))) (ax 10 rfl rfl<|ax 11 rfl rfl<|ax 12 rfl rfl<|ax 13 rfl rfl<|ay) rfl)<|AL rfl dF fun b63=>fO rfl cK rfl<|RK hK62<|WS fun _ hK64=>?_
 refine rS (FA 0 rfl bU rfl)<|rS (L1 (Value.int .i64 ((bT l x).Lo)) 0 rfl bu rfl rfl)<|rS (FA 1 rfl cd rfl)<|rS (L1 (Value.int .i64 ((bT l x).Hi)) 0 rfl bu rfl rfl)<|rS (BI rfl gl)<|RK hK64 ?_
 refine bj rfl (fun h134=>?_) (fun h134=>?_)
 rotate_left 1
 ·replace h134:=DF h134
  refine WK hK61<|ar<|rS (LW 3 rfl mO rfl rfl)<|G7 rfl qi rfl<|aP<|aK<|KK hK50 ?_
  have hb68:(aw.cells x)=(aw.cells (ir r.ab (i+1))):=by rw [iD hx]
  rw [hb68]
  refine ar<|rS (BI rfl (aZ ⟨by omega,by omega⟩))<|rS (MV rfl)<|aP ?_
  rw [show (bo l r.ab i)=(bo l r.ab (i+1)) from (mR hx h134).symm]
  have hb69:(Value.int .i64 (((i+1):Nat):Int))=(Value.int .i64 (((i:Nat):Int)+1)):=by exact congrArg (Value.int .i64) (by omega)
  refine aO (hJ46 ⟨(i+1),⟨by omega,gO hl15_1 hx (by unfold eA eN; omega)⟩⟩ _ _ _ rfl (by first|omega|(simp; omega)) (an.cons rfl<|an.cons rfl<|an.cons rfl<|an.cons rfl<|an.cons rfl<|an.cons rfl<|an.cons rfl<|an.cons rfl<|an.cons rfl<|aQ rfl hb69<|an.nil _) (fun w hs=>St.br [4,5,6,7,8,9,10,11,12,13,14,15] rfl rfl hs))
 replace h134:=DT h134
 obtain ⟨mb,hmb⟩: ∃ y_,(bo l r.ab i)[(x.cU).toNat]? =some y_:=⟨(bo l r.ab i)[(x.cU).toNat]'(by omega),List.getElem?_eq_getElem _⟩
 obtain ⟨ga,hga⟩: ∃ y_,fb[(x.cU).toNat]? =some y_:=⟨fb[(x.cU).toNat]'(by omega),List.getElem?_eq_getElem _⟩
 refine tT 4 hmb hga rfl rfl rfl ?_
 try dsimp only
 refine dm cG 10 (by kernel_rfl)<|dS (MV rfl)<|dS (SX (cx rfl rfl) rfl rfl)<|dS (FA 11 rfl mP rfl)<|dS (L1 (Value.slice (some ⟨b19,0,none⟩) l.aa.length l.aa.length) 7 rfl tm rfl rfl)<|dS (FA 0 rfl gr rfl)<|dS (L1 (Value.int .i64 x.cU) 5 rfl bu rfl rfl) ?_
 have hk65:(List.map oC (cg fb l.aa.length))[(x.cU).toNat]? =some (oC (some ga)):=nu (kr hga)
 refine dS (IA ((x.cU).toNat) rfl (aC (n:=l.aa.length) 8 rfl (by first|(simp; done)|(simp; omega))) rY (by decide) (by omega) (by omega))<|dS (iX ((x.cU).toNat) 0 (Value.map (some ga)) rfl tQ (aC (n:=(cg fb l.aa.length).length) 8 rfl (by simp)) hk65 rfl (by decide) rfl)<|dS (MV rfl)<|dS (LW 2 rfl cp rfl rfl)<|cP<|iQ (kV:=iV) (x:=((i:Nat):Int)) (C':=[(kD iV ga (bG lS (dV mb ((i:Nat):Int) (bT l x)))),_,_,_,_,_,_,_,_,_,_,_,_,_,_,_,_]) 0 rfl rfl rfl rfl vC (ku qY) rfl (gf _ _ _ _).symm rfl<|RK hK61<|ar<|rS (LW 5 rfl mO rfl rfl)<|G_ rfl qi rfl ?_
 refine aP<|aK<|KK hK50 ?_
 have hb66:(aw.cells x)=(aw.cells (ir r.ab (i+1))):=by rw [iD hx]
 rw [hb66]
 refine ar<|rS (BI rfl (aZ ⟨by omega,by omega⟩))<|rS (MV rfl)<|aP<|uA (f:=ib) (ms:=(bo l r.ab i)) (m:=(dV mb ((i:Nat):Int) (bT l x))) 1 0 (by rw [en]; omega) hga rfl rfl rfl ?_
 rw [oq hx (by omega) h134 hmb]
 have hb67:(Value.int .i64 (((i+1):Nat):Int))=(Value.int .i64 (((i:Nat):Int)+1)):=by exact congrArg (Value.int .i64) (by omega)
 refine aO (hJ46 ⟨(i+1),⟨by omega,gO hl15_1 hx (by unfold eA eN; omega)⟩⟩ _ _ _ rfl (by first|omega|(simp; omega)) (an.cons rfl<|an.cons rfl<|an.cons rfl<|an.cons rfl<|an.cons rfl<|an.cons rfl<|an.cons rfl<|an.cons rfl<|an.cons rfl<|aQ rfl hb67<|an.nil _) (fun w hs=>St.br [0,5,6,7,8,9,10,11,12,13,14,15] rfl rfl hs))
end
section
open Go.RowKit
set_option linter.unusedVariables false
set_option maxRecDepth 100000 in
set_option maxHeartbeats 400000 in
theorem Dd (l:List Int) (lA:Option Addr) (lC:Nat) (hne:1≤l.length) (hlen:l.length≤1000000):
 eH Tryz.prog 36 [(Value.slice lA l.length lC)] [(rd lA l.length 1 (l.map iC))] (Value.int .i64 (iT l)):=by
 refine bL H6 Tryz.func36 rfl rfl fun w0 Q hQ hN=>?_
 try dsimp only
 refine WS fun _ hK1=>rS (AG rfl)<|RK hK1<|aq fun _ hK2=>WS fun _ hK3=>rS (MV rfl)<|rS (LN rfl l9)<|rS (BI rfl cv)<|RK hK3 ?_
 refine bj rfl (fun h4=>?_) (fun h4=>?_)
 ·replace h4:=DT h4
  exfalso; omega
 replace h4:=DF h4
 refine WK hK2<|WS fun _ hK5=>rS (MV rfl) ?_
 obtain ⟨x0,hx0⟩: ∃ y_,l[0]? =some y_:=⟨l[0]'(by omega),List.getElem?_eq_getElem _⟩
 have hx0m:(l.map iC)[0]? =some (iC x0):=by rw [List.getElem?_map,hx0]; rfl
 refine rS (IA 0 rfl (aI 0 rfl) dY (by decide) rfl (by omega))<|rS (iX 0 0 (Value.int .i64 x0) rfl bu (aI 0 rfl) hx0m rfl (by decide) rfl)<|rS (AG rfl)<|RK hK5<|aq fun _ hK6=>WS fun _ hK7=>rS (AG rfl)<|RK hK7<|aG ?_
 have hinit:(1≤1∧1≤l.length):=by omega
 have hb8:(Value.int .i64 (iT (l.take 1)))=(Value.int .i64 x0):=by rw [yV hx0]
 refine cq (ι:={z:Nat // (1≤z∧z≤l.length)}) (fun z=>[(0,(Value.slice lA l.length lC)),(3,(Value.int .i64 (iT (l.take z.1)))),(4,(Value.int .i64 ((z.1:Nat):Int)))]) (fun z=>[(rd lA l.length 1 (l.map iC)).ro]) (fun z=>l.length-z.1) ⟨1,hinit⟩ (an.cons rfl<|aQ rfl hb8<|an.cons rfl<|an.nil _) (fun w hs=>St.br [0] rfl rfl hs) ?_
 clear hinit
 rintro ⟨i,hl5_0⟩ J9 hJ9
 try dsimp only
 refine aq fun _ hK10=>WS fun _ hK11=>rS (MV rfl)<|rS (MV rfl)<|rS (LN rfl l9)<|rS (BI rfl cv)<|RK hK11 ?_
 refine bj rfl (fun h12=>?_) (fun h12=>?_)
 rotate_left 1
 ·replace h12:=DF h12
  refine bE<|ai<|ai<|aH<|KK hK6<|WS fun _ hK16=>rS (MV rfl)<|rS (AG rfl)<|RK hK16<|aE ?_
  refine Q1 hQ rfl rfl rfl ?_
  rw [List.take_of_length_le (by omega)]
 replace h12:=DT h12
 refine WK hK10<|aq fun _ hK13=>aG<|ar<|rS (MV rfl)<|rS (MV rfl)<|rS (MV rfl) ?_
 obtain ⟨x0,hx0⟩: ∃ y_,l[i]? =some y_:=⟨l[i]'(by omega),List.getElem?_eq_getElem _⟩
 have hx0m:(l.map iC)[i]? =some (iC x0):=by rw [List.getElem?_map,hx0]; rfl
 refine rS (IA i rfl (aI 0 rfl) dY (by decide) (by omega) (by omega))<|rS (iX i 0 (Value.int .i64 x0) rfl bu (aI 0 rfl) hx0m rfl (by decide) rfl)<|rS (MN rfl)<|rS (AG rfl)<|aP<|aK<|KK hK13<|ar<|rS (MV rfl)<|rS (BI rfl (aZ ⟨by omega,by omega⟩)) ?_
 refine rS (AG rfl)<|aP ?_
 have hb14:(Value.int .i64 (iT (l.take (i+1))))=(Value.int .i64 (min (iT (l.take i)) x0)):=by rw [Bc hx0 (by omega)]
 have hb15:(Value.int .i64 (((i+1):Nat):Int))=(Value.int .i64 (((i:Nat):Int)+1)):=by exact congrArg (Value.int .i64) (by omega)
 refine aO (hJ9 ⟨(i+1),(by first|omega|(simp only []; omega))⟩ _ _ _ rfl (by first|omega|(simp; omega)) (an.cons rfl<|aQ rfl hb14<|aQ rfl hb15<|an.nil _) (fun w hs=>St.br [0] rfl rfl hs))
set_option maxRecDepth 100000 in
set_option maxHeartbeats 400000 in
theorem FP (l:List Int) (lA:Option Addr) (lC:Nat) (hne:1≤l.length) (hlen:l.length≤1000000):
 eH Tryz.prog 37 [(Value.slice lA l.length lC)] [(rd lA l.length 1 (l.map iC))] (Value.int .i64 (nc l)):=by
 refine bL IG Tryz.func37 rfl rfl fun w0 Q hQ hN=>?_
 try dsimp only
 refine WS fun _ hK1=>rS (AG rfl)<|RK hK1<|aq fun _ hK2=>WS fun _ hK3=>rS (MV rfl)<|rS (LN rfl l9)<|rS (BI rfl cv)<|RK hK3 ?_
 refine bj rfl (fun h4=>?_) (fun h4=>?_)
 ·replace h4:=DT h4
  exfalso; omega
 replace h4:=DF h4
 refine WK hK2<|WS fun _ hK5=>rS (MV rfl) ?_
 obtain ⟨x0,hx0⟩: ∃ y_,l[0]? =some y_:=⟨l[0]'(by omega),List.getElem?_eq_getElem _⟩
 have hx0m:(l.map iC)[0]? =some (iC x0):=by rw [List.getElem?_map,hx0]; rfl
 refine rS (IA 0 rfl (aI 0 rfl) dY (by decide) rfl (by omega))<|rS (iX 0 0 (Value.int .i64 x0) rfl bu (aI 0 rfl) hx0m rfl (by decide) rfl)<|rS (AG rfl)<|RK hK5<|aq fun _ hK6=>WS fun _ hK7=>rS (AG rfl)<|RK hK7<|aG ?_
 have hinit:(1≤1∧1≤l.length):=by omega
 have hb8:(Value.int .i64 (nc (l.take 1)))=(Value.int .i64 x0):=by rw [yE hx0]
 refine cq (ι:={z:Nat // (1≤z∧z≤l.length)}) (fun z=>[(0,(Value.slice lA l.length lC)),(3,(Value.int .i64 (nc (l.take z.1)))),(4,(Value.int .i64 ((z.1:Nat):Int)))]) (fun z=>[(rd lA l.length 1 (l.map iC)).ro]) (fun z=>l.length-z.1) ⟨1,hinit⟩ (an.cons rfl<|aQ rfl hb8<|an.cons rfl<|an.nil _) (fun w hs=>St.br [0] rfl rfl hs) ?_
 clear hinit
 rintro ⟨i,hl5_0⟩ J9 hJ9
 try dsimp only
 refine aq fun _ hK10=>WS fun _ hK11=>rS (MV rfl)<|rS (MV rfl)<|rS (LN rfl l9)<|rS (BI rfl cv)<|RK hK11 ?_
 refine bj rfl (fun h12=>?_) (fun h12=>?_)
 rotate_left 1
 ·replace h12:=DF h12
  refine bE<|ai<|ai<|aH<|KK hK6<|WS fun _ hK16=>rS (MV rfl)<|rS (AG rfl)<|RK hK16<|aE ?_
  refine Q1 hQ rfl rfl rfl ?_
  rw [List.take_of_length_le (by omega)]
 replace h12:=DT h12
 refine WK hK10<|aq fun _ hK13=>aG<|ar<|rS (MV rfl)<|rS (MV rfl)<|rS (MV rfl) ?_
 obtain ⟨x0,hx0⟩: ∃ y_,l[i]? =some y_:=⟨l[i]'(by omega),List.getElem?_eq_getElem _⟩
 have hx0m:(l.map iC)[i]? =some (iC x0):=by rw [List.getElem?_map,hx0]; rfl
 refine rS (IA i rfl (aI 0 rfl) dY (by decide) (by omega) (by omega))<|rS (iX i 0 (Value.int .i64 x0) rfl bu (aI 0 rfl) hx0m rfl (by decide) rfl)<|rS (MX rfl)<|rS (AG rfl)<|aP<|aK<|KK hK13<|ar<|rS (MV rfl)<|rS (BI rfl (aZ ⟨by omega,by omega⟩)) ?_
 refine rS (AG rfl)<|aP ?_
 have hb14:(Value.int .i64 (nc (l.take (i+1))))=(Value.int .i64 (max (nc (l.take i)) x0)):=by rw [Bl hx0 (by omega)]
 have hb15:(Value.int .i64 (((i+1):Nat):Int))=(Value.int .i64 (((i:Nat):Int)+1)):=by exact congrArg (Value.int .i64) (by omega)
 refine aO (hJ9 ⟨(i+1),(by first|omega|(simp only []; omega))⟩ _ _ _ rfl (by first|omega|(simp; omega)) (an.cons rfl<|aQ rfl hb14<|aQ rfl hb15<|an.nil _) (fun w hs=>St.br [0] rfl rfl hs))
end
section
open Go.RowKit
set_option linter.unusedVariables false
set_option maxRecDepth 100000 in
set_option maxHeartbeats 400000 in
theorem yh (l:aU) (kA:Option Addr) (kC:Nat) (az:List RA) (cA:Option Addr) (cC:Nat) (bA:Option Addr) (bC:Nat) (r:bK) (sgA:Option Addr) (sgC:Nat) (hin:dC l az) (hsl:r.ab.length≤1000000):
 rp Tryz.prog 10 [(Value.agg (aF.cells (aF.mk (au.mk (av.mk kA l.al.length kC)) l.bw (av.mk cA l.ag.length cC) (av.mk bA l.aa.length bC) l.aD l.aV l.aJ)).toArray),(Value.agg (aS.cells (aS.mk r.Start r.cI (av.mk sgA r.ab.length sgC))).toArray)] [(rd kA l.al.length 9 (l.al.map ah.cells)),(rd cA l.ag.length 2 (List.zipWith aj.cells l.ag az)),(cZ (aL aj.dX l.ag az)),(rd bA l.aa.length 4 (l.aa.map aY.cells)),(rd sgA r.ab.length 2 (r.ab.map aw.cells))] (fun (x:(Option Addr)×Nat)=>(Value.tuple [(Value.slice x.1 ((bR l r).length) x.2),(Value.int .i64 (cr l r 0))].toArray)) (fun (x:(Option Addr)×Nat)=>True) (fun (x:(Option Addr)×Nat)=>[(own x.1 x.2 3 1 ((bR l r).map iC))]):=by
 have htk:=hin.nm
 have hck:=hin.nv
 have has:=hin.m_
 have hbm:=hin.nd
 have hsd:=hin.side
 refine gp IE Tryz.func10 rfl rfl fun w0 Q hQ hN=>?_
 try dsimp only
 refine WS fun _ hK1=>fy rfl fun b2=>fy rfl fun b3=>rS (AG rfl)<|rS (AG rfl)<|RK hK1<|WS fun _ hK4=>rS (LW 1 rfl eO rfl rfl)<|rS (LW 0 rfl iw rfl rfl)<|cX (uP l kA kC az cA cC bA bC r sgA sgC hin hsl) (ax 2 rfl rfl<|ax 3 rfl rfl<|ax 4 rfl rfl<|ax 5 rfl rfl<|ax 6 rfl rfl<|ay) rfl fun y5 hy6=>?_
 obtain ⟨ok22,ec7,gw8,eA9,eC10,tA11,tC12,tb13,fs14,fb15,fA16,fC17,bs18,bb19,qA20,qC21⟩:=y5
 cases ok22
 ·obtain ⟨hec,he⟩:=hy6.2 rfl
  try dsimp only at hec he
  subst hec
  try dsimp only [cond_true,cond_false,List.cons_append,List.nil_append]
  refine rS (MV rfl)<|rS (EX rfl)<|rS (EX rfl)<|rS (AG rfl)<|rS (AG rfl)<|RK hK4<|aq fun _ hK23=>WS fun _ hK24=>rS (MV rfl)<|rS (BI rfl dB) ?_
  refine RK hK24 ?_
  refine bj rfl (fun h15=>?_) (fun h15=>?_)
  rotate_left 1
  ·replace h15:=XF h15
   exact absurd h15 he
  replace h15:=XT h15
  refine WS fun _ hK25=>ia 3 1 ?_
  rw [show (own none 0 3 1 ([]:List (List Value)))=own none 0 3 1 ((bR l r).map iC) from by rw [iS he]; rfl]
  refine rS (MV rfl)<|rS (AG rfl)<|rS (AG rfl)<|RK hK25<|aE ?_
  refine hQ _ _ _ (bB (vs:=[(Value.slice none 0 0),(Value.int .i64 (cr l r 0))]) ⟨rfl,rfl,trivial⟩ fun w hs=>fB (none,0) [0] ?_ ?_ rfl rfl rfl hs)
  ·first|rfl|(rw [he]; rfl)|(rw [iS he]; rfl)
  ·trivial
 obtain ⟨he,hfw,hbw,hfl,hbl,htl⟩:=hy6.1 rfl
 try dsimp only [cond_true,cond_false,List.cons_append,List.nil_append]
 dsimp only at hfw hbw hfl hbl htl
 obtain ⟨h10,hro,hme,hnn⟩:=dW he
 obtain ⟨htr,hok⟩:=di h10
 have hhd:=hok.head
 unfold cS at hhd
 have hwo:=jf htr hok hro
 have hrt:=hro.time
 have hrl:=hro.len
 have hlel:(aR l l.aa.length).length=l.aa.length:=bI
 have htll:(bo l r.ab r.ab.length).length=l.aa.length:=en
 have hfn:fs14.length=l.aa.length+1:=by have:=hfw.len; rw [show (aW l r).n=l.aa.length from bI] at this; exact this
 have hbn:bs18.length=l.aa.length+1:=by have:=hbw.len; rw [show (aW l r).n=l.aa.length from bI] at this; exact this
 refine rS (MV rfl)<|rS (EX rfl)<|rS (EX rfl)<|rS (AG rfl)<|rS (AG rfl)<|RK hK4<|aq fun _ hK26=>WS fun _ hK27=>rS (MV rfl)<|rS (SX (fK (r:= .bool false) rfl rfl rfl dB) rfl rfl) ?_
 refine RK hK27<|bV rfl<|WK hK26<|WS fun _ hK28=>rS (MV rfl)<|cX (oi (aF.mk (au.mk (av.mk kA l.al.length kC)) l.bw (av.mk cA l.ag.length cC) (av.mk bA l.aa.length bC) l.aD l.aV l.aJ) (aS.mk r.Start r.cI (av.mk sgA r.ab.length sgC)) (aR l l.aa.length) (bo l r.ab r.ab.length) eA9 eC10 tb13 tA11 tC12 fs14 bs18 fb15 fA16 fC17 bb19 qA20 qC21 gw8 (by exact hwo) (by first|assumption|omega|(simp; done)|(simp; omega)) (by exact bI.symm) (by exact hfw) (by first|assumption|omega|(simp; done)|(simp; omega))) (aM (aC (n:=(aR l l.aa.length).length) 1 rfl (by simp))<|aM (aC (n:=(bo l r.ab r.ab.length).length) 2 rfl (by rw [List.length_zipWith]; omega))<|aM (dT 3 rfl h_)<|aM (aC (n:=fs14.length) 4 rfl (by rw [List.length_zipWith]; omega))<|aM (dT 5 rfl h_)<|aM (aC (n:=bs18.length) 6 rfl (by rw [List.length_zipWith]; omega))<|aM (dT 7 rfl h_)<|ax 0 rfl rfl<|ay) rfl fun y29 hy30=>?_
 obtain ⟨a31,c32⟩:=y29
 try dsimp only
 rw [show (eb (bP (aF.mk (au.mk (av.mk kA l.al.length kC)) l.bw (av.mk cA l.ag.length cC) (av.mk bA l.aa.length bC) l.aD l.aV l.aJ) (aS.mk r.Start r.cI (av.mk sgA r.ab.length sgC)) (aR l l.aa.length) (bo l r.ab r.ab.length)))=bR l r from (fT he).symm]
 refine rS (AG rfl)<|rS (AG rfl)<|RK hK28<|aE ?_
 refine hQ _ _ _ (bB (vs:=[(Value.slice a31 ((bR l r).length) c32),(Value.int .i64 0)]) ⟨rfl,rfl,trivial⟩ fun w hs=>fB (a31,c32) [0] ?_ ?_ rfl rfl rfl hs)
 ·first|rfl|(rw [he]; rfl)|(rw [iS he]; rfl)
 ·trivial
set_option maxRecDepth 100000 in
set_option maxHeartbeats 400000 in
theorem BY (l:aU) (kA:Option Addr) (kC:Nat) (az:List RA) (cA:Option Addr) (cC:Nat) (bA:Option Addr) (bC:Nat) (r:bK) (sgA:Option Addr) (sgC:Nat) (hin:dC l az) (hsl:r.ab.length≤1000000):
 eH Tryz.prog 12 [(Value.agg (aF.cells (aF.mk (au.mk (av.mk kA l.al.length kC)) l.bw (av.mk cA l.ag.length cC) (av.mk bA l.aa.length bC) l.aD l.aV l.aJ)).toArray),(Value.agg (aS.cells (aS.mk r.Start r.cI (av.mk sgA r.ab.length sgC))).toArray)] [(rd kA l.al.length 9 (l.al.map ah.cells)),(rd cA l.ag.length 2 (List.zipWith aj.cells l.ag az)),(cZ (aL aj.dX l.ag az)),(rd bA l.aa.length 4 (l.aa.map aY.cells)),(rd sgA r.ab.length 2 (r.ab.map aw.cells))] (Value.tuple [(Value.int .u8 (cH l r)),(Value.int .i64 (cr l r 0))].toArray):=by
 have htk:=hin.nm
 have hck:=hin.nv
 have has:=hin.m_
 have hbm:=hin.nd
 have hsd:=hin.side
 refine bL IP Tryz.func12 rfl rfl fun w0 Q hQ hN=>?_
 try dsimp only
 refine WS fun _ hK1=>fy rfl fun b2=>fy rfl fun b3=>rS (AG rfl)<|rS (AG rfl)<|RK hK1<|WS fun _ hK4=>rS (LW 1 rfl eO rfl rfl)<|rS (LW 0 rfl iw rfl rfl)<|cX (yh l kA kC az cA cC bA bC r sgA sgC hin hsl) (ax 2 rfl rfl<|ax 3 rfl rfl<|ax 4 rfl rfl<|ax 5 rfl rfl<|ax 6 rfl rfl<|ay) rfl fun y5 hy6=>?_
 obtain ⟨a7,c8⟩:=y5
 try dsimp only
 refine rS (MV rfl)<|rS (EX rfl)<|rS (EX rfl)<|rS (AG rfl)<|rS (AG rfl)<|RK hK4<|aq fun _ hK9=>aG<|WS fun _ hK10=>rS (MV rfl) ?_
 refine rS (BI rfl dB)<|rS (AG rfl)<|RK hK10 ?_
 refine bj rfl (fun h14=>?_) (fun h14=>?_)
 ·replace h14:=XT h14
  refine WS fun _ hK11=>rS (MV rfl)<|rS (AG rfl)<|rS (AG rfl)<|RK hK11<|aE<|Q2 hQ rfl rfl rfl rfl ?_
  first|(rw [show cH l r=0 from if_neg h14]; done)|(rw [h14,show cH l r=2 from by unfold cH; rw [if_pos h14,if_pos h18]]; done)|(rw [h14,show cH l r=0 from by unfold cH; rw [if_pos h14,if_neg h18,if_pos h24]]; done)|(rw [h14,show cH l r=1 from by unfold cH; rw [if_pos h14,if_neg h18,if_neg h24]]; done)
 replace h14:=XF h14
 refine aq fun _ hK12=>dm cG 6 (by kernel_rfl)<|dS (MV rfl)<|dS (CL (Dd (bR l r) a7 c8 (by exact mN h14) (by have:=kf (l:=l) (r:=r); omega)) (aM (aC (n:=(bR l r).length) 0 rfl (by simp))<|ay) rfl)<|dS (FA 4 rfl lV rfl)<|dS (L1 (Value.int .i64 l.aD) 2 rfl bu rfl rfl)<|dS (BI rfl fY)<|dS (AG rfl)<|cP<|RK hK12 ?_
 refine bj rfl (fun h18=>?_) (fun h18=>?_)
 ·replace h18:=DT h18
  refine WS fun _ hK13=>rS (AG rfl)<|rS (AG rfl)<|RK hK13<|aE<|Q2 hQ rfl rfl rfl rfl ?_
  first|(rw [show cH l r=0 from if_neg h14]; done)|(rw [h14,show cH l r=2 from by unfold cH; rw [if_pos h14,if_pos h18]]; done)|(rw [h14,show cH l r=0 from by unfold cH; rw [if_pos h14,if_neg h18,if_pos h24]]; done)|(rw [h14,show cH l r=1 from by unfold cH; rw [if_pos h14,if_neg h18,if_neg h24]]; done)
 replace h18:=DF h18
 refine aq fun _ hK14=>dm cG 6 (by kernel_rfl)<|dS (MV rfl)<|dS (CL (FP (bR l r) a7 c8 (by exact mN h14) (by have:=kf (l:=l) (r:=r); omega)) (aM (aC (n:=(bR l r).length) 0 rfl (by simp))<|ay) rfl)<|dS (FA 4 rfl lV rfl)<|dS (L1 (Value.int .i64 l.aD) 2 rfl bu rfl rfl)<|dS (BI rfl gl)<|dS (AG rfl)<|cP<|RK hK14 ?_
 refine bj rfl (fun h24=>?_) (fun h24=>?_)
 ·replace h24:=DT h24
  refine WS fun _ hK15=>rS (AG rfl)<|rS (AG rfl)<|RK hK15<|aE<|Q2 hQ rfl rfl rfl rfl ?_
  first|(rw [show cH l r=0 from if_neg h14]; done)|(rw [h14,show cH l r=2 from by unfold cH; rw [if_pos h14,if_pos h18]]; done)|(rw [h14,show cH l r=0 from by unfold cH; rw [if_pos h14,if_neg h18,if_pos h24]]; done)|(rw [h14,show cH l r=1 from by unfold cH; rw [if_pos h14,if_neg h18,if_neg h24]]; done)
 replace h24:=DF h24
 refine cM<|aK<|KK hK9<|WS fun _ hK16=>rS (AG rfl)<|rS (AG rfl)<|RK hK16<|aE<|Q2 hQ rfl rfl rfl rfl ?_
 first|(rw [show cH l r=0 from if_neg h14]; done)|(rw [h14,show cH l r=2 from by unfold cH; rw [if_pos h14,if_pos h18]]; done)|(rw [h14,show cH l r=0 from by unfold cH; rw [if_pos h14,if_neg h18,if_pos h24]]; done)|(rw [h14,show cH l r=1 from by unfold cH; rw [if_pos h14,if_neg h18,if_neg h24]]; done)
end
section
open Go.RowKit
set_option linter.unusedVariables false
set_option maxRecDepth 100000 in
set_option maxHeartbeats 400000 in
theorem qM (ln:aF) (ri:aS) (e:List Int) (tms:List TM) (e_A:Option Addr) (e_C:Nat) (tb:List Nat) (t_A:Option Addr) (t_C:Nat) (fs:List FM) (bs:List FM) (fb:List Nat) (f_A:Option Addr) (f_C:Nat) (bb:List Nat) (b_A:Option Addr) (b_C:Nat) (gw:Nat) (b:Nat) (g1:Nat) (g2:Nat) (mf:FM) (mb:FM) (hb:b<e.length) (hw:zV (bP ln ri e tms)) (htb:tb.length=tms.length) (hfw:qZ (bP ln ri e tms) fs) (hfb:fb.length=fs.length) (hbw:oZ (bP ln ri e tms) bs) (hbb:bb.length=bs.length) (hsg:ri.ab.n≤1000) (hm1:fs[b]? =some mf) (hm2:bs[b+1]? =some mb):
 CB Tryz.prog 67 [] [(Value.pointer (some ⟨g1,0,none⟩)),(Value.pointer (some ⟨g2,0,none⟩))] [(rd e_A e.length 1 (e.map iC)),(rd t_A tms.length 1 (List.zipWith cl tms tb)),(cZ (aL ib tms tb)),(rd f_A fs.length 1 (List.zipWith cl fs fb)),(cZ (aL fW fs fb)),(rd b_A bs.length 1 (List.zipWith cl bs bb)),(cZ (aL fW bs bb)),(aT gw 117 (aN.cells (aN.mk ln ri (av.mk e_A e.length e_C) (av.mk t_A tms.length t_C) (av.mk f_A fs.length f_C) (av.mk b_A bs.length b_C)))),(aT g1 77 [(Value.pointer (some ⟨gw,0,none⟩))]),(aT g2 3 [(Value.int .i64 ((b:Nat):Int))])] ([]:List (Int×ae)) (fun ys x ys'=> ∃ q,q∈kI (bP ln ri e tms) b mf mb∧x=Dl q∧ys'=ys++[q]) (fun ys=> ∀ q∈kI (bP ln ri e tms) b mf mb,q∈ys):=by
 have hw6:e.length≤6:=hw.n
 have hwt:tms.length=e.length:=hw.times
 have hfl:fs.length=e.length+1:=hfw.len
 have hbl:bs.length=e.length+1:=hbw.len
 refine ye Hl Tryz.func67 rfl rfl fun l J Z A0 w0 Q hY hJ0 hF0 hQ hN=>?_
 try dsimp only
 refine WS fun _ hK1=>yn rfl rfl fun b2=>RK hK1<|WS fun _ hK3=>rS (tS 10 rfl jJ rfl)<|rS (tS 11 rfl bu rfl)<|cX (qB gw b) (ay) rfl fun y4 hy5=>?_
 obtain ⟨x16,x27⟩:=y4
 try dsimp only
 refine RK hK3<|aG<|mh 4 rfl (by exact fun _ h=>h)<|mh 6 rfl (by exact fun _ h=>h)<|mh 8 rfl (by exact fun _ h=>h)<|mh 14 rfl (by exact fun _ h=>h) ?_
 refine mx (L0:=[(0,(Value.func (.yield l) #[] #[])),(1,(Value.pointer (some ⟨g1,0,none⟩))),(2,(Value.pointer (some ⟨g2,0,none⟩))),(3,(Value.pointer (some ⟨b2,0,none⟩)))]) (F:=[(rd e_A e.length 1 (e.map iC)).ro,(rd t_A tms.length 1 (List.zipWith cl tms tb)).ro,(cZ (aL ib tms tb)).ro,(aT gw 117 (aN.cells (aN.mk ln ri (av.mk e_A e.length e_C) (av.mk t_A tms.length t_C) (av.mk f_A fs.length f_C) (av.mk b_A bs.length b_C)))).ro,(aT x16 77 [(Value.pointer (some ⟨gw,0,none⟩))]),(aT x27 3 [(Value.int .i64 ((b:Nat):Int))])]) (fun k (y:(List (Int×ae))×aA)=>(jV (bP ln ri e tms) b mf mb k y.1)∧(J y.1 y.2)∧(Fo A0 w0 y.2)) (fun k y=>[(aT b2 134 [(Value.func (.yield l) #[] #[])]),y.2,(rd e_A e.length 1 (e.map iC)).ro,(rd t_A tms.length 1 (List.zipWith cl tms tb)).ro,(cZ (aL ib tms tb)).ro,(rd f_A fs.length 1 (List.zipWith cl fs fb)).ro,(cZ (aL fW fs fb)).ro,(rd b_A bs.length 1 (List.zipWith cl bs bb)).ro,(cZ (aL fW bs bb)).ro,(aT gw 117 (aN.cells (aN.mk ln ri (av.mk e_A e.length e_C) (av.mk t_A tms.length t_C) (av.mk f_A fs.length f_C) (av.mk b_A bs.length b_C)))).ro,(aT g1 77 [(Value.pointer (some ⟨gw,0,none⟩))]).ro,(aT g2 3 [(Value.int .i64 ((b:Nat):Int))]).ro]) (fun c (z:aA)=>(c= .ret∧(Z z)∧(Fo A0 w0 z))) (fun _ z=>[(aT b2 134 [(Value.func (.yield l) #[] #[])]),z,(rd e_A e.length 1 (e.map iC)).ro,(rd t_A tms.length 1 (List.zipWith cl tms tb)).ro,(cZ (aL ib tms tb)).ro,(rd f_A fs.length 1 (List.zipWith cl fs fb)).ro,(cZ (aL fW fs fb)).ro,(rd b_A bs.length 1 (List.zipWith cl bs bb)).ro,(cZ (aL fW bs bb)).ro,(aT gw 117 (aN.cells (aN.mk ln ri (av.mk e_A e.length e_C) (av.mk t_A tms.length t_C) (av.mk f_A fs.length f_C) (av.mk b_A bs.length b_C)))).ro,(aT g1 77 [(Value.pointer (some ⟨gw,0,none⟩))]).ro,(aT g2 3 [(Value.int .i64 ((b:Nat):Int))]).ro]) [6,7,8,9,10,11,12,13,14,15,16,17] [3,2,1,0,4,5] (([]:List (Int×ae)),A0) rfl rfl (oT ln ri e tms e_A e_C tb t_A t_C f_A fs.length f_C b_A bs.length b_C gw b x16 x27 (by omega) (by omega)) rfl rfl rfl (by exact ⟨jV.nil,hJ0,hF0⟩) (by simp only [List.forall_mem_cons,List.not_mem_nil,false_imp_iff,implies_true,and_true]; exact ⟨⟨_,List.mem_of_getElem? (i:=0) rfl,(fM (ck _))⟩,⟨_,List.mem_of_getElem? (i:=1) rfl,(fM (ck _))⟩,⟨_,List.mem_of_getElem? (i:=2) rfl,(fM (ck _))⟩,⟨_,List.mem_of_getElem? (i:=3) rfl,(fM (ck _))⟩,⟨_,List.mem_of_getElem? (i:=4) rfl,(ck _)⟩,⟨_,List.mem_of_getElem? (i:=5) rfl,(ck _)⟩⟩) (by rintro k x k2 ⟨o,_,rfl,_⟩; rfl) rfl (an.cons rfl<|an.cons rfl<|an.cons rfl<|an.cons rfl<|an.nil _) ?_ ?_ ?_ ?_
 rotate_left 1
 ·rintro r37 k ⟨ys,A⟩ hfin hin38
  obtain ⟨hr0,hr1,hr2⟩:=hin38
  try dsimp only at hr0 hr1 hr2
  try dsimp only
  refine aK ?_
  refine hN _ _ _ (qn 0 rfl rfl<|bB (vs:=[]) trivial fun w hs=>F2 8 rfl (by exact jV.fin hr0 hfin) hr1 hr2 hs)
 ·rintro r39 id A hx40
  simp at hx40
 ·rintro r41 A hx42
  obtain ⟨hc,hq0,hq1⟩:=hx42
  try dsimp only
  refine hQ _ _ _ (qn 0 rfl rfl<|bB (vs:=[]) trivial fun w hs=>Bz 8 rfl hq0 hq1 hs)
 rintro k x k2 ⟨ys,A⟩ lr ra rb S w1 K8 Qr9 hsz hx hin10 hK8 hQr9 xQr9 yQr9
 obtain ⟨o,ho,rfl,rfl⟩:=hx
 obtain ⟨hr0,hr1,hr2⟩:=hin10
 try dsimp only at hr0 hr1 hr2
 try dsimp only
 refine WS fun _ hK11=>rS (AG rfl)<|RK hK11<|ar<|AL rfl dF fun b12=>fO rfl cK rfl<|aP<|e7 (fun _ _ h=>h) (fun w hs=>St.br [1,0,2,3,4,5,6,7,8,9,10,11,12,13] rfl rfl hs) ?_
 refine aO (hK8 _ _ ?_)
 refine aG<|aq fun _ hK13=>dm cG 7 (by kernel_rfl)<|dS (tS 12 rfl jJ rfl)<|dS (SX (cx rfl rfl) rfl rfl)<|dS (FA 12 rfl kL rfl)<|dS (ny (Value.slice f_A fs.length f_C) 11 rfl kX rfl rfl)<|dS (tS 13 rfl bu rfl) ?_
 obtain ⟨ga,hga⟩: ∃ y_,fb[b]? =some y_:=⟨fb[b]'(by omega),List.getElem?_eq_getElem _⟩
 have hgam:(List.zipWith cl fs fb)[b]? =some (cl mf ga):=gM hm1 hga
 refine dS (IA b rfl (aI 7 rfl) lI (by decide) (by omega) (by omega))<|dS (iX b 0 (Value.map (some ga)) rfl nt (aI 7 rfl) hgam rfl (by decide) rfl)<|cP<|mU (kV:=cm) (m:=bG iV mf) 8 rfl rfl l5 rfl ⟨⟨(kD cm ga (bG iV mf)),(dc hm1 hga (by simp [fW])),rfl⟩,fun h=>h⟩ (show jS _ (kD cm ga (bG iV mf)).holds from eM 8 rfl (dc hm1 hga (by simp [fW]))) rfl fun r14=>?_
 try dsimp only
 refine RK hK13<|aG ?_
 have hinit:(∀ p∈mf,p∈mf)∧(k8 (bP ln ri e tms) b mf mb o mf ys)∧(jV (bP ln ri e tms) b mf mb k ys)∧(J ys A)∧(Fo A0 w0 A):=by exact ⟨fun p hp=>hp,k8.start,hr0,hr1,hr2⟩
 refine cq (ι:={z:FM×(List (Int×ae))×aA // (∀ p∈z.1,p∈mf)∧(k8 (bP ln ri e tms) b mf mb o z.1 z.2.1)∧(jV (bP ln ri e tms) b mf mb k z.2.1)∧(J z.2.1 z.2.2)∧(Fo A0 w0 z.2.2)}) (fun z=>[(0,(Value.func (.yield l) #[] #[])),(1,(Value.pointer (some ⟨g1,0,none⟩))),(2,(Value.pointer (some ⟨g2,0,none⟩))),(3,(Value.pointer (some ⟨b2,0,none⟩))),(4,(Value.int .i64 o.1)),(5,(Value.pointer (some ⟨b12,0,none⟩))),(23,(Value.pointer (some ⟨r14,0,none⟩)))]) (fun z=>[(pv cm r14 ga (bG iV mf) (bG iV z.1.1) none),(iM lr (.loop rb)),(aT b12 47 (ae.cells o.2)),(aT b2 134 [(Value.func (.yield l) #[] #[])]),z.1.2.2,(rd e_A e.length 1 (e.map iC)).ro,(rd t_A tms.length 1 (List.zipWith cl tms tb)).ro,(cZ (aL ib tms tb)).ro,(rd f_A fs.length 1 (List.zipWith cl fs fb)).ro,(cZ (aL fW fs fb)).ro,(rd b_A bs.length 1 (List.zipWith cl bs bb)).ro,(cZ (aL fW bs bb)).ro,(aT gw 117 (aN.cells (aN.mk ln ri (av.mk e_A e.length e_C) (av.mk t_A tms.length t_C) (av.mk f_A fs.length f_C) (av.mk b_A bs.length b_C)))).ro,(aT g1 77 [(Value.pointer (some ⟨gw,0,none⟩))]).ro,(aT g2 3 [(Value.int .i64 ((b:Nat):Int))]).ro]) (fun z=>z.1.1.length) ⟨(mf,ys,A),hinit⟩ (an.cons rfl<|an.cons rfl<|an.cons rfl<|an.cons rfl<|an.cons rfl<|an.cons rfl<|an.cons rfl<|an.nil _) (fun w hs=>St.br [0,1,2,3,4,5,6,7,8,9,10,11,12,13,14] rfl rfl hs) ?_
 clear hinit
 rintro ⟨⟨left,ys,A⟩,⟨hl5_0,hl5_1,hl5_2,hl5_3,hl5_4⟩⟩ J15 hJ15
 try dsimp only at hl5_0 hl5_1 hl5_2 hl5_3 hl5_4
 try dsimp only
 refine WS fun _ hK16=>?_
 refine lH l4.inj (f:=iV) 0 rfl rfl rfl rfl (fun h24=>?_) (fun t v hm hn=>?_)
 ·refine rS (EX rfl) ?_
  refine RK hK16<|aq fun _ hK17=>bV rfl<|bE<|ai<|ai<|aH<|aK ?_
  exact hQr9 (ys,A) _ _ (by exact ⟨jV.next hl5_2 hl5_1 h24,hl5_3,hl5_4⟩) (fun w hs=>St.br [1,3,4,5,6,7,8,9,10,11,12,13,14] rfl rfl hs)
 try dsimp only
 refine rS (EX rfl)<|RK hK16<|aq fun _ hK18=>aX rfl<|WK hK18<|aG<|WS fun _ hK19=>rS (SX (lL 0 rfl rfl rfl) rfl rfl)<|rS (EX rfl)<|rS (EX rfl) ?_
 refine AL rfl pB fun b20=>fO rfl oO rfl<|rS (AG rfl)<|RK hK19<|aq fun _ hK21=>dm cG 8 (by kernel_rfl)<|dS (tS 14 rfl jJ rfl)<|dS (SX (cx rfl rfl) rfl rfl)<|dS (FA 13 rfl mI rfl)<|dS (ny (Value.slice b_A bs.length b_C) 13 rfl kX rfl rfl) ?_
 refine dS (tS 15 rfl bu rfl)<|dS (BI rfl (aZ ⟨by omega,by omega⟩)) ?_
 obtain ⟨gb,hgb⟩: ∃ y_,bb[(b+1)]? =some y_:=⟨bb[(b+1)]'(by omega),List.getElem?_eq_getElem _⟩
 have hgbm:(List.zipWith cl bs bb)[(b+1)]? =some (cl mb gb):=gM hm2 hgb
 refine dS (IA (b+1) rfl (aI 11 rfl) lI (by decide) (by omega) (by omega))<|dS (iX (b+1) 0 (Value.map (some gb)) rfl nt (aI 11 rfl) hgbm rfl (by decide) rfl)<|cP<|mU (kV:=cm) (m:=bG iV mb) 12 rfl rfl l5 rfl ⟨⟨(kD cm gb (bG iV mb)),(dc hm2 hgb (by simp [fW])),rfl⟩,fun h=>h⟩ (show jS _ (kD cm gb (bG iV mb)).holds from eM 12 rfl (dc hm2 hgb (by simp [fW]))) rfl fun r22=>?_
 try dsimp only
 refine RK hK21<|aG ?_
 have hinit:(∀ p∈mb,p∈mb)∧(lp (bP ln ri e tms) b mb o (t,v) mb ys)∧(k8 (bP ln ri e tms) b mf mb o left ys)∧(jV (bP ln ri e tms) b mf mb k ys)∧(J ys A)∧(Fo A0 w0 A):=by exact ⟨fun p hp=>hp,lp.start,hl5_1,hl5_2,hl5_3,hl5_4⟩
 refine cq (ι:={z:FM×(List (Int×ae))×aA // (∀ p∈z.1,p∈mb)∧(lp (bP ln ri e tms) b mb o (t,v) z.1 z.2.1)∧(k8 (bP ln ri e tms) b mf mb o left z.2.1)∧(jV (bP ln ri e tms) b mf mb k z.2.1)∧(J z.2.1 z.2.2)∧(Fo A0 w0 z.2.2)}) (fun z=>[(0,(Value.func (.yield l) #[] #[])),(1,(Value.pointer (some ⟨g1,0,none⟩))),(2,(Value.pointer (some ⟨g2,0,none⟩))),(3,(Value.pointer (some ⟨b2,0,none⟩))),(4,(Value.int .i64 o.1)),(5,(Value.pointer (some ⟨b12,0,none⟩))),(6,(Value.pointer (some ⟨b20,0,none⟩))),(7,(Value.int .i64 v)),(23,(Value.pointer (some ⟨r14,0,none⟩))),(37,(Value.pointer (some ⟨r22,0,none⟩)))]) (fun z=>[(pv cm r22 gb (bG iV mb) (bG iV z.1.1) none),(aT b20 124 (ao.cells t)),(pv cm r14 ga (bG iV mf) (bG iV (cV left t)) (some (t,(Value.int .i64 v)))),(iM lr (.loop rb)),(aT b12 47 (ae.cells o.2)),(aT b2 134 [(Value.func (.yield l) #[] #[])]),z.1.2.2,(rd e_A e.length 1 (e.map iC)).ro,(rd t_A tms.length 1 (List.zipWith cl tms tb)).ro,(cZ (aL ib tms tb)).ro,(rd f_A fs.length 1 (List.zipWith cl fs fb)).ro,(cZ (aL fW fs fb)).ro,(rd b_A bs.length 1 (List.zipWith cl bs bb)).ro,(cZ (aL fW bs bb)).ro,(aT gw 117 (aN.cells (aN.mk ln ri (av.mk e_A e.length e_C) (av.mk t_A tms.length t_C) (av.mk f_A fs.length f_C) (av.mk b_A bs.length b_C)))).ro,(aT g1 77 [(Value.pointer (some ⟨gw,0,none⟩))]).ro,(aT g2 3 [(Value.int .i64 ((b:Nat):Int))]).ro]) (fun z=>z.1.1.length) ⟨(mb,ys,A),hinit⟩ (an.cons rfl<|an.cons rfl<|an.cons rfl<|an.cons rfl<|an.cons rfl<|an.cons rfl<|an.cons rfl<|an.cons rfl<|an.cons rfl<|an.cons rfl<|an.nil _) (fun w hs=>St.br [0,1,2,3,4,5,6,7,8,9,10,11,12,13,14,15,16] rfl rfl hs) ?_
 clear hinit
 rintro ⟨⟨l2,ys2,A2⟩,⟨hl8_0,hl8_1,hl8_2,hl8_3,hl8_4,hl8_5⟩⟩ J23 hJ23
 try dsimp only at hl8_0 hl8_1 hl8_2 hl8_3 hl8_4 hl8_5
 try dsimp only
 refine WS fun _ hK24=>?_
 refine lH l4.inj (f:=iV) 0 rfl rfl rfl rfl (fun h38=>?_) (fun u z hmm hnn=>?_)
 ·refine rS (EX rfl) ?_
  refine RK hK24<|aq fun _ hK25=>bV rfl<|bE<|ai<|ai<|aH<|aK<|n7 (C':=[(pv cm r22 gb (bG iV mb) (bG iV l2) none),(aT b20 124 (ao.cells t)),(pv cm r14 ga (bG iV mf) (bG iV (cV left t)) none),(iM lr (.loop rb)),(aT b12 47 (ae.cells o.2)),(aT b2 134 [(Value.func (.yield l) #[] #[])]),A2,(rd e_A e.length 1 (e.map iC)).ro,(rd t_A tms.length 1 (List.zipWith cl tms tb)).ro,(cZ (aL ib tms tb)).ro,(rd f_A fs.length 1 (List.zipWith cl fs fb)).ro,(cZ (aL fW fs fb)).ro,(rd b_A bs.length 1 (List.zipWith cl bs bb)).ro,(cZ (aL fW bs bb)).ro,(aT gw 117 (aN.cells (aN.mk ln ri (av.mk e_A e.length e_C) (av.mk t_A tms.length t_C) (av.mk f_A fs.length f_C) (av.mk b_A bs.length b_C)))).ro,(aT g1 77 [(Value.pointer (some ⟨gw,0,none⟩))]).ro,(aT g2 3 [(Value.int .i64 ((b:Nat):Int))]).ro]) 2 rfl mm rfl ?_
  refine aO (hJ15 ⟨((cV left t),ys2,A2),⟨kB hl5_0,k8.next hn hm hl8_2 hl8_1 h38,hl8_3,hl8_4,hl8_5⟩⟩ _ _ _ rfl (jG hm) (an.cons rfl<|an.cons rfl<|an.cons rfl<|an.cons rfl<|an.cons rfl<|an.cons rfl<|an.cons rfl<|an.nil _) (fun w hs=>St.br [2,3,4,5,6,7,8,9,10,11,12,13,14,15,16] rfl rfl hs))
 try dsimp only
 refine rS (EX rfl)<|RK hK24<|aq fun _ hK26=>aX rfl<|WK hK26<|aG<|WS fun _ hK27=>rS (SX (lL 0 rfl rfl rfl) rfl rfl)<|rS (EX rfl)<|rS (EX rfl) ?_
 refine AL rfl pB fun b28=>fO rfl oO rfl<|rS (AG rfl)<|RK hK27<|aq fun _ hK29=>er cG [0,1,2,3,4,5,6,7,8,9,10,11,12,13,14,15,16] [17,18] [false,false,false,false,false,false,false,false,false,false,false,false,false,false,false,false,false] [false,false] [(aT b28 124 (ao.cells u)),(pv cm r22 gb (bG iV mb) (bG iV (cV l2 u)) (some (u,(Value.int .i64 z)))),(aT b20 124 (ao.cells t)),(pv cm r14 ga (bG iV mf) (bG iV (cV left t)) (some (t,(Value.int .i64 v)))),(iM lr (.loop rb)),(aT b12 47 (ae.cells o.2)),(aT b2 134 [(Value.func (.yield l) #[] #[])]),A2,(rd e_A e.length 1 (e.map iC)).ro,(rd t_A tms.length 1 (List.zipWith cl tms tb)).ro,(cZ (aL ib tms tb)).ro,(rd f_A fs.length 1 (List.zipWith cl fs fb)).ro,(cZ (aL fW fs fb)).ro,(rd b_A bs.length 1 (List.zipWith cl bs bb)).ro,(cZ (aL fW bs bb)).ro,(aT gw 117 (aN.cells (aN.mk ln ri (av.mk e_A e.length e_C) (av.mk t_A tms.length t_C) (av.mk f_A fs.length f_C) (av.mk b_A bs.length b_C)))).ro,(aT g1 77 [(Value.pointer (some ⟨gw,0,none⟩))]).ro,(aT g2 3 [(Value.int .i64 ((b:Nat):Int))]).ro] [] (by kernel_rfl) (fun w hs=>St.br [0,1,2,3,4,5,6,7,8,9,10,11,12,13,14,15,16,17] rfl rfl hs) (fun w hs=>St.br [] rfl rfl hs)<|eS rfl (MV rfl)<|eS rfl (tS 16 rfl jJ rfl)<|eS rfl (SX (cx rfl rfl) rfl rfl)<|eS rfl (FA 10 rfl m0 rfl) ?_
 refine eS rfl (ny (Value.slice e_A e.length e_C) 15 rfl nZ rfl rfl)<|eS rfl (tS 17 rfl bu rfl) ?_
 obtain ⟨y,hy⟩: ∃ y_,e[b]? =some y_:=⟨e[b]'(by omega),List.getElem?_eq_getElem _⟩
 have hym:(e.map iC)[b]? =some (iC y):=by rw [List.getElem?_map,hy]; rfl
 refine eS rfl (IA b rfl (aI 8 rfl) dY (by decide) (by omega) (by omega))<|eS rfl (iX b 0 (Value.int .i64 y) rfl bu (aI 8 rfl) hym rfl (by decide) rfl) ?_
 have hlb:=hw.least y (List.mem_of_getElem? hy)
 have hfp:=Ar hw _ _ (hfw.mem hm1 (hl5_0 _ hm))
 have hbp:=AT hw (hbw.mem hm2 (hl8_0 _ hmm))
 have ho1:=qw o.1
 have hob:=hw.opt ho
 dsimp only at hfp hbp
 refine eS rfl (BI rfl (aZ ⟨by omega,by omega⟩))<|eS rfl (FA 0 rfl bU rfl)<|eS rfl (L1 (Value.int .i64 o.2.Lo) 5 rfl bu rfl rfl)<|eS rfl (MX rfl)<|eS rfl (MV rfl)<|eS rfl (FA 1 rfl cd rfl)<|eS rfl (L1 (Value.int .i64 o.2.Hi) 5 rfl bu rfl rfl)<|eS rfl (MN rfl)<|eS rfl (SX (bp (xs:=[(0,.tmp 54),(1,.tmp 58)]) (cs:=(ae.cells (ae.mk (max (v+y) o.2.Lo) (min z o.2.Hi)))) rfl rfl (bq fI rfl)) rfl rfl)<|fw rfl ?_
 refine cL rfl fun T30 hT30=>AL rfl dF fun b31=>RN hT30 [1,2,3,4,5,6,7,8,9,10,11,12,13,14,15,16,17,18] rfl rfl<|cL rfl fun T32 hT32=>fO rfl cK rfl<|RN hT32 [1,2,3,4,5,6,7,8,9,10,11,12,13,14,15,16,17,18] rfl rfl<|g_ rfl<|KK hK29<|aq fun _ hK33=>dm cG 19 (by kernel_rfl) ?_
 refine dS (FA 0 rfl bU rfl)<|dS (L1 (Value.int .i64 (max (v+y) o.2.Lo)) 0 rfl bu rfl rfl)<|dS (FA 1 rfl cd rfl)<|dS (L1 (Value.int .i64 (min z o.2.Hi)) 0 rfl bu rfl rfl)<|dS (BI rfl gl)<|dS (MV rfl) ?_
 refine e9 (t:=65) rfl (fun h65=>?_) (fun h65=>?_)
 rotate_left 1
 ·replace h65:=DF h65
  refine dS (OX rfl)<|dS (OX rfl)<|dS (OX rfl)<|dS (OX rfl)<|dS (OX rfl)<|dS (OX rfl)<|dS (OX rfl)<|dS (OX rfl)<|dS (PK rfl)<|dS (MV rfl) ?_
  refine dS (OX rfl)<|dS (OX rfl)<|dS (OX rfl)<|cP<|rS (OX rfl)<|rS (OX rfl)<|rS (PK rfl)<|RK hK33<|bV rfl<|cM ?_
  refine aK<|n7 (C':=[(aT b31 47 (ae.cells (ae.mk (max (v+y) o.2.Lo) (min z o.2.Hi)))),(aT b28 124 (ao.cells u)),(pv cm r22 gb (bG iV mb) (bG iV (cV l2 u)) none),(aT b20 124 (ao.cells t)),(pv cm r14 ga (bG iV mf) (bG iV (cV left t)) (some (t,(Value.int .i64 v)))),(iM lr (.loop rb)),(aT b12 47 (ae.cells o.2)),(aT b2 134 [(Value.func (.yield l) #[] #[])]),A2,(rd e_A e.length 1 (e.map iC)).ro,(rd t_A tms.length 1 (List.zipWith cl tms tb)).ro,(cZ (aL ib tms tb)).ro,(rd f_A fs.length 1 (List.zipWith cl fs fb)).ro,(cZ (aL fW fs fb)).ro,(rd b_A bs.length 1 (List.zipWith cl bs bb)).ro,(cZ (aL fW bs bb)).ro,(aT gw 117 (aN.cells (aN.mk ln ri (av.mk e_A e.length e_C) (av.mk t_A tms.length t_C) (av.mk f_A fs.length f_C) (av.mk b_A bs.length b_C)))).ro,(aT g1 77 [(Value.pointer (some ⟨gw,0,none⟩))]).ro,(aT g2 3 [(Value.int .i64 ((b:Nat):Int))]).ro]) 2 rfl mm rfl ?_
  refine aO (hJ23 ⟨((cV l2 u),ys2,A2),⟨kB hl8_0,lp.skip hnn hmm hl8_1 (by first|exact ug hy h65|exact uz h75),hl8_2,hl8_3,hl8_4,hl8_5⟩⟩ _ _ _ rfl (jG hmm) (an.cons rfl<|an.cons rfl<|an.cons rfl<|an.cons rfl<|an.cons rfl<|an.cons rfl<|an.cons rfl<|an.cons rfl<|an.cons rfl<|an.cons rfl<|an.nil _) (fun w hs=>St.br [2,3,4,5,6,7,8,9,10,11,12,13,14,15,16,17,18] rfl rfl hs))
 replace h65:=DT h65
 refine dS (tS 17 rfl jJ rfl)<|dS (LW 3 rfl k6 rfl rfl)<|dS (LW 1 rfl k6 rfl rfl) ?_
 have hpu:(0≤(cO t u).right∧(cO t u).right≤1000)∧0≤(cO t u).de∧(cO t u).de≤1000:=by simp only [cO]; omega
 have hpa:(0≤(cO (cO t u) (dQ o.1)).right∧(cO (cO t u) (dQ o.1)).right≤1000)∧0≤(cO (cO t u) (dQ o.1)).de∧(cO (cO t u) (dQ o.1)).de≤1000:=by simp only [cO]; omega
 refine dS (CL (rN t u (by first|assumption|omega|(simp; done)|(simp; omega)) (by first|assumption|omega|(simp; done)|(simp; omega))) (ay) rfl)<|dS (MV rfl)<|dS (CL (Bx o.1) (ay) rfl)<|dS (CL (rN (cO t u) (dQ o.1) (by first|assumption|omega|(simp; done)|(simp; omega)) (by first|assumption|omega|(simp; done)|(simp; omega))) (ay) rfl)<|dS (CL (Ds ln ri e tms e_A e_C tb t_A t_C fs bs fb f_A f_C bb b_A b_C gw (cO (cO t u) (dQ o.1)) (by first|assumption|omega|(simp; done)|(simp; omega)) hsg) (ax 9 rfl rfl<|ax 10 rfl rfl<|ax 11 rfl rfl<|ax 12 rfl rfl<|ax 13 rfl rfl<|ax 14 rfl rfl<|ax 15 rfl rfl<|ax 16 rfl rfl<|ay) rfl)<|dS (PK rfl)<|dS (MV rfl) ?_
 refine e9 (t:=75) rfl (fun h75=>?_) (fun h75=>?_)
 rotate_left 1
 ·refine dS (OX rfl) ?_
  refine dS (OX rfl)<|dS (OX rfl)<|cP<|rS (OX rfl)<|rS (OX rfl)<|rS (PK rfl)<|RK hK33<|bV rfl<|cM<|aK ?_
  refine n7 (C':=[(aT b31 47 (ae.cells (ae.mk (max (v+y) o.2.Lo) (min z o.2.Hi)))),(aT b28 124 (ao.cells u)),(pv cm r22 gb (bG iV mb) (bG iV (cV l2 u)) none),(aT b20 124 (ao.cells t)),(pv cm r14 ga (bG iV mf) (bG iV (cV left t)) (some (t,(Value.int .i64 v)))),(iM lr (.loop rb)),(aT b12 47 (ae.cells o.2)),(aT b2 134 [(Value.func (.yield l) #[] #[])]),A2,(rd e_A e.length 1 (e.map iC)).ro,(rd t_A tms.length 1 (List.zipWith cl tms tb)).ro,(cZ (aL ib tms tb)).ro,(rd f_A fs.length 1 (List.zipWith cl fs fb)).ro,(cZ (aL fW fs fb)).ro,(rd b_A bs.length 1 (List.zipWith cl bs bb)).ro,(cZ (aL fW bs bb)).ro,(aT gw 117 (aN.cells (aN.mk ln ri (av.mk e_A e.length e_C) (av.mk t_A tms.length t_C) (av.mk f_A fs.length f_C) (av.mk b_A bs.length b_C)))).ro,(aT g1 77 [(Value.pointer (some ⟨gw,0,none⟩))]).ro,(aT g2 3 [(Value.int .i64 ((b:Nat):Int))]).ro]) 2 rfl mm rfl ?_
  refine aO (hJ23 ⟨((cV l2 u),ys2,A2),⟨kB hl8_0,lp.skip hnn hmm hl8_1 (by first|exact ug hy h65|exact uz h75),hl8_2,hl8_3,hl8_4,hl8_5⟩⟩ _ _ _ rfl (jG hmm) (an.cons rfl<|an.cons rfl<|an.cons rfl<|an.cons rfl<|an.cons rfl<|an.cons rfl<|an.cons rfl<|an.cons rfl<|an.cons rfl<|an.cons rfl<|an.nil _) (fun w hs=>St.br [2,3,4,5,6,7,8,9,10,11,12,13,14,15,16,17,18] rfl rfl hs))
 refine dS (j8 7 rfl F8 rfl)<|dS (MV rfl)<|dS (LW 0 rfl cp rfl rfl)<|cP ?_
 refine sw (k:=ys2) (k':=(ys2++[(o.1,(ae.mk (max (v+y) o.2.Lo) (min z o.2.Hi)))])) 8 (by first|exact hsz|exact Nat.le_refl _) hY hl8_4 hl8_5 rfl rfl rfl (by exact ⟨(o.1,_),gD.2 ⟨o,ho,(t,v),hl5_0 _ hm,(u,z),hl8_0 _ hmm,(v5 hy h65 h75)⟩,rfl,rfl⟩) rfl rfl (fun B34 hJ35 hF36=>?_) (fun B34 hJ35 hF36=>?_)
 rotate_left 1
 ·refine rS (NT rfl) ?_
  refine rS (PK rfl)<|RK hK33<|aX rfl<|aE ?_
  exact yQr9 B34 _ _ (by exact ⟨rfl,hJ35,hF36⟩) (fun w hs=>St.br [5,7,8,9,10,11,12,13,14,15,16,17,18] rfl rfl hs)
 refine rS (NT rfl)<|rS (PK rfl)<|RK hK33<|bV rfl<|cM<|aK<|n7 (C':=[(aT b31 47 (ae.cells (ae.mk (max (v+y) o.2.Lo) (min z o.2.Hi)))),(aT b28 124 (ao.cells u)),(pv cm r22 gb (bG iV mb) (bG iV (cV l2 u)) none),(aT b20 124 (ao.cells t)),(pv cm r14 ga (bG iV mf) (bG iV (cV left t)) (some (t,(Value.int .i64 v)))),(iM lr (.loop rb)),(aT b12 47 (ae.cells o.2)),(aT b2 134 [(Value.func (.yield l) #[] #[])]),B34,(rd e_A e.length 1 (e.map iC)).ro,(rd t_A tms.length 1 (List.zipWith cl tms tb)).ro,(cZ (aL ib tms tb)).ro,(rd f_A fs.length 1 (List.zipWith cl fs fb)).ro,(cZ (aL fW fs fb)).ro,(rd b_A bs.length 1 (List.zipWith cl bs bb)).ro,(cZ (aL fW bs bb)).ro,(aT gw 117 (aN.cells (aN.mk ln ri (av.mk e_A e.length e_C) (av.mk t_A tms.length t_C) (av.mk f_A fs.length f_C) (av.mk b_A bs.length b_C)))).ro,(aT g1 77 [(Value.pointer (some ⟨gw,0,none⟩))]).ro,(aT g2 3 [(Value.int .i64 ((b:Nat):Int))]).ro]) 2 rfl mm rfl ?_
 refine aO (hJ23 ⟨((cV l2 u),(ys2++[(o.1,(ae.mk (max (v+y) o.2.Lo) (min z o.2.Hi)))]),B34),⟨kB hl8_0,lp.I_ hnn hmm hl8_1 (v5 hy h65 h75),hl8_2.app,hl8_3.app,hJ35,hF36⟩⟩ _ _ _ rfl (jG hmm) (an.cons rfl<|an.cons rfl<|an.cons rfl<|an.cons rfl<|an.cons rfl<|an.cons rfl<|an.cons rfl<|an.cons rfl<|an.cons rfl<|an.cons rfl<|an.nil _) (fun w hs=>St.br [2,3,4,5,6,7,8,9,10,11,12,13,14,15,16,17,18] rfl rfl hs))
end
section
open Go.RowKit
set_option linter.unusedVariables false
set_option maxRecDepth 100000 in
set_option maxHeartbeats 400000 in
theorem Cf (l:aU) (kA:Option Addr) (kC:Nat) (az:List RA) (cA:Option Addr) (cC:Nat) (bA:Option Addr) (bC:Nat) (r:bK) (sgA:Option Addr) (sgC:Nat) (f:Value) (X:aA) (me:Int) (gm:Nat) (hf:Ap Tryz.prog f [] [X] (.int .i64 me)) (hin:dC l az) (hsl:r.ab.length≤1000000):
 rp Tryz.prog 33 [(Value.agg (aF.cells (aF.mk (au.mk (av.mk kA l.al.length kC)) l.bw (av.mk cA l.ag.length cC) (av.mk bA l.aa.length bC) l.aD l.aV l.aJ)).toArray),(Value.agg (aS.cells (aS.mk r.Start r.cI (av.mk sgA r.ab.length sgC))).toArray),(Value.slice (some ⟨gm,0,none⟩) 1 1)] [(rd kA l.al.length 9 (l.al.map ah.cells)),(rd cA l.ag.length 2 (List.zipWith aj.cells l.ag az)),(cZ (aL aj.dX l.ag az)),(rd bA l.aa.length 4 (l.aa.map aY.cells)),(rd sgA r.ab.length 2 (r.ab.map aw.cells)),X,(aT gm 88 [f])] (fun (x:Bool×Int×Nat×(Option Addr)×Nat×(Option Addr)×Nat×(List Nat)×(List FM)×(List Nat)×(Option Addr)×Nat×(List FM)×(List Nat)×(Option Addr)×Nat)=>bif x.1 then (Value.tuple [(Value.pointer (some ⟨x.2.2.1,0,none⟩)),(Value.int .i64 0)].toArray) else (Value.tuple [(Value.pointer none),(Value.int .i64 x.2.1)].toArray)) (fun (x:Bool×Int×Nat×(Option Addr)×Nat×(Option Addr)×Nat×(List Nat)×(List FM)×(List Nat)×(Option Addr)×Nat×(List FM)×(List Nat)×(Option Addr)×Nat)=>(x.1=true→(cr l r me=0∧qZ (aW l r) x.2.2.2.2.2.2.2.2.1∧oZ (aW l r) x.2.2.2.2.2.2.2.2.2.2.2.2.1∧x.2.2.2.2.2.2.2.2.2.1.length=x.2.2.2.2.2.2.2.2.1.length∧x.2.2.2.2.2.2.2.2.2.2.2.2.2.1.length=x.2.2.2.2.2.2.2.2.2.2.2.2.1.length∧x.2.2.2.2.2.2.2.1.length=(bo l r.ab r.ab.length).length))∧(x.1=false→(x.2.1=cr l r me∧ ¬ cr l r me=0))) (fun (x:Bool×Int×Nat×(Option Addr)×Nat×(Option Addr)×Nat×(List Nat)×(List FM)×(List Nat)×(Option Addr)×Nat×(List FM)×(List Nat)×(Option Addr)×Nat)=>bif x.1 then [(aT x.2.2.1 117 (aN.cells (aN.mk (aF.mk (au.mk (av.mk kA l.al.length kC)) l.bw (av.mk cA l.ag.length cC) (av.mk bA l.aa.length bC) l.aD l.aV l.aJ) (aS.mk r.Start r.cI (av.mk sgA r.ab.length sgC)) (av.mk x.2.2.2.1 ((aR l l.aa.length).length) x.2.2.2.2.1) (av.mk x.2.2.2.2.2.1 ((bo l r.ab r.ab.length).length) x.2.2.2.2.2.2.1) (av.mk x.2.2.2.2.2.2.2.2.2.2.1 x.2.2.2.2.2.2.2.2.1.length x.2.2.2.2.2.2.2.2.2.2.2.1) (av.mk x.2.2.2.2.2.2.2.2.2.2.2.2.2.2.1 x.2.2.2.2.2.2.2.2.2.2.2.2.1.length x.2.2.2.2.2.2.2.2.2.2.2.2.2.2.2)))),(own x.2.2.2.1 x.2.2.2.2.1 3 1 ((aR l l.aa.length).map iC)),(own x.2.2.2.2.2.1 x.2.2.2.2.2.2.1 120 1 (List.zipWith cl (bo l r.ab r.ab.length) x.2.2.2.2.2.2.2.1)),(a5 (aL ib (bo l r.ab r.ab.length) x.2.2.2.2.2.2.2.1)),(own x.2.2.2.2.2.2.2.2.2.2.1 x.2.2.2.2.2.2.2.2.2.2.2.1 122 1 (List.zipWith cl x.2.2.2.2.2.2.2.2.1 x.2.2.2.2.2.2.2.2.2.1)),(a5 (aL fW x.2.2.2.2.2.2.2.2.1 x.2.2.2.2.2.2.2.2.2.1)),(own x.2.2.2.2.2.2.2.2.2.2.2.2.2.2.1 x.2.2.2.2.2.2.2.2.2.2.2.2.2.2.2 122 1 (List.zipWith cl x.2.2.2.2.2.2.2.2.2.2.2.2.1 x.2.2.2.2.2.2.2.2.2.2.2.2.2.1)),(a5 (aL fW x.2.2.2.2.2.2.2.2.2.2.2.2.1 x.2.2.2.2.2.2.2.2.2.2.2.2.2.1))] else []):=by
 have htk:=hin.nm
 have hck:=hin.nv
 have has:=hin.m_
 have hbm:=hin.nd
 have hsd:=hin.side
 refine gp Fh Tryz.func33 rfl rfl fun w0 Q hQ hN=>?_
 try dsimp only
 refine WS fun _ hK1=>fy rfl fun b2=>fy rfl fun b3=>rS (AG rfl)<|rS (AG rfl)<|RK hK1<|aq fun _ hK4=>WS fun _ hK5=>rS (LW 1 rfl eO rfl rfl)<|rS (CL (vE l kA kC az cA cC bA bC hin) (ax 2 rfl rfl<|ax 3 rfl rfl<|ax 4 rfl rfl<|ax 5 rfl rfl<|ay) rfl) ?_
 refine rS (AG rfl)<|RK hK5<|WS fun _ hK6=>rS (MV rfl)<|rS (BI rfl dB)<|RK hK6 ?_
 refine bj rfl (fun h21=>?_) (fun h21=>?_)
 ·replace h21:=XT h21
  refine WS fun _ hK7=>rS (MV rfl)<|rS (AG rfl)<|rS (AG rfl)<|RK hK7<|aE ?_
  refine hQ _ _ _ (bB (vs:=[(Value.pointer none),(Value.int .i64 (dk l))]) ⟨rfl,rfl,trivial⟩ fun w hs=>fB (false,(dk l),0,none,0,none,0,[],[],[],none,0,[],[],none,0) [] ?_ ?_ rfl rfl (by first|rfl|(show List.all _ _=true; simp only [cond_true,List.all_cons,List.all_nil,iF,jg,Bool.and_true]; rfl)) hs)
  ·rfl
  ·refine ⟨fun q=>Bool.noConfusion (show false=true from q),fun _=>?_⟩; first|(have e:=bZ (r:=r) (me:=me) h21; exact ⟨e.symm,fun q=>h21 (e.symm.trans q)⟩)|(have e:=bk (me:=me) h10 (fun q:cN l r=>by have q1:=q.time; have q2:=q.len; omega); exact ⟨e.symm,fun q=>absurd (e.symm.trans q) (by decide)⟩)|(have e:=bk (me:=me) h10 (fG hx (by unfold eA eN; omega)); exact ⟨e.symm,fun q=>absurd (e.symm.trans q) (by decide)⟩)|(have e:=dE h10 hro h156; exact ⟨e.symm,fun q=>h156 (e.symm.trans q)⟩)|(have e:=c_ (me:=me) h10 hro (by first|rfl|exact h156) (show eb (aW l r)=[] from List.eq_nil_of_length_eq_zero (Int.natCast_eq_zero.1 h164)); exact ⟨e.symm,fun q=>absurd (e.symm.trans q) (by decide)⟩)
 replace h21:=XF h21
 refine WK hK4<|aq fun _ hK8=>WS fun _ hK9=>?_
 have h10:dk l=0:=h21
 obtain ⟨htr,hok⟩:=di h10
 have hhd:=hok.head
 unfold cS at hhd
 refine rS (FA 0 rfl jr rfl)<|rS (L1 (Value.int .i64 r.Start) 0 rfl bu rfl rfl)<|fp (xs:=[.tmp 24]) (cs:=[(Value.int .i64 r.Start)]) rfl dY lK rfl rfl rfl rfl (by simp [Value.cells]) rfl rfl fun b10=>rS (CL (eH.eq (fu 0 86400000 ([r.Start]) (some ⟨b10,0,none⟩) 1 (by first|assumption|omega|(simp; done)|(simp; omega))) dq) (aM (bf 0 rfl rfl (by simp [bY]) rfl)<|ay) rfl)<|rS (NT rfl)<|rS (MV rfl) ?_
 refine bH (t:=28) rfl (fun h28=>?_) (fun h28=>?_)
 ·replace h28:=XT h28
  refine rS (OX rfl)<|rS (OX rfl)<|rS (OX rfl)<|rS (OX rfl)<|rS (OX rfl)<|rS (OX rfl)<|rS (OX rfl)<|rS (PK rfl)<|rS (MV rfl)<|rS (OX rfl) ?_
  refine rS (OX rfl)<|rS (OX rfl)<|rS (OX rfl)<|rS (PK rfl)<|RK hK9<|aX rfl<|WS fun _ hK11=>rS (AG rfl)<|rS (AG rfl)<|RK hK11 ?_
  refine aE ?_
  refine hQ _ _ _ (bB (vs:=[(Value.pointer none),(Value.int .i64 51)]) ⟨rfl,rfl,trivial⟩ fun w hs=>fB (false,51,0,none,0,none,0,[],[],[],none,0,[],[],none,0) [] ?_ ?_ rfl rfl (by first|rfl|(show List.all _ _=true; simp only [cond_true,List.all_cons,List.all_nil,iF,jg,Bool.and_true]; rfl)) hs)
  ·rfl
  ·refine ⟨fun q=>Bool.noConfusion (show false=true from q),fun _=>?_⟩; first|(have e:=bZ (r:=r) (me:=me) h21; exact ⟨e.symm,fun q=>h21 (e.symm.trans q)⟩)|(have e:=bk (me:=me) h10 (fun q:cN l r=>by have q1:=q.time; have q2:=q.len; omega); exact ⟨e.symm,fun q=>absurd (e.symm.trans q) (by decide)⟩)|(have e:=bk (me:=me) h10 (fG hx (by unfold eA eN; omega)); exact ⟨e.symm,fun q=>absurd (e.symm.trans q) (by decide)⟩)|(have e:=dE h10 hro h156; exact ⟨e.symm,fun q=>h156 (e.symm.trans q)⟩)|(have e:=c_ (me:=me) h10 hro (by first|rfl|exact h156) (show eb (aW l r)=[] from List.eq_nil_of_length_eq_zero (Int.natCast_eq_zero.1 h164)); exact ⟨e.symm,fun q=>absurd (e.symm.trans q) (by decide)⟩)
 replace h28:=XF h28
 refine rS (FA 0 rfl jr rfl)<|rS (L1 (Value.int .i64 r.Start) 1 rfl bu rfl rfl)<|rS (FA 1 rfl lY rfl)<|rS (L1 (Value.int .i64 r.cI) 1 rfl bu rfl rfl)<|fp (xs:=[.tmp 32]) (cs:=[(Value.int .i64 r.cI)]) rfl dY lK rfl rfl rfl rfl (by simp [Value.cells]) rfl rfl fun b12=>rS (CL (eH.eq (fu r.Start 86400000 ([r.cI]) (some ⟨b12,0,none⟩) 1 (by first|assumption|omega|(simp; done)|(simp; omega))) dq) (aM (bf 0 rfl rfl (by simp [bY]) rfl)<|ay) rfl)<|rS (NT rfl)<|rS (PK rfl)<|rS (MV rfl) ?_
 refine bH (t:=37) rfl (fun h37=>?_) (fun h37=>?_)
 ·replace h37:=XT h37
  refine rS (OX rfl)<|rS (OX rfl)<|rS (OX rfl)<|rS (OX rfl)<|rS (PK rfl)<|RK hK9<|aX rfl<|WS fun _ hK13=>rS (AG rfl)<|rS (AG rfl) ?_
  refine RK hK13<|aE ?_
  refine hQ _ _ _ (bB (vs:=[(Value.pointer none),(Value.int .i64 51)]) ⟨rfl,rfl,trivial⟩ fun w hs=>fB (false,51,0,none,0,none,0,[],[],[],none,0,[],[],none,0) [] ?_ ?_ rfl rfl (by first|rfl|(show List.all _ _=true; simp only [cond_true,List.all_cons,List.all_nil,iF,jg,Bool.and_true]; rfl)) hs)
  ·rfl
  ·refine ⟨fun q=>Bool.noConfusion (show false=true from q),fun _=>?_⟩; first|(have e:=bZ (r:=r) (me:=me) h21; exact ⟨e.symm,fun q=>h21 (e.symm.trans q)⟩)|(have e:=bk (me:=me) h10 (fun q:cN l r=>by have q1:=q.time; have q2:=q.len; omega); exact ⟨e.symm,fun q=>absurd (e.symm.trans q) (by decide)⟩)|(have e:=bk (me:=me) h10 (fG hx (by unfold eA eN; omega)); exact ⟨e.symm,fun q=>absurd (e.symm.trans q) (by decide)⟩)|(have e:=dE h10 hro h156; exact ⟨e.symm,fun q=>h156 (e.symm.trans q)⟩)|(have e:=c_ (me:=me) h10 hro (by first|rfl|exact h156) (show eb (aW l r)=[] from List.eq_nil_of_length_eq_zero (Int.natCast_eq_zero.1 h164)); exact ⟨e.symm,fun q=>absurd (e.symm.trans q) (by decide)⟩)
 replace h37:=XF h37
 refine rS (FA 2 rfl gd rfl)<|rS (L1 (Value.slice sgA r.ab.length sgC) 2 rfl lh rfl rfl)<|rS (LN rfl nB)<|rS (BI rfl fY)<|rS (PK rfl)<|RK hK9 ?_
 refine bj rfl (fun h42=>?_) (fun h42=>?_)
 ·replace h42:=DT h42
  refine WS fun _ hK14=>rS (AG rfl)<|rS (AG rfl)<|RK hK14<|aE ?_
  refine hQ _ _ _ (bB (vs:=[(Value.pointer none),(Value.int .i64 51)]) ⟨rfl,rfl,trivial⟩ fun w hs=>fB (false,51,0,none,0,none,0,[],[],[],none,0,[],[],none,0) [] ?_ ?_ rfl rfl (by first|rfl|(show List.all _ _=true; simp only [cond_true,List.all_cons,List.all_nil,iF,jg,Bool.and_true]; rfl)) hs)
  ·rfl
  ·refine ⟨fun q=>Bool.noConfusion (show false=true from q),fun _=>?_⟩; first|(have e:=bZ (r:=r) (me:=me) h21; exact ⟨e.symm,fun q=>h21 (e.symm.trans q)⟩)|(have e:=bk (me:=me) h10 (fun q:cN l r=>by have q1:=q.time; have q2:=q.len; omega); exact ⟨e.symm,fun q=>absurd (e.symm.trans q) (by decide)⟩)|(have e:=bk (me:=me) h10 (fG hx (by unfold eA eN; omega)); exact ⟨e.symm,fun q=>absurd (e.symm.trans q) (by decide)⟩)|(have e:=dE h10 hro h156; exact ⟨e.symm,fun q=>h156 (e.symm.trans q)⟩)|(have e:=c_ (me:=me) h10 hro (by first|rfl|exact h156) (show eb (aW l r)=[] from List.eq_nil_of_length_eq_zero (Int.natCast_eq_zero.1 h164)); exact ⟨e.symm,fun q=>absurd (e.symm.trans q) (by decide)⟩)
 replace h42:=DF h42
 refine WK hK8<|WS fun _ hK15=>rS (SX (bp (xs:=[(0,.const (Value.int .i64 (-1)))]) (cs:=(aw.cells (aw.mk (-1) 0))) rfl rfl (bq GU rfl)) rfl rfl)<|AL rfl BK fun b16=>fO rfl qi rfl<|RK hK15<|aq fun _ hK17=>er cG [0,1,2,3,4] [5,6,7,8] [false,false,false,false,false] [false,false,false,false] [(aT b16 67 (aw.cells (aw.mk (-1) 0))),(aT b12 3 [(Value.int .i64 r.cI)]),(aT b10 3 [(Value.int .i64 r.Start)]),(aT b3 31 (aS.cells (aS.mk r.Start r.cI (av.mk sgA r.ab.length sgC)))),(aT b2 28 (aF.cells (aF.mk (au.mk (av.mk kA l.al.length kC)) l.bw (av.mk cA l.ag.length cC) (av.mk bA l.aa.length bC) l.aD l.aV l.aJ))),(rd kA l.al.length 9 (l.al.map ah.cells)).ro,(rd cA l.ag.length 2 (List.zipWith aj.cells l.ag az)).ro,(cZ (aL aj.dX l.ag az)).ro,(rd bA l.aa.length 4 (l.aa.map aY.cells)).ro,(rd sgA r.ab.length 2 (r.ab.map aw.cells)).ro,X.ro,(aT gm 88 [f]).ro] [] (by kernel_rfl) (fun w hs=>St.br [0,1,2,3,4,5,6,7,8,9,10,11] rfl rfl hs) (fun w hs=>St.br [] rfl rfl hs)<|eS rfl (LW 4 rfl eO rfl rfl)<|eS rfl (LW 3 rfl iw rfl rfl) ?_
 refine eS rfl (FA 3 rfl dy rfl)<|eS rfl (L1 (Value.slice bA l.aa.length bC) 4 rfl g3 rfl rfl)<|eS rfl (LN rfl jL)<|fw rfl<|cL rfl fun T18 hT18=>qT (n:=l.aa.length) (es:=(List.map oC (List.replicate l.aa.length (none:Option Nat)))) rfl rfl rfl Dm (by omega) (by omega) (by simp only [maxLen]; omega) (by rw [List.map_replicate]; rfl) rfl fun b19=>?_
 try dsimp only
 refine RN hT18 [1,2,3,4,5,6,7,8,9,10,11,12] rfl rfl<|cL rfl fun T20 hT20=>rS (SX (bp (xs:=[(0,.tmp 44),(1,.tmp 45),(3,.tmp 49)]) (cs:=(aN.cells (aN.mk (aF.mk (au.mk (av.mk kA l.al.length kC)) l.bw (av.mk cA l.ag.length cC) (av.mk bA l.aa.length bC) l.aD l.aV l.aJ) (aS.mk r.Start r.cI (av.mk sgA r.ab.length sgC)) (av.mk none 0 0) (av.mk (some ⟨b19,0,none⟩) l.aa.length l.aa.length) (av.mk none 0 0) (av.mk none 0 0)))) rfl rfl (bq Dv rfl)) rfl rfl)<|RN hT20 [1,2,3,4,5,6,7,8,9,10,11,12] rfl rfl<|cL rfl fun T21 hT21=>fy rfl fun b22=>RN hT21 [2,3,4,5,6,7,8,9,10,11,12,13] rfl rfl<|cL rfl fun T23 hT23=>rS (AG rfl)<|RN hT23 [2,3,4,5,6,7,8,9,10,11,12,13] rfl rfl ?_
 refine g_ rfl<|KK hK17<|aq fun _ hK24=>WS fun _ hK25=>rS (FA 3 rfl dy rfl)<|rS (L1 (Value.slice bA l.aa.length bC) 6 rfl g3 rfl rfl)<|rS (LN rfl jL)<|rS (MV rfl)<|RK hK25<|aG ?_
 rw [qe]
 refine fU 3 1<|nT ?_
 have hinit:(0≤l.aa.length)∧(([]:List Nat).length=0):=by exact ⟨Nat.zero_le _,rfl⟩
 refine cq (ι:={z:Nat×(Option Addr)×Nat×(List Nat) // (z.1≤l.aa.length)∧(z.2.2.2.length=z.1)}) (fun z=>[(2,(Value.slice (some ⟨gm,0,none⟩) 1 1)),(3,(Value.pointer (some ⟨b2,0,none⟩))),(4,(Value.pointer (some ⟨b3,0,none⟩))),(6,(Value.pointer none)),(7,(Value.int .i64 0)),(9,(Value.pointer (some ⟨b16,0,none⟩))),(10,(Value.pointer (some ⟨b22,0,none⟩))),(54,(Value.int .i64 ((l.aa.length:Nat):Int))),(55,(Value.int .i64 ((z.1.1:Nat):Int)))]) (fun z=>[(a5 (aL ib (List.replicate z.1.1 ([]:TM)) z.1.2.2.2)),(own z.1.2.1 z.1.2.2.1 3 1 ((aR l z.1.1).map iC)),(aT b22 117 (aN.cells (aN.mk (aF.mk (au.mk (av.mk kA l.al.length kC)) l.bw (av.mk cA l.ag.length cC) (av.mk bA l.aa.length bC) l.aD l.aV l.aJ) (aS.mk r.Start r.cI (av.mk sgA r.ab.length sgC)) (av.mk z.1.2.1 ((aR l z.1.1).length) z.1.2.2.1) (av.mk (some ⟨b19,0,none⟩) l.aa.length l.aa.length) (av.mk none 0 0) (av.mk none 0 0)))),(own (some ⟨b19,0,none⟩) l.aa.length 120 1 (List.map oC (cg z.1.2.2.2 l.aa.length))),(aT b16 67 (aw.cells (aw.mk (-1) 0))),(aT b3 31 (aS.cells (aS.mk r.Start r.cI (av.mk sgA r.ab.length sgC)))),(aT b2 28 (aF.cells (aF.mk (au.mk (av.mk kA l.al.length kC)) l.bw (av.mk cA l.ag.length cC) (av.mk bA l.aa.length bC) l.aD l.aV l.aJ))),(rd kA l.al.length 9 (l.al.map ah.cells)).ro,(rd cA l.ag.length 2 (List.zipWith aj.cells l.ag az)).ro,(cZ (aL aj.dX l.ag az)).ro,(rd bA l.aa.length 4 (l.aa.map aY.cells)).ro,(rd sgA r.ab.length 2 (r.ab.map aw.cells)).ro,X.ro,(aT gm 88 [f]).ro]) (fun z=>l.aa.length-z.1.1) ⟨(0,none,0,([]:List Nat)),hinit⟩ (an.cons rfl<|an.cons rfl<|an.cons rfl<|an.cons rfl<|an.cons rfl<|an.cons rfl<|an.cons rfl<|an.cons rfl<|an.cons rfl<|an.nil _) (fun w hs=>St.br [0,1,2,3,4,7,8,9,10,11,12,13,14,15] rfl rfl hs) ?_
 clear hinit
 rintro ⟨⟨b,a,c,fb⟩,⟨hl9_0,hl9_1⟩⟩ J26 hJ26
 try dsimp only at hl9_0 hl9_1
 try dsimp only
 have hlf:(cg fb l.aa.length).length=l.aa.length:=kS (by omega)
 refine WS fun _ hK27=>rS (BI rfl cv)<|RK hK27<|aq fun _ hK28=>?_
 refine bj rfl (fun h29=>?_) (fun h29=>?_)
 ·replace h29:=DT h29
  refine WK hK28<|aq fun _ hK30=>aG<|WS fun _ hK31=>rS (MV rfl)<|rS (AG rfl)<|RK hK31<|aq fun _ hK32=>er cG [0,1,2,3,4,5,6,7,8,9,10,11,14,15] [12,13,16] [false,false,false,false,true,false,false,false,false,false,false,false,false,false] [true,false,false] [(a5 (aL ib (List.replicate b ([]:TM)) fb)),(own (some ⟨b19,0,none⟩) l.aa.length 120 1 (List.map oC (cg fb l.aa.length))),(aT b16 67 (aw.cells (aw.mk (-1) 0))),(aT b3 31 (aS.cells (aS.mk r.Start r.cI (av.mk sgA r.ab.length sgC)))),(aT b2 28 (aF.cells (aF.mk (au.mk (av.mk kA l.al.length kC)) l.bw (av.mk cA l.ag.length cC) (av.mk bA l.aa.length bC) l.aD l.aV l.aJ))),(rd kA l.al.length 9 (l.al.map ah.cells)).ro,(rd cA l.ag.length 2 (List.zipWith aj.cells l.ag az)).ro,(cZ (aL aj.dX l.ag az)).ro,(rd bA l.aa.length 4 (l.aa.map aY.cells)).ro,(rd sgA r.ab.length 2 (r.ab.map aw.cells)).ro,X.ro,(aT gm 88 [f]).ro] [(a5 (aL ib (List.replicate b ([]:TM)) fb)),(own a c 3 1 ((aR l b).map iC)),(aT b22 117 (aN.cells (aN.mk (aF.mk (au.mk (av.mk kA l.al.length kC)) l.bw (av.mk cA l.ag.length cC) (av.mk bA l.aa.length bC) l.aD l.aV l.aJ) (aS.mk r.Start r.cI (av.mk sgA r.ab.length sgC)) (av.mk a ((aR l b).length) c) (av.mk (some ⟨b19,0,none⟩) l.aa.length l.aa.length) (av.mk none 0 0) (av.mk none 0 0)))),(own (some ⟨b19,0,none⟩) l.aa.length 120 1 (List.map oC (cg fb l.aa.length))),(aT b16 67 (aw.cells (aw.mk (-1) 0))),(aT b3 31 (aS.cells (aS.mk r.Start r.cI (av.mk sgA r.ab.length sgC)))),(aT b2 28 (aF.cells (aF.mk (au.mk (av.mk kA l.al.length kC)) l.bw (av.mk cA l.ag.length cC) (av.mk bA l.aa.length bC) l.aD l.aV l.aJ))),(rd kA l.al.length 9 (l.al.map ah.cells)).ro,(rd cA l.ag.length 2 (List.zipWith aj.cells l.ag az)).ro,(cZ (aL aj.dX l.ag az)).ro,(rd bA l.aa.length 4 (l.aa.map aY.cells)).ro,(rd sgA r.ab.length 2 (r.ab.map aw.cells)).ro,X.ro,(aT gm 88 [f]).ro] (by kernel_rfl) (fun w hs=>St.br [0,3,4,5,6,7,8,9,10,11,12,13] rfl rfl hs) (fun w hs=>St.br [0,1,2,3,4,5,6,7,8,9,10,11,12,13] rfl rfl hs)<|eS rfl (MV rfl) ?_
  refine eS rfl (MV rfl)<|eS rfl (SX (cx rfl rfl) rfl rfl)<|eS rfl (FA 10 rfl m0 rfl)<|fS rfl (L1 (Value.slice a ((aR l b).length) c) 2 rfl nZ rfl rfl)<|eS rfl (LW 4 rfl eO rfl rfl)<|eS rfl (MV rfl)<|eS rfl (CL (Ad l kA kC az cA cC bA bC ((b:Nat):Int) hin (by first|assumption|omega|(simp; done)|(simp; omega)) (by exact hok.jT) (by first|assumption|omega|(simp; done)|(simp; omega))) (ax 5 rfl rfl<|ax 6 rfl rfl<|ax 7 rfl rfl<|ax 8 rfl rfl<|ay) rfl) ?_
  have hwb:=vH htr hok.jT b
  have hwy:=hok.tx b (by omega)
  simp only [Int.toNat_natCast]
  refine eS rfl (BI rfl (vV ⟨by omega,by omega⟩))<|eS rfl (FA 1 rfl n9 rfl)<|eS rfl (L1 (Value.int .i64 l.bw) 4 rfl bu rfl rfl)<|eS rfl (CL (AQ (1000*(kg l ((b:Nat):Int).toNat)) l.bw (by first|assumption|omega|(simp; done)|(simp; omega)) (by first|assumption|omega|(simp; done)|(simp; omega))) (ay) rfl)<|eS rfl (SX (cx rfl rfl) rfl rfl)<|eS rfl (FA 10 rfl m0 rfl)<|fw rfl<|jm rfl fun T33 hT33=>fp (xs:=[.tmp 69]) (cs:=[(Value.int .i64 (kW (1000*(kg l ((b:Nat):Int).toNat)) l.bw))]) rfl dY lK rfl rfl rfl rfl (by simp [Value.cells]) rfl rfl fun b34=>?_
  refine aP (hT33 _ _ (fun w hs=>St.br [1,4,5,6,7,8,9,10,11,12,13,14] rfl rfl hs) (fun w hs=>St.br [1,2,3,4,5,6,7,8,9,10,11,12,13,14] rfl rfl hs) ?_)
  refine cL rfl fun T35 hT35=>dR (es2:=(List.map iC (aR l (b+1)))) (m':=(aR l (b+1)).length) 2 rfl rfl rfl o9 rfl rfl (by simp [bI]) (bf (es:=List.map iC [(kW (1000*(kg l ((b:Nat):Int).toNat)) l.bw)]) 0 rfl rfl (by simp [bY]) rfl) (jF _) (by have:=bI (l:=l) (n:=b); first|omega|(simp; omega)) (by simp only [maxLen,bI]; omega) (by rw [nW]; simp [df]) (by simp [bI]) rfl fun a36 c37=>?_
  try dsimp only
  refine RN hT35 [1,4,5,6,7,8,9,10,11,12,13,14] rfl rfl<|cL rfl fun T38 hT38=>Dq (aN.cells (aN.mk (aF.mk (au.mk (av.mk kA l.al.length kC)) l.bw (av.mk cA l.ag.length cC) (av.mk bA l.aa.length bC) l.aD l.aV l.aJ) (aS.mk r.Start r.cI (av.mk sgA r.ab.length sgC)) (av.mk a36 ((aR l (b+1)).length) c37) (av.mk (some ⟨b19,0,none⟩) l.aa.length l.aa.length) (av.mk none 0 0) (av.mk none 0 0))) rfl Em rfl rfl<|RN hT38 [1,4,5,6,7,8,9,10,11,12,13,14] rfl rfl<|g_ rfl<|KK hK32<|ar<|rS (MV rfl)<|rS (SX (cx rfl rfl) rfl rfl)<|rS (FA 11 rfl mP rfl) ?_
  refine rS (L1 (Value.slice (some ⟨b19,0,none⟩) l.aa.length l.aa.length) 3 rfl tm rfl rfl)<|rS (MV rfl)<|ml (kV:=iV) rfl rfl fun b39=>?_
  try dsimp only
  obtain ⟨x40,hx41⟩: ∃ y_,(cg fb l.aa.length)[b]? =some y_:=⟨(cg fb l.aa.length)[b]'(by omega),List.getElem?_eq_getElem _⟩
  have hx41m:(List.map oC (cg fb l.aa.length))[b]? =some (oC x40):=by rw [List.getElem?_map,hx41]; rfl
  refine rS (IA b rfl (aC (n:=l.aa.length) 5 rfl (by first|(simp; done)|(simp; omega))) rY (by decide) (by omega) (by omega)) ?_
  have hb42:((cg fb l.aa.length).set b (some b39))=(cg (fb++[b39]) l.aa.length):=by exact oG (by omega) (by omega)
  refine fP (k:=b) (o:=0) (vs:=[(Value.map (some b39))]) (es':=(List.map oC (cg (fb++[b39]) l.aa.length))) (C':=[_,_,_,_,_,(own (some ⟨b19,0,none⟩) l.aa.length 120 1 (List.map oC (cg (fb++[b39]) l.aa.length))),_,_,_,_,_,_,_,_,_,_]) 5 rfl rfl rfl DG rfl rfl rfl rfl hx41m rfl (by decide) (by exact (List.map_set (f:=oC) (l:=(cg fb l.aa.length)) (i:=b) (a:=(some b39))).symm.trans (congrArg _ hb42)) rfl<|aP<|aK<|KK hK30<|ar<|rS (BI rfl (aZ ⟨by omega,by omega⟩))<|rS (MV rfl)<|aP<|wG (X':=aL ib (List.replicate (b+1) ([]:TM)) (fb++[b39])) 2 0 rfl rfl (yr hl9_1) ?_
  try dsimp only
  have hb43:(Value.int .i64 (((b+1):Nat):Int))=(Value.int .i64 (((b:Nat):Int)+1)):=by exact congrArg (Value.int .i64) (by omega)
  refine aO (hJ26 ⟨((b+1),a36,c37,(fb++[b39])),⟨by omega,by simp; omega⟩⟩ _ _ _ rfl (by first|omega|(simp; omega)) (an.cons rfl<|an.cons rfl<|an.cons rfl<|an.cons rfl<|an.cons rfl<|an.cons rfl<|an.cons rfl<|an.cons rfl<|aQ rfl hb43<|an.nil _) (fun w hs=>St.br [0,2,3,4,5,6,7,8,9,10,11,12,13,14] rfl rfl hs))
 replace h29:=DF h29
 refine bE<|ai<|ai<|aH<|KK hK24<|aq fun _ hK44=>WS fun _ hK45=>rS (FA 2 rfl gd rfl)<|rS (L1 (Value.slice sgA r.ab.length sgC) 5 rfl lh rfl rfl)<|rS (LN rfl nB) ?_
 refine rS (MV rfl)<|RK hK45<|aG ?_
 rw [show (List.replicate b ([]:TM))=bo l r.ab 0 from by rw [sd,show b=l.aa.length by omega]]
 rw [show aR l b=aR l l.aa.length from by rw [show b=l.aa.length by omega]]
 have hinit:(0≤r.ab.length)∧(lW l r.ab 0):=by exact ⟨Nat.zero_le _,qd⟩
 refine cq (ι:={z:Nat // (z≤r.ab.length)∧(lW l r.ab z)}) (fun z=>[(2,(Value.slice (some ⟨gm,0,none⟩) 1 1)),(3,(Value.pointer (some ⟨b2,0,none⟩))),(4,(Value.pointer (some ⟨b3,0,none⟩))),(6,(Value.pointer none)),(7,(Value.int .i64 0)),(9,(Value.pointer (some ⟨b16,0,none⟩))),(10,(Value.pointer (some ⟨b22,0,none⟩))),(83,(Value.slice sgA r.ab.length sgC)),(84,(Value.int .i64 ((r.ab.length:Nat):Int))),(85,(Value.int .i64 ((z.1:Nat):Int)))]) (fun z=>[(a5 (aL ib (bo l r.ab z.1) fb)),(own a c 3 1 ((aR l l.aa.length).map iC)),(aT b22 117 (aN.cells (aN.mk (aF.mk (au.mk (av.mk kA l.al.length kC)) l.bw (av.mk cA l.ag.length cC) (av.mk bA l.aa.length bC) l.aD l.aV l.aJ) (aS.mk r.Start r.cI (av.mk sgA r.ab.length sgC)) (av.mk a ((aR l l.aa.length).length) c) (av.mk (some ⟨b19,0,none⟩) l.aa.length l.aa.length) (av.mk none 0 0) (av.mk none 0 0)))),(own (some ⟨b19,0,none⟩) l.aa.length 120 1 (List.map oC (cg fb l.aa.length))),(aT b16 67 (aw.cells (ir r.ab z.1))),(aT b3 31 (aS.cells (aS.mk r.Start r.cI (av.mk sgA r.ab.length sgC)))),(aT b2 28 (aF.cells (aF.mk (au.mk (av.mk kA l.al.length kC)) l.bw (av.mk cA l.ag.length cC) (av.mk bA l.aa.length bC) l.aD l.aV l.aJ))),(rd kA l.al.length 9 (l.al.map ah.cells)).ro,(rd cA l.ag.length 2 (List.zipWith aj.cells l.ag az)).ro,(cZ (aL aj.dX l.ag az)).ro,(rd bA l.aa.length 4 (l.aa.map aY.cells)).ro,(rd sgA r.ab.length 2 (r.ab.map aw.cells)).ro,X.ro,(aT gm 88 [f]).ro]) (fun z=>r.ab.length-z.1) ⟨0,hinit⟩ (an.cons rfl<|an.cons rfl<|an.cons rfl<|an.cons rfl<|an.cons rfl<|an.cons rfl<|an.cons rfl<|an.cons rfl<|an.cons rfl<|an.cons rfl<|an.nil _) (fun w hs=>St.br [0,1,2,3,4,5,6,7,8,9,10,11,12,13] rfl rfl hs) ?_
 clear hinit
 rintro ⟨i,⟨hl15_0,hl15_1⟩⟩ J46 hJ46
 try dsimp only
 have htlen:(bo l r.ab i).length=l.aa.length:=en
 have hlf:(cg fb l.aa.length).length=l.aa.length:=kS (by omega)
 refine WS fun _ hK47=>rS (BI rfl cv)<|RK hK47<|aq fun _ hK48=>?_
 refine bj rfl (fun h49=>?_) (fun h49=>?_)
 rotate_left 1
 ·replace h49:=DF h49
  refine bE<|ai<|ai<|aH<|KK hK44<|aq fun _ hK79=>aq fun _ hK80=>?_
  have hro:cN l r:=jd (by omega) (by omega) hl15_1 (by omega)
  refine ar<|rS (MV rfl)<|rS (LN rfl Df)<|rS (MV rfl)<|RK hK80<|aG<|pZ 2<|kJ fun R81 hR81=>WS fun _ hK82=>rS (SX (fK (r:= .bool true) rfl rfl rfl cv) rfl rfl) ?_
  refine RK hK82<|aq fun _ hK83=>aX rfl<|WK hK83<|aq fun _ hK84=>aG<|WS fun _ hK85=>rS (JH 0 0 rfl Dh rfl (by decide) rfl)<|rS (tS 13 rfl H2 rfl)<|rS (AG rfl) ?_
  refine RK hK85<|WS fun _ hK86=>rS (MV rfl)<|rS (SX (qL rfl rfl rfl (hf) (ax 12 rfl rfl<|ay)) rfl rfl)<|rS (AG rfl)<|RK hK86<|WS fun _ hK87=>rS (MV rfl)<|rS (BI rfl dB)<|RK hK87 ?_
  refine bj rfl (fun h156=>?_) (fun h156=>?_)
  ·replace h156:=XT h156
   refine WS fun _ hK88=>rS (MV rfl)<|rS (AG rfl)<|rS (AG rfl)<|RK hK88<|aE ?_
   refine hQ _ _ _ (bB (vs:=[(Value.pointer none),(Value.int .i64 me)]) ⟨rfl,rfl,trivial⟩ fun w hs=>fB (false,me,0,none,0,none,0,[],[],[],none,0,[],[],none,0) [] ?_ ?_ rfl rfl (by first|rfl|(show List.all _ _=true; simp only [cond_true,List.all_cons,List.all_nil,iF,jg,Bool.and_true]; rfl)) hs)
   ·rfl
   ·refine ⟨fun q=>Bool.noConfusion (show false=true from q),fun _=>?_⟩; first|(have e:=bZ (r:=r) (me:=me) h21; exact ⟨e.symm,fun q=>h21 (e.symm.trans q)⟩)|(have e:=bk (me:=me) h10 (fun q:cN l r=>by have q1:=q.time; have q2:=q.len; omega); exact ⟨e.symm,fun q=>absurd (e.symm.trans q) (by decide)⟩)|(have e:=bk (me:=me) h10 (fG hx (by unfold eA eN; omega)); exact ⟨e.symm,fun q=>absurd (e.symm.trans q) (by decide)⟩)|(have e:=dE h10 hro h156; exact ⟨e.symm,fun q=>h156 (e.symm.trans q)⟩)|(have e:=c_ (me:=me) h10 hro (by first|rfl|exact h156) (show eb (aW l r)=[] from List.eq_nil_of_length_eq_zero (Int.natCast_eq_zero.1 h164)); exact ⟨e.symm,fun q=>absurd (e.symm.trans q) (by decide)⟩)
  replace h156:=XF h156
  refine cM<|aK<|KK hK84<|ar<|rS (SX (fK (r:= .int .i64 1) rfl rfl rfl (aZ ⟨by decide,by decide⟩)) rfl rfl)<|rS (MV rfl)<|RK hR81<|kJ fun R89 hR89=>WS fun _ hK90=>rS (SX (fK (r:= .bool false) rfl rfl rfl cv) rfl rfl) ?_
  refine RK hK90<|aq fun _ hK91=>bV rfl<|bE<|ai<|ai<|aH<|KK hK79<|aq fun _ hK92=>?_
  rw [show bo l r.ab i=bo l r.ab r.ab.length from by rw [show i=r.ab.length by omega]]
  have htl:(bo l r.ab r.ab.length).length=l.aa.length:=en
  rw [show (List.map oC (cg fb l.aa.length))=(List.zipWith cl (bo l r.ab r.ab.length) fb) from FQ (by omega) htl]
  rw [show (aT b22 117 (aN.cells (aN.mk (aF.mk (au.mk (av.mk kA l.al.length kC)) l.bw (av.mk cA l.ag.length cC) (av.mk bA l.aa.length bC) l.aD l.aV l.aJ) (aS.mk r.Start r.cI (av.mk sgA r.ab.length sgC)) (av.mk a ((aR l l.aa.length).length) c) (av.mk (some ⟨b19,0,none⟩) l.aa.length l.aa.length) (av.mk none 0 0) (av.mk none 0 0))))=(aT b22 117 (aN.cells (aN.mk (aF.mk (au.mk (av.mk kA l.al.length kC)) l.bw (av.mk cA l.ag.length cC) (av.mk bA l.aa.length bC) l.aD l.aV l.aJ) (aS.mk r.Start r.cI (av.mk sgA r.ab.length sgC)) (av.mk a ((aR l l.aa.length).length) c) (av.mk (some ⟨b19,0,none⟩) ((bo l r.ab r.ab.length).length) l.aa.length) (av.mk none 0 0) (av.mk none 0 0)))) from by rw [htl]]
  have hwo:=jf htr hok hro
  have hlel:(aR l l.aa.length).length=l.aa.length:=bI
  refine ar<|rS (MV rfl) ?_
  refine mK 2 rfl rfl rfl rfl (vq (aF.mk (au.mk (av.mk kA l.al.length kC)) l.bw (av.mk cA l.ag.length cC) (av.mk bA l.aa.length bC) l.aD l.aV l.aJ) (aS.mk r.Start r.cI (av.mk sgA r.ab.length sgC)) (aR l l.aa.length) (bo l r.ab r.ab.length) a c fb (some ⟨b19,0,none⟩) l.aa.length b22 (by exact hwo) (by exact bI.symm) (by rw [htl]; omega)) rfl (eV 1 rfl rfl (eh (by simp)) (eV 3 rfl rfl (eh (by rw [List.length_zipWith]; omega)) (eV 0 rfl rfl iE o0))) rfl (fun y101 hfo=>?_)
  obtain ⟨fs93,fb94,fA95,fC96,bs97,bb98,bA99,bC100⟩:=y101
  refine xV (X:=[(aT b22 117 (aN.cells (aN.mk (aF.mk (au.mk (av.mk kA l.al.length kC)) l.bw (av.mk cA l.ag.length cC) (av.mk bA l.aa.length bC) l.aD l.aV l.aJ) (aS.mk r.Start r.cI (av.mk sgA r.ab.length sgC)) (av.mk a ((aR l l.aa.length).length) c) (av.mk (some ⟨b19,0,none⟩) ((bo l r.ab r.ab.length).length) l.aa.length) (av.mk fA95 fs93.length fC96) (av.mk bA99 bs97.length bC100)))),(own fA95 fC96 122 1 (List.zipWith cl fs93 fb94)),(a5 (aL fW fs93 fb94)),(own bA99 bC100 122 1 (List.zipWith cl bs97 bb98)),(a5 (aL fW bs97 bb98))]) 2 rfl rfl ?_
  try dsimp only
  obtain ⟨hq1,hq2,hq3,hq4⟩:=hfo
  dsimp only at hq1 hq2 hq3 hq4
  refine RK hK92<|aq fun _ hK102=>WS fun _ hK103=>rS (MV rfl)<|cX (oi (aF.mk (au.mk (av.mk kA l.al.length kC)) l.bw (av.mk cA l.ag.length cC) (av.mk bA l.aa.length bC) l.aD l.aV l.aJ) (aS.mk r.Start r.cI (av.mk sgA r.ab.length sgC)) (aR l l.aa.length) (bo l r.ab r.ab.length) a c fb (some ⟨b19,0,none⟩) l.aa.length fs93 bs97 fb94 fA95 fC96 bb98 bA99 bC100 b22 (by exact hwo) (by first|assumption|omega|(simp; done)|(simp; omega)) (by exact bI.symm) (by exact hq1) (by first|assumption|omega|(simp; done)|(simp; omega))) (aM (aC (n:=(aR l l.aa.length).length) 6 rfl (by simp))<|aM (aC (n:=(bo l r.ab r.ab.length).length) 7 rfl (by rw [List.length_zipWith]; omega))<|aM (dT 5 rfl h_)<|aM (aC (n:=fs93.length) 1 rfl (by rw [List.length_zipWith]; omega))<|aM (dT 2 rfl h_)<|aM (aC (n:=bs97.length) 3 rfl (by rw [List.length_zipWith]; omega))<|aM (dT 4 rfl h_)<|ax 0 rfl rfl<|ay) rfl fun y104 hy105=>?_
  obtain ⟨a106,c107⟩:=y104
  try dsimp only
  refine rS (LN rfl l9)<|rS (BI rfl g0)<|RK hK103 ?_
  refine bj rfl (fun h164=>?_) (fun h164=>?_)
  rotate_left 1
  ·replace h164:=DF h164
   refine WK hK102<|WS fun _ hK109=>rS (MV rfl)<|rS (AG rfl)<|rS (AG rfl)<|RK hK109<|aE ?_
   refine hQ _ _ _ (bB (vs:=[(Value.pointer (some ⟨b22,0,none⟩)),(Value.int .i64 0)]) ⟨rfl,rfl,trivial⟩ fun w hs=>fB (true,0,b22,a,c,(some ⟨b19,0,none⟩),l.aa.length,fb,fs93,fb94,fA95,fC96,bs97,bb98,bA99,bC100) [1,7,8,6,2,3,4,5] ?_ ?_ rfl rfl (by first|rfl|(show List.all _ _=true; simp only [cond_true,List.all_cons,List.all_nil,iF,jg,Bool.and_true]; rfl)) hs)
   ·rfl
   ·exact ⟨fun _=>⟨ke h10 hro (by first|rfl|exact h156) (fun q=>h164 (congrArg (fun z:List Int=>((z.length:Nat):Int)) q)),hq1,hq2,hq3,hq4,by dsimp only; omega⟩,fun q=>Bool.noConfusion (show true=false from q)⟩
  replace h164:=DT h164
  refine WS fun _ hK108=>rS (AG rfl)<|rS (AG rfl)<|RK hK108<|aE ?_
  refine hQ _ _ _ (bB (vs:=[(Value.pointer none),(Value.int .i64 8)]) ⟨rfl,rfl,trivial⟩ fun w hs=>fB (false,8,0,none,0,none,0,[],[],[],none,0,[],[],none,0) [] ?_ ?_ rfl rfl (by first|rfl|(show List.all _ _=true; simp only [cond_true,List.all_cons,List.all_nil,iF,jg,Bool.and_true]; rfl)) hs)
  ·rfl
  ·refine ⟨fun q=>Bool.noConfusion (show false=true from q),fun _=>?_⟩; first|(have e:=bZ (r:=r) (me:=me) h21; exact ⟨e.symm,fun q=>h21 (e.symm.trans q)⟩)|(have e:=bk (me:=me) h10 (fun q:cN l r=>by have q1:=q.time; have q2:=q.len; omega); exact ⟨e.symm,fun q=>absurd (e.symm.trans q) (by decide)⟩)|(have e:=bk (me:=me) h10 (fG hx (by unfold eA eN; omega)); exact ⟨e.symm,fun q=>absurd (e.symm.trans q) (by decide)⟩)|(have e:=dE h10 hro h156; exact ⟨e.symm,fun q=>h156 (e.symm.trans q)⟩)|(have e:=c_ (me:=me) h10 hro (by first|rfl|exact h156) (show eb (aW l r)=[] from List.eq_nil_of_length_eq_zero (Int.natCast_eq_zero.1 h164)); exact ⟨e.symm,fun q=>absurd (e.symm.trans q) (by decide)⟩)
 replace h49:=DT h49
 refine WK hK48<|aq fun _ hK50=>aG<|WS fun _ hK51=>rS (MV rfl) ?_
 obtain ⟨x,hx⟩: ∃ y_,r.ab[i]? =some y_:=⟨r.ab[i]'(by omega),List.getElem?_eq_getElem _⟩
 have hxm:(r.ab.map aw.cells)[i]? =some (aw.cells x):=by rw [List.getElem?_map,hx]; rfl
 refine rS (IA i rfl (aI 11 rfl) sU (by decide) (by omega) (by omega))<|rS (lF i 0 (aw.cells x) rfl mO (aI 11 rfl) hxm rfl (by decide) rfl rfl)<|AL rfl BK fun b52=>rS (AG rfl)<|fO rfl qi rfl<|RK hK51<|aq fun _ hK53=>WS fun _ hK54=>rS (FA 3 rfl dy rfl)<|rS (L1 (Value.slice bA l.aa.length bC) 7 rfl g3 rfl rfl) ?_
 refine rS (LN rfl jL)<|rS (BI rfl (da ⟨by omega,by omega⟩))<|rS (FA 0 rfl gr rfl)<|rS (L1 (Value.int .i64 x.cU) 0 rfl bu rfl rfl)<|fp (xs:=[.tmp 95]) (cs:=[(Value.int .i64 x.cU)]) rfl dY lK rfl rfl rfl rfl (by simp [Value.cells]) rfl rfl fun b55=>rS (CL (eH.eq (fu 0 (((l.aa.length:Nat):Int)-1) ([x.cU]) (some ⟨b55,0,none⟩) 1 (by first|assumption|omega|(simp; done)|(simp; omega))) dq) (aM (bf 0 rfl rfl (by simp [bY]) rfl)<|ay) rfl)<|rS (NT rfl)<|rS (MV rfl) ?_
 refine bH (t:=99) rfl (fun h99=>?_) (fun h99=>?_)
 ·replace h99:=XT h99
  refine rS (OX rfl)<|rS (OX rfl)<|rS (OX rfl)<|rS (OX rfl)<|rS (OX rfl)<|rS (PK rfl)<|rS (MV rfl)<|rS (OX rfl)<|rS (OX rfl)<|rS (OX rfl) ?_
  refine rS (OX rfl)<|rS (OX rfl)<|rS (PK rfl)<|rS (MV rfl)<|rS (OX rfl)<|rS (OX rfl)<|rS (OX rfl)<|rS (OX rfl)<|rS (OX rfl)<|rS (OX rfl) ?_
  refine rS (OX rfl)<|rS (OX rfl)<|rS (OX rfl)<|rS (OX rfl)<|rS (OX rfl)<|rS (OX rfl)<|rS (PK rfl)<|RK hK54<|aX rfl<|WS fun _ hK56=>?_
  refine rS (AG rfl)<|rS (AG rfl)<|RK hK56<|aE ?_
  refine hQ _ _ _ (bB (vs:=[(Value.pointer none),(Value.int .i64 51)]) ⟨rfl,rfl,trivial⟩ fun w hs=>fB (false,51,0,none,0,none,0,[],[],[],none,0,[],[],none,0) [] ?_ ?_ rfl rfl (by first|rfl|(show List.all _ _=true; simp only [cond_true,List.all_cons,List.all_nil,iF,jg,Bool.and_true]; rfl)) hs)
  ·rfl
  ·refine ⟨fun q=>Bool.noConfusion (show false=true from q),fun _=>?_⟩; first|(have e:=bZ (r:=r) (me:=me) h21; exact ⟨e.symm,fun q=>h21 (e.symm.trans q)⟩)|(have e:=bk (me:=me) h10 (fun q:cN l r=>by have q1:=q.time; have q2:=q.len; omega); exact ⟨e.symm,fun q=>absurd (e.symm.trans q) (by decide)⟩)|(have e:=bk (me:=me) h10 (fG hx (by unfold eA eN; omega)); exact ⟨e.symm,fun q=>absurd (e.symm.trans q) (by decide)⟩)|(have e:=dE h10 hro h156; exact ⟨e.symm,fun q=>h156 (e.symm.trans q)⟩)|(have e:=c_ (me:=me) h10 hro (by first|rfl|exact h156) (show eb (aW l r)=[] from List.eq_nil_of_length_eq_zero (Int.natCast_eq_zero.1 h164)); exact ⟨e.symm,fun q=>absurd (e.symm.trans q) (by decide)⟩)
 replace h99:=XF h99
 refine rS (FA 1 rfl j7 rfl)<|rS (L1 (Value.int .i64 x.Read) 1 rfl bu rfl rfl)<|fp (xs:=[.tmp 101]) (cs:=[(Value.int .i64 x.Read)]) rfl dY lK rfl rfl rfl rfl (by simp [Value.cells]) rfl rfl fun b57=>rS (CL (eH.eq (fu 0 86400000 ([x.Read]) (some ⟨b57,0,none⟩) 1 (by first|assumption|omega|(simp; done)|(simp; omega))) dq) (aM (bf 0 rfl rfl (by simp [bY]) rfl)<|ay) rfl)<|rS (NT rfl)<|rS (PK rfl)<|rS (MV rfl) ?_
 refine bH (t:=106) rfl (fun h106=>?_) (fun h106=>?_)
 ·replace h106:=XT h106
  refine rS (OX rfl)<|rS (OX rfl)<|rS (OX rfl)<|rS (OX rfl)<|rS (OX rfl)<|rS (PK rfl)<|rS (MV rfl)<|rS (OX rfl)<|rS (OX rfl)<|rS (OX rfl) ?_
  refine rS (OX rfl)<|rS (OX rfl)<|rS (OX rfl)<|rS (OX rfl)<|rS (OX rfl)<|rS (OX rfl)<|rS (OX rfl)<|rS (OX rfl)<|rS (OX rfl)<|rS (PK rfl) ?_
  refine RK hK54<|aX rfl<|WS fun _ hK58=>rS (AG rfl)<|rS (AG rfl)<|RK hK58<|aE ?_
  refine hQ _ _ _ (bB (vs:=[(Value.pointer none),(Value.int .i64 51)]) ⟨rfl,rfl,trivial⟩ fun w hs=>fB (false,51,0,none,0,none,0,[],[],[],none,0,[],[],none,0) [] ?_ ?_ rfl rfl (by first|rfl|(show List.all _ _=true; simp only [cond_true,List.all_cons,List.all_nil,iF,jg,Bool.and_true]; rfl)) hs)
  ·rfl
  ·refine ⟨fun q=>Bool.noConfusion (show false=true from q),fun _=>?_⟩; first|(have e:=bZ (r:=r) (me:=me) h21; exact ⟨e.symm,fun q=>h21 (e.symm.trans q)⟩)|(have e:=bk (me:=me) h10 (fun q:cN l r=>by have q1:=q.time; have q2:=q.len; omega); exact ⟨e.symm,fun q=>absurd (e.symm.trans q) (by decide)⟩)|(have e:=bk (me:=me) h10 (fG hx (by unfold eA eN; omega)); exact ⟨e.symm,fun q=>absurd (e.symm.trans q) (by decide)⟩)|(have e:=dE h10 hro h156; exact ⟨e.symm,fun q=>h156 (e.symm.trans q)⟩)|(have e:=c_ (me:=me) h10 hro (by first|rfl|exact h156) (show eb (aW l r)=[] from List.eq_nil_of_length_eq_zero (Int.natCast_eq_zero.1 h164)); exact ⟨e.symm,fun q=>absurd (e.symm.trans q) (by decide)⟩)
 replace h106:=XF h106
 refine rS (FA 0 rfl gr rfl)<|rS (L1 (Value.int .i64 x.cU) 2 rfl bu rfl rfl)<|rS (FA 0 rfl gr rfl)<|rS (L1 (Value.int .i64 ((ir r.ab i).cU)) 7 rfl bu rfl rfl)<|rS (BI rfl cv)<|rS (PK rfl)<|rS (MV rfl) ?_
 refine bH (t:=113) rfl (fun h113=>?_) (fun h113=>?_)
 ·replace h113:=DT h113
  refine rS (OX rfl)<|rS (OX rfl)<|rS (OX rfl)<|rS (OX rfl)<|rS (OX rfl)<|rS (OX rfl)<|rS (OX rfl)<|rS (OX rfl)<|rS (OX rfl)<|rS (OX rfl) ?_
  refine rS (OX rfl)<|rS (OX rfl)<|rS (PK rfl)<|RK hK54<|aX rfl<|WS fun _ hK59=>rS (AG rfl)<|rS (AG rfl)<|RK hK59<|aE ?_
  refine hQ _ _ _ (bB (vs:=[(Value.pointer none),(Value.int .i64 51)]) ⟨rfl,rfl,trivial⟩ fun w hs=>fB (false,51,0,none,0,none,0,[],[],[],none,0,[],[],none,0) [] ?_ ?_ rfl rfl (by first|rfl|(show List.all _ _=true; simp only [cond_true,List.all_cons,List.all_nil,iF,jg,Bool.and_true]; rfl)) hs)
  ·rfl
  ·refine ⟨fun q=>Bool.noConfusion (show false=true from q),fun _=>?_⟩; first|(have e:=bZ (r:=r) (me:=me) h21; exact ⟨e.symm,fun q=>h21 (e.symm.trans q)⟩)|(have e:=bk (me:=me) h10 (fun q:cN l r=>by have q1:=q.time; have q2:=q.len; omega); exact ⟨e.symm,fun q=>absurd (e.symm.trans q) (by decide)⟩)|(have e:=bk (me:=me) h10 (fG hx (by unfold eA eN; omega)); exact ⟨e.symm,fun q=>absurd (e.symm.trans q) (by decide)⟩)|(have e:=dE h10 hro h156; exact ⟨e.symm,fun q=>h156 (e.symm.trans q)⟩)|(have e:=c_ (me:=me) h10 hro (by first|rfl|exact h156) (show eb (aW l r)=[] from List.eq_nil_of_length_eq_zero (Int.natCast_eq_zero.1 h164)); exact ⟨e.symm,fun q=>absurd (e.symm.trans q) (by decide)⟩)
 replace h113:=DF h113
 refine rS (FA 0 rfl gr rfl)<|rS (L1 (Value.int .i64 x.cU) 2 rfl bu rfl rfl)<|rS (FA 0 rfl gr rfl)<|rS (L1 (Value.int .i64 ((ir r.ab i).cU)) 7 rfl bu rfl rfl)<|rS (BI rfl g0)<|rS (MV rfl) ?_
 refine bH (t:=119) rfl (fun h119=>?_) (fun h119=>?_)
 rotate_left 1
 ·replace h119:=DF h119
  refine rS (OX rfl)<|rS (OX rfl)<|rS (OX rfl)<|rS (OX rfl)<|rS (OX rfl)<|rS (PK rfl)<|rS (PK rfl)<|RK hK54<|bV rfl<|WK hK53 ?_
  refine aq fun _ hK70=>WS fun _ hK71=>rS (LW 9 rfl eO rfl rfl)<|rS (LW 2 rfl mO rfl rfl)<|rS (CL (uI l kA kC az cA cC bA bC x hin (by first|assumption|omega|(simp; done)|(simp; omega)) (by first|assumption|omega|(simp; done)|(simp; omega))) (ax 10 rfl rfl<|ax 11 rfl rfl<|ax 12 rfl rfl<|ax 13 rfl rfl<|ay) rfl)<|AL rfl dF fun b72=>fO rfl cK rfl<|RK hK71<|WS fun _ hK73=>rS (FA 0 rfl bU rfl) ?_
  refine rS (L1 (Value.int .i64 ((bT l x).Lo)) 0 rfl bu rfl rfl)<|rS (FA 1 rfl cd rfl)<|rS (L1 (Value.int .i64 ((bT l x).Hi)) 0 rfl bu rfl rfl)<|rS (BI rfl gl)<|RK hK73 ?_
  refine bj rfl (fun h134=>?_) (fun h134=>?_)
  rotate_left 1
  ·replace h134:=DF h134
   refine WK hK70<|ar<|rS (LW 3 rfl mO rfl rfl)<|G7 rfl qi rfl<|aP<|aK<|KK hK50 ?_
   have hb77:(aw.cells x)=(aw.cells (ir r.ab (i+1))):=by rw [iD hx]
   rw [hb77]
   refine ar<|rS (BI rfl (aZ ⟨by omega,by omega⟩))<|rS (MV rfl)<|aP ?_
   rw [show (bo l r.ab i)=(bo l r.ab (i+1)) from (mR hx h134).symm]
   have hb78:(Value.int .i64 (((i+1):Nat):Int))=(Value.int .i64 (((i:Nat):Int)+1)):=by exact congrArg (Value.int .i64) (by omega)
   refine aO (hJ46 ⟨(i+1),⟨by omega,gO hl15_1 hx (by unfold eA eN; omega)⟩⟩ _ _ _ rfl (by first|omega|(simp; omega)) (an.cons rfl<|an.cons rfl<|an.cons rfl<|an.cons rfl<|an.cons rfl<|an.cons rfl<|an.cons rfl<|an.cons rfl<|an.cons rfl<|aQ rfl hb78<|an.nil _) (fun w hs=>St.br [4,5,6,7,8,9,10,11,12,13,14,15,16,17] rfl rfl hs))
  replace h134:=DT h134
  obtain ⟨mb,hmb⟩: ∃ y_,(bo l r.ab i)[(x.cU).toNat]? =some y_:=⟨(bo l r.ab i)[(x.cU).toNat]'(by omega),List.getElem?_eq_getElem _⟩
  obtain ⟨ga,hga⟩: ∃ y_,fb[(x.cU).toNat]? =some y_:=⟨fb[(x.cU).toNat]'(by omega),List.getElem?_eq_getElem _⟩
  refine tT 4 hmb hga rfl rfl rfl ?_
  try dsimp only
  refine dm cG 10 (by kernel_rfl)<|dS (MV rfl)<|dS (SX (cx rfl rfl) rfl rfl)<|dS (FA 11 rfl mP rfl)<|dS (L1 (Value.slice (some ⟨b19,0,none⟩) l.aa.length l.aa.length) 7 rfl tm rfl rfl)<|dS (FA 0 rfl gr rfl)<|dS (L1 (Value.int .i64 x.cU) 5 rfl bu rfl rfl) ?_
  have hk74:(List.map oC (cg fb l.aa.length))[(x.cU).toNat]? =some (oC (some ga)):=nu (kr hga)
  refine dS (IA ((x.cU).toNat) rfl (aC (n:=l.aa.length) 8 rfl (by first|(simp; done)|(simp; omega))) rY (by decide) (by omega) (by omega))<|dS (iX ((x.cU).toNat) 0 (Value.map (some ga)) rfl tQ (aC (n:=(cg fb l.aa.length).length) 8 rfl (by simp)) hk74 rfl (by decide) rfl)<|dS (MV rfl)<|dS (LW 2 rfl cp rfl rfl)<|cP<|iQ (kV:=iV) (x:=((i:Nat):Int)) (C':=[(kD iV ga (bG lS (dV mb ((i:Nat):Int) (bT l x)))),_,_,_,_,_,_,_,_,_,_,_,_,_,_,_,_,_,_]) 0 rfl rfl rfl rfl vC (ku qY) rfl (gf _ _ _ _).symm rfl<|RK hK70<|ar<|rS (LW 5 rfl mO rfl rfl)<|G_ rfl qi rfl ?_
  refine aP<|aK<|KK hK50 ?_
  have hb75:(aw.cells x)=(aw.cells (ir r.ab (i+1))):=by rw [iD hx]
  rw [hb75]
  refine ar<|rS (BI rfl (aZ ⟨by omega,by omega⟩))<|rS (MV rfl)<|aP<|uA (f:=ib) (ms:=(bo l r.ab i)) (m:=(dV mb ((i:Nat):Int) (bT l x))) 1 0 (by rw [en]; omega) hga rfl rfl rfl ?_
  rw [oq hx (by omega) h134 hmb]
  have hb76:(Value.int .i64 (((i+1):Nat):Int))=(Value.int .i64 (((i:Nat):Int)+1)):=by exact congrArg (Value.int .i64) (by omega)
  refine aO (hJ46 ⟨(i+1),⟨by omega,gO hl15_1 hx (by unfold eA eN; omega)⟩⟩ _ _ _ rfl (by first|omega|(simp; omega)) (an.cons rfl<|an.cons rfl<|an.cons rfl<|an.cons rfl<|an.cons rfl<|an.cons rfl<|an.cons rfl<|an.cons rfl<|an.cons rfl<|aQ rfl hb76<|an.nil _) (fun w hs=>St.br [0,5,6,7,8,9,10,11,12,13,14,15,16,17] rfl rfl hs))
 replace h119:=DT h119
 refine rS (FA 1 rfl j7 rfl)<|rS (L1 (Value.int .i64 x.Read) 2 rfl bu rfl rfl)<|rS (FA 1 rfl j7 rfl)<|rS (L1 (Value.int .i64 ((ir r.ab i).Read)) 7 rfl bu rfl rfl)<|rS (BI rfl gl)<|rS (PK rfl)<|rS (PK rfl)<|RK hK54 ?_
 refine bj rfl (fun h126=>?_) (fun h126=>?_)
 ·replace h126:=DT h126
  refine WS fun _ hK60=>rS (AG rfl)<|rS (AG rfl)<|RK hK60<|aE ?_
  refine hQ _ _ _ (bB (vs:=[(Value.pointer none),(Value.int .i64 51)]) ⟨rfl,rfl,trivial⟩ fun w hs=>fB (false,51,0,none,0,none,0,[],[],[],none,0,[],[],none,0) [] ?_ ?_ rfl rfl (by first|rfl|(show List.all _ _=true; simp only [cond_true,List.all_cons,List.all_nil,iF,jg,Bool.and_true]; rfl)) hs)
  ·rfl
  ·refine ⟨fun q=>Bool.noConfusion (show false=true from q),fun _=>?_⟩; first|(have e:=bZ (r:=r) (me:=me) h21; exact ⟨e.symm,fun q=>h21 (e.symm.trans q)⟩)|(have e:=bk (me:=me) h10 (fun q:cN l r=>by have q1:=q.time; have q2:=q.len; omega); exact ⟨e.symm,fun q=>absurd (e.symm.trans q) (by decide)⟩)|(have e:=bk (me:=me) h10 (fG hx (by unfold eA eN; omega)); exact ⟨e.symm,fun q=>absurd (e.symm.trans q) (by decide)⟩)|(have e:=dE h10 hro h156; exact ⟨e.symm,fun q=>h156 (e.symm.trans q)⟩)|(have e:=c_ (me:=me) h10 hro (by first|rfl|exact h156) (show eb (aW l r)=[] from List.eq_nil_of_length_eq_zero (Int.natCast_eq_zero.1 h164)); exact ⟨e.symm,fun q=>absurd (e.symm.trans q) (by decide)⟩)
 replace h126:=DF h126
 refine WK hK53<|aq fun _ hK61=>WS fun _ hK62=>rS (LW 9 rfl eO rfl rfl)<|rS (LW 2 rfl mO rfl rfl)<|rS (CL (uI l kA kC az cA cC bA bC x hin (by first|assumption|omega|(simp; done)|(simp; omega)) (by first|assumption|omega|(simp; done)|(simp; omega))) (ax 10 rfl rfl<|ax 11 rfl rfl<|ax 12 rfl rfl<|ax 13 rfl rfl<|ay) rfl)<|AL rfl dF fun b63=>fO rfl cK rfl<|RK hK62<|WS fun _ hK64=>?_
 refine rS (FA 0 rfl bU rfl)<|rS (L1 (Value.int .i64 ((bT l x).Lo)) 0 rfl bu rfl rfl)<|rS (FA 1 rfl cd rfl)<|rS (L1 (Value.int .i64 ((bT l x).Hi)) 0 rfl bu rfl rfl)<|rS (BI rfl gl)<|RK hK64 ?_
 refine bj rfl (fun h134=>?_) (fun h134=>?_)
 rotate_left 1
 ·replace h134:=DF h134
  refine WK hK61<|ar<|rS (LW 3 rfl mO rfl rfl)<|G7 rfl qi rfl<|aP<|aK<|KK hK50 ?_
  have hb68:(aw.cells x)=(aw.cells (ir r.ab (i+1))):=by rw [iD hx]
  rw [hb68]
  refine ar<|rS (BI rfl (aZ ⟨by omega,by omega⟩))<|rS (MV rfl)<|aP ?_
  rw [show (bo l r.ab i)=(bo l r.ab (i+1)) from (mR hx h134).symm]
  have hb69:(Value.int .i64 (((i+1):Nat):Int))=(Value.int .i64 (((i:Nat):Int)+1)):=by exact congrArg (Value.int .i64) (by omega)
  refine aO (hJ46 ⟨(i+1),⟨by omega,gO hl15_1 hx (by unfold eA eN; omega)⟩⟩ _ _ _ rfl (by first|omega|(simp; omega)) (an.cons rfl<|an.cons rfl<|an.cons rfl<|an.cons rfl<|an.cons rfl<|an.cons rfl<|an.cons rfl<|an.cons rfl<|an.cons rfl<|aQ rfl hb69<|an.nil _) (fun w hs=>St.br [4,5,6,7,8,9,10,11,12,13,14,15,16,17] rfl rfl hs))
 replace h134:=DT h134
 obtain ⟨mb,hmb⟩: ∃ y_,(bo l r.ab i)[(x.cU).toNat]? =some y_:=⟨(bo l r.ab i)[(x.cU).toNat]'(by omega),List.getElem?_eq_getElem _⟩
 obtain ⟨ga,hga⟩: ∃ y_,fb[(x.cU).toNat]? =some y_:=⟨fb[(x.cU).toNat]'(by omega),List.getElem?_eq_getElem _⟩
 refine tT 4 hmb hga rfl rfl rfl ?_
 try dsimp only
 refine dm cG 10 (by kernel_rfl)<|dS (MV rfl)<|dS (SX (cx rfl rfl) rfl rfl)<|dS (FA 11 rfl mP rfl)<|dS (L1 (Value.slice (some ⟨b19,0,none⟩) l.aa.length l.aa.length) 7 rfl tm rfl rfl)<|dS (FA 0 rfl gr rfl)<|dS (L1 (Value.int .i64 x.cU) 5 rfl bu rfl rfl) ?_
 have hk65:(List.map oC (cg fb l.aa.length))[(x.cU).toNat]? =some (oC (some ga)):=nu (kr hga)
 refine dS (IA ((x.cU).toNat) rfl (aC (n:=l.aa.length) 8 rfl (by first|(simp; done)|(simp; omega))) rY (by decide) (by omega) (by omega))<|dS (iX ((x.cU).toNat) 0 (Value.map (some ga)) rfl tQ (aC (n:=(cg fb l.aa.length).length) 8 rfl (by simp)) hk65 rfl (by decide) rfl)<|dS (MV rfl)<|dS (LW 2 rfl cp rfl rfl)<|cP<|iQ (kV:=iV) (x:=((i:Nat):Int)) (C':=[(kD iV ga (bG lS (dV mb ((i:Nat):Int) (bT l x)))),_,_,_,_,_,_,_,_,_,_,_,_,_,_,_,_,_,_]) 0 rfl rfl rfl rfl vC (ku qY) rfl (gf _ _ _ _).symm rfl<|RK hK61<|ar<|rS (LW 5 rfl mO rfl rfl)<|G_ rfl qi rfl ?_
 refine aP<|aK<|KK hK50 ?_
 have hb66:(aw.cells x)=(aw.cells (ir r.ab (i+1))):=by rw [iD hx]
 rw [hb66]
 refine ar<|rS (BI rfl (aZ ⟨by omega,by omega⟩))<|rS (MV rfl)<|aP<|uA (f:=ib) (ms:=(bo l r.ab i)) (m:=(dV mb ((i:Nat):Int) (bT l x))) 1 0 (by rw [en]; omega) hga rfl rfl rfl ?_
 rw [oq hx (by omega) h134 hmb]
 have hb67:(Value.int .i64 (((i+1):Nat):Int))=(Value.int .i64 (((i:Nat):Int)+1)):=by exact congrArg (Value.int .i64) (by omega)
 refine aO (hJ46 ⟨(i+1),⟨by omega,gO hl15_1 hx (by unfold eA eN; omega)⟩⟩ _ _ _ rfl (by first|omega|(simp; omega)) (an.cons rfl<|an.cons rfl<|an.cons rfl<|an.cons rfl<|an.cons rfl<|an.cons rfl<|an.cons rfl<|an.cons rfl<|an.cons rfl<|aQ rfl hb67<|an.nil _) (fun w hs=>St.br [0,5,6,7,8,9,10,11,12,13,14,15,16,17] rfl rfl hs))
end
section
open Go.RowKit
set_option linter.unusedVariables false
set_option maxRecDepth 100000 in
set_option maxHeartbeats 400000 in
theorem vX (l:aU) (kA:Option Addr) (kC:Nat) (az:List RA) (cA:Option Addr) (cC:Nat) (bA:Option Addr) (bC:Nat) (r:bK) (sgA:Option Addr) (sgC:Nat) (bq_:Int) (hin:dC l az) (hsl:r.ab.length≤1000000):
 eH Tryz.prog 15 [(Value.agg (aF.cells (aF.mk (au.mk (av.mk kA l.al.length kC)) l.bw (av.mk cA l.ag.length cC) (av.mk bA l.aa.length bC) l.aD l.aV l.aJ)).toArray),(Value.agg (aS.cells (aS.mk r.Start r.cI (av.mk sgA r.ab.length sgC))).toArray),(Value.int .i64 bq_)] [(rd kA l.al.length 9 (l.al.map ah.cells)),(rd cA l.ag.length 2 (List.zipWith aj.cells l.ag az)),(cZ (aL aj.dX l.ag az)),(rd bA l.aa.length 4 (l.aa.map aY.cells)),(rd sgA r.ab.length 2 (r.ab.map aw.cells))] (Value.tuple [(Value.agg (ae.cells (ct l r bq_)).toArray),(Value.int .i64 (dg l r bq_))].toArray):=by
 have htk:=hin.nm
 have hck:=hin.nv
 have has:=hin.m_
 have hbm:=hin.nd
 have hsd:=hin.side
 refine bL HG Tryz.func15 rfl rfl fun w0 Q hQ hN=>?_
 try dsimp only
 refine WS fun _ hK1=>fy rfl fun b2=>fy rfl fun b3=>yn rfl rfl fun b4=>AL rfl dF fun b5=>rS (AG rfl)<|RK hK1<|WS fun _ hK6=>rS (LW 3 rfl eO rfl rfl)<|rS (LW 2 rfl iw rfl rfl) ?_
 refine rS (FU rfl)<|fp (xs:=[.tmp 17]) (cs:=[(Value.func (.func 38) [].toArray [(Value.pointer (some ⟨b2,0,none⟩)),(Value.pointer (some ⟨b4,0,none⟩))].toArray)]) rfl Dh HY rfl rfl rfl rfl (by simp [Value.cells]) rfl rfl fun b7=>cX (Cf l kA kC az cA cC bA bC r sgA sgC (Value.func (.func 38) [].toArray [(Value.pointer (some ⟨b2,0,none⟩)),(Value.pointer (some ⟨b4,0,none⟩))].toArray) (cZ [(rd kA l.al.length 9 (l.al.map ah.cells)),(rd cA l.ag.length 2 (List.zipWith aj.cells l.ag az)),(cZ (aL aj.dX l.ag az)),(rd bA l.aa.length 4 (l.aa.map aY.cells)),(aT b2 28 (aF.cells (aF.mk (au.mk (av.mk kA l.al.length kC)) l.bw (av.mk cA l.ag.length cC) (av.mk bA l.aa.length bC) l.aD l.aV l.aJ))),(aT b4 3 [(Value.int .i64 bq_)])]) (dU l bq_) b7 (by exact nG (fi:=[]) (ca:=[(Value.pointer (some ⟨b2,0,none⟩)),(Value.pointer (some ⟨b4,0,none⟩))]) (mF (xR l kA kC az cA cC bA bC b2 bq_ b4 (by first|assumption|omega)) (ax 0 rfl rfl<|ax 1 rfl rfl<|ax 2 rfl rfl<|ax 3 rfl rfl<|ax 4 rfl rfl<|ax 5 rfl rfl<|ay))) hin hsl) (ax 5 rfl rfl<|ax 6 rfl rfl<|ax 7 rfl rfl<|ax 8 rfl rfl<|ax 9 rfl rfl<|aM (mW (ax 5 rfl rfl<|ax 6 rfl rfl<|ax 7 rfl rfl<|ax 8 rfl rfl<|ax 4 rfl rfl<|ax 2 rfl rfl<|ay))<|ax 0 rfl rfl<|ay) rfl fun y8 hy9=>?_
 obtain ⟨ok25,ec10,gw11,eA12,eC13,tA14,tC15,tb16,fs17,fb18,fA19,fC20,bs21,bb22,qA23,qC24⟩:=y8
 cases ok25
 ·obtain ⟨hec,he⟩:=hy9.2 rfl
  try dsimp only at hec he
  subst hec
  try dsimp only [cond_true,cond_false,List.cons_append,List.nil_append]
  refine rS (MV rfl)<|rS (EX rfl)<|rS (EX rfl)<|rS (AG rfl)<|rS (AG rfl)<|RK hK6<|aq fun _ hK26=>WS fun _ hK27=>rS (MV rfl)<|rS (BI rfl dB) ?_
  refine RK hK27 ?_
  refine bj rfl (fun h23=>?_) (fun h23=>?_)
  rotate_left 1
  ·replace h23:=XF h23
   exact absurd h23 he
  replace h23:=XT h23
  refine WS fun _ hK28=>rS (SX (bp (xs:=[]) (cs:=(ae.cells (ae.mk 0 0))) rfl rfl (bq fI rfl)) rfl rfl)<|rS (MV rfl)<|nk rfl cK rfl<|rS (AG rfl)<|RK hK28<|aE ?_
  refine hQ _ _ _ (bB (vs:=[(Value.agg (ae.cells (ae.mk 0 0)).toArray),(Value.int .i64 (cr l r (dU l bq_)))]) ⟨⟨_,rfl,.inl ⟨_,_,cp,cy (vs:=(ae.cells (ae.mk 0 0))) 1 rfl rfl,rfl,rfl⟩⟩,rfl,trivial⟩ fun w hs=>fq ?_ hs)
  show (Value.tuple [(Value.agg (ae.cells (ae.mk 0 0)).toArray),(Value.int .i64 (cr l r (dU l bq_)))].toArray)=(Value.tuple [(Value.agg (ae.cells (ct l r bq_)).toArray),(Value.int .i64 (dg l r bq_))].toArray)
  clear hs w hQ hN hK28 hK27 hK26 hK6 hK1
  first|(have e:=cR (b:=bq_) he; rw [e.1,e.2]<;>rfl)|(rw [hbq] at he ⊢; have hh:h=l6 l r b:=qE (hfw.min _ _ hm1) (hbw.max _ _ hm2) (hfw.keys _ _ hm1) (hbw.keys _ _ hm2) hr1 hfin hr0; first|(have e:=kz he (hh.symm.trans h50); rw [e.1,e.2]<;>rfl)|(have e:=kx he (fun q=>h50 (hh.trans q)); rw [e.1,e.2,hh]<;>rfl))
 obtain ⟨he,hfw,hbw,hfl,hbl,htl⟩:=hy9.1 rfl
 try dsimp only [cond_true,cond_false,List.cons_append,List.nil_append]
 dsimp only at hfw hbw hfl hbl htl
 obtain ⟨h10,hro,hme,hnn⟩:=dW he
 obtain ⟨htr,hok⟩:=di h10
 have hhd:=hok.head
 unfold cS at hhd
 have hwo:=jf htr hok hro
 have hrt:=hro.time
 have hrl:=hro.len
 have hlel:(aR l l.aa.length).length=l.aa.length:=bI
 have htll:(bo l r.ab r.ab.length).length=l.aa.length:=en
 have hfn:fs17.length=l.aa.length+1:=by have:=hfw.len; rw [show (aW l r).n=l.aa.length from bI] at this; exact this
 have hbn:bs21.length=l.aa.length+1:=by have:=hbw.len; rw [show (aW l r).n=l.aa.length from bI] at this; exact this
 obtain ⟨hb0,hb1⟩:=xH hme
 obtain ⟨b,hbq⟩: ∃ b:Nat,bq_=((b:Nat):Int):=⟨bq_.toNat,by omega⟩
 rw [hbq]
 refine rS (MV rfl)<|rS (EX rfl)<|rS (EX rfl)<|rS (AG rfl)<|rS (AG rfl)<|RK hK6<|aq fun _ hK29=>WS fun _ hK30=>rS (MV rfl)<|rS (SX (fK (r:= .bool false) rfl rfl rfl dB) rfl rfl) ?_
 refine RK hK30<|bV rfl<|WK hK29<|WS fun _ hK31=>rS (SX (bp (xs:=[(0,.const (Value.int .i64 1))]) (cs:=(ae.cells (ae.mk 1 0))) rfl rfl (bq fI rfl)) rfl rfl)<|AL rfl dF fun b32=>fO rfl cK rfl<|RK hK31<|WS fun _ hK33=>rS (LW 0 rfl cp rfl rfl) ?_
 refine AL rfl dF fun b34=>fO rfl cK rfl<|RK hK33<|aq fun _ hK35=>WS fun _ hK36=>rS (MV rfl)<|rS (j8 12 rfl bu rfl) ?_
 obtain ⟨mf,hm1⟩: ∃ y_,fs17[b]? =some y_:=⟨fs17[b]'(by omega),List.getElem?_eq_getElem _⟩
 obtain ⟨mb,hm2⟩: ∃ y_,bs21[b+1]? =some y_:=⟨bs21[b+1]'(by omega),List.getElem?_eq_getElem _⟩
 refine cX (th gw11 b) (ay) rfl fun y37 hy38=>?_
 obtain ⟨x139,x240⟩:=y37
 try dsimp only
 refine RK hK36<|aG ?_
 refine mx (L0:=[(3,(Value.pointer (some ⟨b2,0,none⟩))),(4,(Value.pointer (some ⟨b3,0,none⟩))),(5,(Value.pointer (some ⟨b4,0,none⟩))),(6,(Value.pointer (some ⟨b5,0,none⟩))),(7,(Value.int .i64 0)),(10,(Value.pointer (some ⟨b32,0,none⟩))),(11,(Value.pointer (some ⟨b34,0,none⟩)))]) (F:=[(own eA12 eC13 3 1 ((aR l l.aa.length).map iC)),(own tA14 tC15 120 1 (List.zipWith cl (bo l r.ab r.ab.length) tb16)),(a5 (aL ib (bo l r.ab r.ab.length) tb16)),(own fA19 fC20 122 1 (List.zipWith cl fs17 fb18)),(a5 (aL fW fs17 fb18)),(own qA23 qC24 122 1 (List.zipWith cl bs21 bb22)),(a5 (aL fW bs21 bb22)),(aT gw11 117 (aN.cells (aN.mk (aF.mk (au.mk (av.mk kA l.al.length kC)) l.bw (av.mk cA l.ag.length cC) (av.mk bA l.aa.length bC) l.aD l.aV l.aJ) (aS.mk r.Start r.cI (av.mk sgA r.ab.length sgC)) (av.mk eA12 ((aR l l.aa.length).length) eC13) (av.mk tA14 ((bo l r.ab r.ab.length).length) tC15) (av.mk fA19 fs17.length fC20) (av.mk qA23 bs21.length qC24)))),(aT x139 77 [(Value.pointer (some ⟨gw11,0,none⟩))]),(aT x240 3 [(Value.int .i64 ((b:Nat):Int))])]) (fun k (y:ae)=>(iW k y)∧(∀ q∈k,q∈kI (aW l r) b mf mb)) (fun k y=>[(aT b34 47 (ae.cells y)),(aT b32 47 (ae.cells (ae.mk 1 0))),(aT b5 47 (ae.cells (ae.mk 0 0))),(aT b4 3 [(Value.int .i64 ((b:Nat):Int))]),(aT b3 31 (aS.cells (aS.mk r.Start r.cI (av.mk sgA r.ab.length sgC)))),(aT b2 28 (aF.cells (aF.mk (au.mk (av.mk kA l.al.length kC)) l.bw (av.mk cA l.ag.length cC) (av.mk bA l.aa.length bC) l.aD l.aV l.aJ))),(rd kA l.al.length 9 (l.al.map ah.cells)).ro,(rd cA l.ag.length 2 (List.zipWith aj.cells l.ag az)).ro,(cZ (aL aj.dX l.ag az)).ro,(rd bA l.aa.length 4 (l.aa.map aY.cells)).ro,(rd sgA r.ab.length 2 (r.ab.map aw.cells)).ro]) (fun _ (_:Unit)=>False) (fun _ _=>[]) [2,3,13,14,15,16,17,18,19,20,21] [5,6,7,8,9,10,11,4,0,1] k9 rfl rfl (qM (aF.mk (au.mk (av.mk kA l.al.length kC)) l.bw (av.mk cA l.ag.length cC) (av.mk bA l.aa.length bC) l.aD l.aV l.aJ) (aS.mk r.Start r.cI (av.mk sgA r.ab.length sgC)) (aR l l.aa.length) (bo l r.ab r.ab.length) eA12 eC13 tb16 tA14 tC15 fs17 bs21 fb18 fA19 fC20 bb22 qA23 qC24 gw11 b x139 x240 mf mb (by rw [hlel]; omega) (by exact hwo) (by rw [htll]; omega) (by exact hfw) (by omega) (by exact hbw) (by omega) (by show r.ab.length≤1000; omega) (by exact hm1) (by exact hm2)) rfl rfl rfl (by exact ⟨wk,fun q hq=>by cases hq⟩) (by simp only [List.forall_mem_cons,List.not_mem_nil,false_imp_iff,implies_true,and_true]; exact ⟨⟨_,List.mem_of_getElem? (i:=0) rfl,(eh (by simp))⟩,⟨_,List.mem_of_getElem? (i:=1) rfl,(eh (by rw [List.length_zipWith]; omega))⟩,⟨_,List.mem_of_getElem? (i:=2) rfl,iE⟩,⟨_,List.mem_of_getElem? (i:=3) rfl,(eh (by rw [List.length_zipWith]; omega))⟩,⟨_,List.mem_of_getElem? (i:=4) rfl,iE⟩,⟨_,List.mem_of_getElem? (i:=5) rfl,(eh (by rw [List.length_zipWith]; omega))⟩,⟨_,List.mem_of_getElem? (i:=6) rfl,iE⟩,⟨_,List.mem_of_getElem? (i:=7) rfl,(ck _)⟩,⟨_,List.mem_of_getElem? (i:=8) rfl,(ck _)⟩,⟨_,List.mem_of_getElem? (i:=9) rfl,(ck _)⟩⟩) (by rintro k x k2 ⟨o,_,rfl,_⟩; rfl) rfl (an.cons rfl<|an.cons rfl<|an.cons rfl<|an.cons rfl<|an.cons rfl<|an.cons rfl<|an.cons rfl<|an.nil _) ?_ ?_ (fun _ _ _ h=>h.elim) (fun _ _ h=>h.elim)
 ·rintro k x k2 h lr ra rb S w1 K41 Qr42 hsz hx hin43 hK41 hQr42 xQr42 yQr42
  obtain ⟨q,hq,rfl,rfl⟩:=hx
  obtain ⟨hr0,hr1⟩:=hin43
  try dsimp only
  refine ar<|AL rfl dF fun b44=>fO rfl cK rfl<|aP<|e7 (fun _ _ h=>h) (fun w hs=>St.br [1,0,2,3,4,5,6,7,8,9,10,11,12] rfl rfl hs) ?_
  refine aO (hK41 _ _ ?_)
  refine aG<|aq fun _ hK45=>WS fun _ hK46=>rS (LW 2 rfl cp rfl rfl)<|rS (LW 3 rfl cp rfl rfl)<|rS (BI rfl (Fv _ _ h (ae.mk 1 0)))<|RK hK46 ?_
  refine bj rfl (fun h35=>?_) (fun h35=>?_)
  rotate_left 1
  ·replace h35:=XF h35
   refine WK hK45<|ar<|rS (LW 1 rfl cp rfl rfl)<|rM rfl cK rfl<|aP<|aK ?_
   exact hQr42 q.2 _ _ (by refine ⟨uw hr0 (kN hq) ?_,fun z hz=>?_⟩; (first|exact if_neg h35|exact if_pos h35); (rcases List.mem_append.1 hz with hz|hz; exact hr1 z hz; (rw [List.mem_singleton.1 hz]; exact hq))) (fun w hs=>St.br [0,2,3,4,5,6,7,8,9,10,11,12] rfl rfl hs)
  replace h35:=XT h35
  refine ar<|rS (FA 0 rfl bU rfl)<|rS (L1 (Value.int .i64 q.2.Lo) 1 rfl bu rfl rfl)<|rS (FA 0 rfl bU rfl)<|rS (L1 (Value.int .i64 h.Lo) 2 rfl bu rfl rfl)<|rS (MN rfl)<|rS (FA 1 rfl cd rfl)<|rS (L1 (Value.int .i64 q.2.Hi) 1 rfl bu rfl rfl)<|rS (FA 1 rfl cd rfl)<|rS (L1 (Value.int .i64 h.Hi) 2 rfl bu rfl rfl) ?_
  refine rS (MX rfl)<|rS (SX (bp (xs:=[(0,.tmp 40),(1,.tmp 45)]) (cs:=(ae.cells (ae.mk (min q.2.Lo h.Lo) (max q.2.Hi h.Hi)))) rfl rfl (bq fI rfl)) rfl rfl)<|nk rfl cK rfl<|RK hK45<|ar<|rS (LW 1 rfl cp rfl rfl)<|rM rfl cK rfl<|aP<|aK ?_
  exact hQr42 (ae.mk (min q.2.Lo h.Lo) (max q.2.Hi h.Hi)) _ _ (by refine ⟨uw hr0 (kN hq) ?_,fun z hz=>?_⟩; (first|exact if_neg h35|exact if_pos h35); (rcases List.mem_append.1 hz with hz|hz; exact hr1 z hz; (rw [List.mem_singleton.1 hz]; exact hq))) (fun w hs=>St.br [0,2,3,4,5,6,7,8,9,10,11,12] rfl rfl hs)
 rintro r47 k h hfin hin48
 obtain ⟨hr0,hr1⟩:=hin48
 try dsimp only
 refine aK<|KK hK35<|aq fun _ hK49=>WS fun _ hK50=>rS (LW 11 rfl cp rfl rfl)<|rS (LW 12 rfl cp rfl rfl)<|rS (BI rfl (yo _ _ h (ae.mk 1 0)))<|RK hK50 ?_
 refine bj rfl (fun h50=>?_) (fun h50=>?_)
 rotate_left 1
 ·replace h50:=DF h50
  refine WK hK49<|WS fun _ hK52=>rS (LW 11 rfl cp rfl rfl)<|pQ (vs:=(ae.cells h)) (cs':=(ae.cells h)) (C':=[_,_,_,_,_,_,_,_,_,_,_,_,_,(aT b5 47 (ae.cells h)),_,_,_,_,_,_,_,_]) 13 rfl rfl rfl cK rfl rfl rfl rfl rfl rfl rfl<|rS (AG rfl)<|RK hK52<|aE ?_
  refine hQ _ _ _ (qn 0 rfl rfl<|bB (vs:=[(Value.agg (ae.cells h).toArray),(Value.int .i64 0)]) ⟨⟨_,rfl,.inl ⟨_,_,cp,cy (vs:=(ae.cells h)) 13 rfl rfl,rfl,rfl⟩⟩,rfl,trivial⟩ fun w hs=>fq ?_ hs)
  show (Value.tuple [(Value.agg (ae.cells h).toArray),(Value.int .i64 0)].toArray)=(Value.tuple [(Value.agg (ae.cells (ct l r bq_)).toArray),(Value.int .i64 (dg l r bq_))].toArray)
  clear hs w hQ hN hK52 hK50 hK49 hK36 hK35 hK33 hK31 hK30 hK29 hK6 hK1
  first|(have e:=cR (b:=bq_) he; rw [e.1,e.2]<;>rfl)|(rw [hbq] at he ⊢; have hh:h=l6 l r b:=qE (hfw.min _ _ hm1) (hbw.max _ _ hm2) (hfw.keys _ _ hm1) (hbw.keys _ _ hm2) hr1 hfin hr0; first|(have e:=kz he (hh.symm.trans h50); rw [e.1,e.2]<;>rfl)|(have e:=kx he (fun q=>h50 (hh.trans q)); rw [e.1,e.2,hh]<;>rfl))
 replace h50:=DT h50
 refine WS fun _ hK51=>rS (SX (bp (xs:=[]) (cs:=(ae.cells (ae.mk 0 0))) rfl rfl (bq fI rfl)) rfl rfl)<|pQ (vs:=(ae.cells (ae.mk 0 0))) (cs':=(ae.cells (ae.mk 0 0))) (C':=[_,_,_,_,_,_,_,_,_,_,_,_,_,(aT b5 47 (ae.cells (ae.mk 0 0))),_,_,_,_,_,_,_,_]) 13 rfl rfl rfl cK rfl rfl rfl rfl rfl rfl rfl<|rS (AG rfl)<|RK hK51<|aE ?_
 refine hQ _ _ _ (qn 0 rfl rfl<|bB (vs:=[(Value.agg (ae.cells (ae.mk 0 0)).toArray),(Value.int .i64 6)]) ⟨⟨_,rfl,.inl ⟨_,_,cp,cy (vs:=(ae.cells (ae.mk 0 0))) 13 rfl rfl,rfl,rfl⟩⟩,rfl,trivial⟩ fun w hs=>fq ?_ hs)
 show (Value.tuple [(Value.agg (ae.cells (ae.mk 0 0)).toArray),(Value.int .i64 6)].toArray)=(Value.tuple [(Value.agg (ae.cells (ct l r bq_)).toArray),(Value.int .i64 (dg l r bq_))].toArray)
 clear hs w hQ hN hK51 hK50 hK49 hK36 hK35 hK33 hK31 hK30 hK29 hK6 hK1
 first|(have e:=cR (b:=bq_) he; rw [e.1,e.2]<;>rfl)|(rw [hbq] at he ⊢; have hh:h=l6 l r b:=qE (hfw.min _ _ hm1) (hbw.max _ _ hm2) (hfw.keys _ _ hm1) (hbw.keys _ _ hm2) hr1 hfin hr0; first|(have e:=kz he (hh.symm.trans h50); rw [e.1,e.2]<;>rfl)|(have e:=kx he (fun q=>h50 (hh.trans q)); rw [e.1,e.2,hh]<;>rfl))
set_option maxRecDepth 100000 in
set_option maxHeartbeats 400000 in
theorem FD (l:aU) (kA:Option Addr) (kC:Nat) (az:List RA) (cA:Option Addr) (cC:Nat) (bA:Option Addr) (bC:Nat) (r:bK) (sgA:Option Addr) (sgC:Nat) (hin:dC l az) (hsl:r.ab.length≤1000000):
 eH Tryz.prog 17 [(Value.agg (aF.cells (aF.mk (au.mk (av.mk kA l.al.length kC)) l.bw (av.mk cA l.ag.length cC) (av.mk bA l.aa.length bC) l.aD l.aV l.aJ)).toArray),(Value.agg (aS.cells (aS.mk r.Start r.cI (av.mk sgA r.ab.length sgC))).toArray)] [(rd kA l.al.length 9 (l.al.map ah.cells)),(rd cA l.ag.length 2 (List.zipWith aj.cells l.ag az)),(cZ (aL aj.dX l.ag az)),(rd bA l.aa.length 4 (l.aa.map aY.cells)),(rd sgA r.ab.length 2 (r.ab.map aw.cells))] (Value.tuple [(Value.agg (ae.cells (tp l r)).toArray),(Value.int .i64 (dg l r l.aD))].toArray):=by
 have htk:=hin.nm
 have hck:=hin.nv
 have has:=hin.m_
 have hbm:=hin.nd
 have hsd:=hin.side
 refine bL HL Tryz.func17 rfl rfl fun w0 Q hQ hN=>?_
 try dsimp only
 refine WS fun _ hK1=>fy rfl fun b2=>fy rfl fun b3=>AL rfl dF fun b4=>rS (AG rfl)<|RK hK1<|WS fun _ hK5=>rS (LW 2 rfl eO rfl rfl)<|rS (LW 1 rfl iw rfl rfl)<|rS (FA 4 rfl lV rfl) ?_
 refine rS (L1 (Value.int .i64 l.aD) 2 rfl bu rfl rfl)<|rS (CL (vX l kA kC az cA cC bA bC r sgA sgC l.aD hin hsl) (ax 3 rfl rfl<|ax 4 rfl rfl<|ax 5 rfl rfl<|ax 6 rfl rfl<|ax 7 rfl rfl<|ay) rfl)<|rS (MV rfl)<|rS (EX rfl)<|rS (EX rfl)<|AL rfl dF fun b6=>fO rfl cK rfl<|rS (AG rfl)<|RK hK5<|aq fun _ hK7=>?_
 refine WS fun _ hK8=>rS (MV rfl)<|rS (BI rfl dB)<|RK hK8 ?_
 refine bj rfl (fun h17=>?_) (fun h17=>?_)
 ·replace h17:=XT h17
  refine WS fun _ hK9=>rS (SX (bp (xs:=[]) (cs:=(ae.cells (ae.mk 0 0))) rfl rfl (bq fI rfl)) rfl rfl)<|rS (MV rfl)<|nk rfl cK rfl<|rS (AG rfl)<|RK hK9<|aE ?_
  refine hQ _ _ _ (bB (vs:=[(Value.agg (ae.cells (ae.mk 0 0)).toArray),(Value.int .i64 (dg l r l.aD))]) ⟨⟨_,rfl,.inl ⟨_,_,cp,cy (vs:=(ae.cells (ae.mk 0 0))) 1 rfl rfl,rfl,rfl⟩⟩,rfl,trivial⟩ fun w hs=>fq ?_ hs)
  show (Value.tuple [(Value.agg (ae.cells (ae.mk 0 0)).toArray),(Value.int .i64 (dg l r l.aD))].toArray)=(Value.tuple [(Value.agg (ae.cells (tp l r)).toArray),(Value.int .i64 (dg l r l.aD))].toArray)
  clear hs w hQ hN hK9 hK8 hK7 hK5 hK1
  first|(rw [nR h17]<;>rfl)|(rw [sX h17,h17]<;>rfl)
 replace h17:=XF h17
 refine WK hK7<|WS fun _ hK10=>rS (FA 0 rfl bU rfl)<|rS (L1 (Value.int .i64 ((ct l r l.aD).Lo)) 0 rfl bu rfl rfl)<|rS (FA 0 rfl jr rfl)<|rS (L1 (Value.int .i64 r.Start) 2 rfl bu rfl rfl) ?_
 have hpb:=wi h17
 have hpr:=(v3 h17).time
 refine rS (BI rfl (da ⟨by omega,by omega⟩))<|rS (FA 1 rfl cd rfl)<|rS (L1 (Value.int .i64 ((ct l r l.aD).Hi)) 0 rfl bu rfl rfl)<|rS (FA 0 rfl jr rfl)<|rS (L1 (Value.int .i64 r.Start) 2 rfl bu rfl rfl)<|rS (BI rfl (da ⟨by omega,by omega⟩))<|rS (SX (bp (xs:=[(0,.tmp 24),(1,.tmp 29)]) (cs:=(ae.cells (ae.mk (((ct l r l.aD).Lo)-r.Start) (((ct l r l.aD).Hi)-r.Start)))) rfl rfl (bq fI rfl)) rfl rfl)<|nk rfl cK rfl<|rS (AG rfl)<|RK hK10 ?_
 refine aE ?_
 refine hQ _ _ _ (bB (vs:=[(Value.agg (ae.cells (ae.mk (((ct l r l.aD).Lo)-r.Start) (((ct l r l.aD).Hi)-r.Start))).toArray),(Value.int .i64 0)]) ⟨⟨_,rfl,.inl ⟨_,_,cp,cy (vs:=(ae.cells (ae.mk (((ct l r l.aD).Lo)-r.Start) (((ct l r l.aD).Hi)-r.Start)))) 1 rfl rfl,rfl,rfl⟩⟩,rfl,trivial⟩ fun w hs=>fq ?_ hs)
 show (Value.tuple [(Value.agg (ae.cells (ae.mk (((ct l r l.aD).Lo)-r.Start) (((ct l r l.aD).Hi)-r.Start))).toArray),(Value.int .i64 0)].toArray)=(Value.tuple [(Value.agg (ae.cells (tp l r)).toArray),(Value.int .i64 (dg l r l.aD))].toArray)
 clear hs w hQ hN hK10 hK8 hK7 hK5 hK1
 first|(rw [nR h17]<;>rfl)|(rw [sX h17,h17]<;>rfl)
end
section
open Go.RowKit
set_option linter.unusedVariables false
section
variable {K:Type} [DecidableEq K] {kV:K→Value}
variable {E:eI} {ops:Array Oper} {Q:dh} {rest:List Oper} {D:List Deferred} {L:List (Nat×Value)} {C:List aA}
variable {ty:TypeId} {ps:String} {af:Array Edge} {g:Option (Nat×Bool)}
theorem xn {t kt et:TypeId} {xm xk:Operand} {ts:Array TypeId} {b:Nat} {x:K} {m m':List (K×Value)} {C':List aA} (i:Nat) (hg:jv ops L g=true) (hm:ev L xm=some (.map (some b))) (hk:ev L xk=some (kV x)) (hts:ts[0]? =some t)
 (ht:E.P.underlying t=some (.map kt et)) (hkt:rQ E.P kt kV) (hC:C[i]? =some (kD kV b m)) (hm':cV m x=m') (hC':C.set i (kD kV b m')=C') (k:RJ E ops Q rest D L C'):
 RJ E ops Q (⟨none,.call {callee:= .builtin .delete,args:= #[xm,xk],argTypes:=ts},ty,ps,af,g⟩::rest) D L C:=by
 subst hm' hC'
 intro a w hfr hs
 unfold pc
 rw [if_pos (dz hfr hg)]
 obtain ⟨es,c,he,hi⟩:=hs.holds _ (List.mem_of_getElem? hC)
 have hget:(getObj b).run E.P w= .ok (.map es c) w:=MapKept.run_getObj_map he
 rcases oH (P:=E.P) (w:=w) (x:=x) hkt hi with ⟨h1,h2⟩|⟨j,v0,h1,h2,h3⟩
 ·refine gH (v:= .tuple #[]) (w':={w with heap:=w.heap.setIfInBounds b (.map es c)}) (by simp) ?_ ?_
  ·simp [execOp,resolve,invoke,builtin,hfr.ev hm,hfr.ev hk,Builtin.delete_,hts,run_underlying ht,hget,iJ hkt,h1,MapKept.run_setObj_map _ he]
  ·refine k _ _ ⟨hfr.defers,hfr.size,hfr.at_⟩ (hs.wK (b:=b) i hC rfl rfl (kT _) (fun _ h=>h) ⟨_,_,mA he,?_⟩)
   rw [w8 h2]; exact hi
 ·refine gH (v:= .tuple #[]) (w':={w with heap:=w.heap.setIfInBounds b (.map (es.eraseIdxIfInBounds j) c)}) (by simp) ?_ ?_
  ·simp [execOp,resolve,invoke,builtin,hfr.ev hm,hfr.ev hk,Builtin.delete_,hts,run_underlying ht,hget,iJ hkt,h1,MapKept.run_setObj_map _ he]
  ·exact k _ _ ⟨hfr.defers,hfr.size,hfr.at_⟩ (hs.wK (b:=b) i hC rfl rfl (kT _) (fun _ h=>h) ⟨_,_,mA he,hi.del h2⟩)
end
end
section
open Go.RowKit
set_option linter.unusedVariables false
set_option maxRecDepth 100000 in
set_option maxHeartbeats 400000 in
theorem Db (x:Int):
 eH Tryz.prog 129 [(Value.int .i64 x)] [] (Value.bool false):=by
 refine bL Gi Tryz.func129 rfl rfl fun w0 Q hQ hN=>?_
 try dsimp only
 refine WS fun _ hK1=>rS (AG rfl)<|RK hK1<|WS fun _ hK2=>rS (MV rfl)<|rS (MV rfl)<|rS (BI rfl dB)<|rS (AG rfl)<|RK hK2<|aE ?_
 refine Q1 hQ rfl rfl rfl ?_
 simp
set_option maxRecDepth 100000 in
set_option maxHeartbeats 400000 in
theorem CX (x:Int) (y:Int):
 eH Tryz.prog 99 [(Value.int .i64 x),(Value.int .i64 y)] [] (Value.bool (decide (x<y))):=by
 refine bL Ic Tryz.func99 rfl rfl fun w0 Q hQ hN=>?_
 try dsimp only
 refine WS fun _ hK1=>rS (AG rfl)<|RK hK1<|WS fun _ hK2=>rS (MV rfl)<|rS (CL (Db x) (ay) rfl)<|rS (MV rfl)<|rS (OX rfl)<|rS (OX rfl)<|rS (OX rfl) ?_
 refine rS (PK rfl)<|rS (MV rfl)<|rS (MV rfl)<|rS (MV rfl)<|rS (BI rfl cv)<|rS (PK rfl)<|rS (AG rfl)<|RK hK2<|aE<|Q1 hQ rfl rfl rfl ?_
 exact congrArg Value.bool (decide_eq_decide.2 (by omega))
set_option maxRecDepth 100000 in
set_option maxHeartbeats 400000 in
theorem zg (l:List Int) (lA:Option Addr) (lC:Nat) (hlen:l.length≤1000000):
 CY Tryz.prog 93 [(Value.slice lA l.length lC),(Value.int .i64 0),(Value.int .i64 ((l.length:Nat):Int))] [] (own lA lC 3 1 (l.map iC)) (fun (x:(List Int))=>(Value.tuple [].toArray)) (fun (x:(List Int))=>x.Perm l∧x.Pairwise (· ≤ ·)) (fun (x:(List Int))=>(own lA lC 3 1 (x.map iC))):=by
 refine sM Ht Tryz.func93 rfl rfl fun w0 Q hQ hN=>?_
 try dsimp only
 refine WS fun _ hK1=>rS (MV rfl)<|rS (SX (fK (r:= .int .i64 1) rfl rfl rfl (aZ ⟨by decide,by decide⟩)) rfl rfl)<|rS (AG rfl)<|RK hK1<|aG ?_
 have hinit:(1≤1∧(1≤l.length∨1=1))∧(l.length=l.length)∧(l.Perm l)∧(D2 l 1):=by exact ⟨by omega,rfl,List.Perm.refl _,C6⟩
 refine cq (ι:={z:Nat×(List Int) // (1≤z.1∧(z.1≤l.length∨z.1=1))∧(z.2.length=l.length)∧(z.2.Perm l)∧(D2 z.2 z.1)}) (fun z=>[(0,(Value.slice lA l.length lC)),(1,(Value.int .i64 0)),(2,(Value.int .i64 ((l.length:Nat):Int))),(6,(Value.int .i64 (z.1.1:Int)))]) (fun z=>[(own lA lC 3 1 (z.1.2.map iC))]) (fun z=>l.length-z.1.1) ⟨(1,l),hinit⟩ (an.cons rfl<|an.cons rfl<|an.cons rfl<|an.cons rfl<|an.nil _) (fun w hs=>St.br [0] rfl rfl hs) ?_
 clear hinit
 rintro ⟨⟨i,m⟩,⟨hl1_0,hl1_1,hl1_2,hl1_3⟩⟩ J2 hJ2
 try dsimp only at hl1_0 hl1_1 hl1_2 hl1_3
 try dsimp only
 refine aq fun _ hK3=>WS fun _ hK4=>rS (MV rfl)<|rS (MV rfl)<|rS (BI rfl cv)<|RK hK4 ?_
 refine bj rfl (fun h5=>?_) (fun h5=>?_)
 rotate_left 1
 ·replace h5:=DF h5
  refine bE<|ai<|ai<|aH ?_
  refine hN _ _ _ (bB (vs:=[]) trivial fun w hs=>xO m 0 ?_ ?_ rfl rfl hs)
  ·clear hs w hQ hN hK4 hK3 hK1; rfl
  ·clear hs w hQ hN hK4 hK3 hK1; exact ⟨hl1_2,Cc hl1_3 (by omega)⟩
 replace h5:=DT h5
 refine WK hK3<|aq fun _ hK6=>aG<|WS fun _ hK7=>rS (MV rfl)<|rS (AG rfl)<|RK hK7<|aG ?_
 have hinit:(i≤i)∧(m.length=l.length)∧(m.Perm l)∧(E8 m i i):=by exact ⟨Nat.le_refl _,hl1_1,hl1_2,zG hl1_3 (by omega)⟩
 refine cq (ι:={z:Nat×(List Int) // (z.1≤i)∧(z.2.length=l.length)∧(z.2.Perm l)∧(E8 z.2 i z.1)}) (fun z=>[(0,(Value.slice lA l.length lC)),(1,(Value.int .i64 0)),(2,(Value.int .i64 ((l.length:Nat):Int))),(6,(Value.int .i64 (i:Int))),(7,(Value.int .i64 ((z.1.1:Nat):Int)))]) (fun z=>[(own lA lC 3 1 (z.1.2.map iC))]) (fun z=>z.1.1) ⟨(i,m),hinit⟩ (an.cons rfl<|an.cons rfl<|an.cons rfl<|an.cons rfl<|an.cons rfl<|an.nil _) (fun w hs=>St.br [0] rfl rfl hs) ?_
 clear hinit
 rintro ⟨⟨j,q⟩,⟨hl4_0,hl4_1,hl4_2,hl4_3⟩⟩ J8 hJ8
 try dsimp only at hl4_0 hl4_1 hl4_2 hl4_3
 try dsimp only
 refine aq fun _ hK9=>aq fun _ hK10=>dm cG 15 (by kernel_rfl)<|dS (MV rfl)<|dS (MV rfl)<|dS (BI rfl fY)<|dS (MV rfl) ?_
 refine e9 (t:=19) rfl (fun hj=>?_) (fun hj=>?_)
 rotate_left 1
 ·replace hj:=DF hj
  refine dS (OX rfl)<|dS (OX rfl)<|dS (OX rfl)<|dS (OX rfl)<|dS (OX rfl)<|dS (OX rfl)<|dS (OX rfl)<|dS (OX rfl)<|dS (OX rfl)<|dS (OX rfl) ?_
  refine dS (PK rfl)<|cP<|RK hK10<|bV rfl<|bE<|ai<|ai<|aH<|aK<|KK hK6 ?_
  refine ar<|rS (MV rfl)<|rS (BI rfl (aZ ⟨by omega,by omega⟩))<|rS (AG rfl)<|aP ?_
  refine aO (hJ2 ⟨((i+1),q),⟨by omega,hl4_1,hl4_2,by first|exact v8 (by omega) hl4_3|exact vM hx hy (by omega) hl4_0 hless hl4_3⟩⟩ _ _ _ rfl (by simp only []; omega) (an.cons rfl<|an.cons rfl<|an.cons rfl<|an.cons rfl<|an.nil _) (fun w hs=>St.br [0] rfl rfl hs))
 replace hj:=DT hj
 refine dS (MV rfl)<|dS (MV rfl) ?_
 obtain ⟨x,hx⟩: ∃ y_,q[j]? =some y_:=⟨q[j]'(by omega),List.getElem?_eq_getElem _⟩
 have hxm:(q.map iC)[j]? =some (iC x):=by rw [List.getElem?_map,hx]; rfl
 refine dS (IA j rfl (aC (n:=l.length) 0 rfl (by first|(simp; done)|(simp; omega))) dY (by decide) (by omega) (by omega))<|dS (iX j 0 (Value.int .i64 x) rfl bu (aC (n:=q.length) 0 rfl (by simp)) hxm rfl (by decide) rfl)<|dS (MV rfl)<|dS (MV rfl)<|dS (BI rfl (da ⟨by omega,by omega⟩)) ?_
 obtain ⟨y,hy⟩: ∃ y_,q[(j-1)]? =some y_:=⟨q[(j-1)]'(by omega),List.getElem?_eq_getElem _⟩
 have hym:(q.map iC)[(j-1)]? =some (iC y):=by rw [List.getElem?_map,hy]; rfl
 refine dS (IA (j-1) rfl (aC (n:=l.length) 0 rfl (by first|(simp; done)|(simp; omega))) dY (by decide) (by omega) (by omega))<|dS (iX (j-1) 0 (Value.int .i64 y) rfl bu (aC (n:=q.length) 0 rfl (by simp)) hym rfl (by decide) rfl)<|dS (CL (CX x y) (ay) rfl)<|dS (PK rfl)<|cP<|RK hK10 ?_
 refine bj rfl (fun hless=>?_) (fun hless=>?_)
 rotate_left 1
 ·replace hless:=DF hless
  refine bE<|ai<|ai<|aH<|aK<|KK hK6<|ar<|rS (MV rfl)<|rS (BI rfl (aZ ⟨by omega,by omega⟩))<|rS (AG rfl) ?_
  refine aP ?_
  refine aO (hJ2 ⟨((i+1),q),⟨by omega,hl4_1,hl4_2,by first|exact v8 (by omega) hl4_3|exact vM hx hy (by omega) hl4_0 hless hl4_3⟩⟩ _ _ _ rfl (by simp only []; omega) (an.cons rfl<|an.cons rfl<|an.cons rfl<|an.cons rfl<|an.nil _) (fun w hs=>St.br [0] rfl rfl hs))
 replace hless:=DT hless
 refine WK hK9<|aq fun _ hK11=>aG<|er cG [0,1,2,3,4,5,6,7,8,9,10,11,12,13,14] [15,16,17] [false,false,false,false,false,false,false,false,true,true,false,false,true,true,true] [false,false,false] [] [(own lA lC 3 1 (q.map iC))] (by kernel_rfl) (fun w hs=>St.br [] rfl rfl hs) (fun w hs=>St.br [0] rfl rfl hs)<|eS rfl (MV rfl)<|eS rfl (MV rfl)<|eS rfl (MV rfl)<|eS rfl (MV rfl)<|eS rfl (BI rfl (da ⟨by omega,by omega⟩))<|eS rfl (MV rfl) ?_
 refine eS rfl (MV rfl)<|eS rfl (BI rfl (da ⟨by omega,by omega⟩))<|fS rfl (IA (j-1) rfl (aC (n:=l.length) 0 rfl (by first|(simp; done)|(simp; omega))) dY (by decide) (by omega) (by omega))<|fS rfl (iX (j-1) 0 (Value.int .i64 y) rfl bu (aC (n:=q.length) 0 rfl (by simp)) hym rfl (by decide) rfl)<|eS rfl (MV rfl)<|eS rfl (MV rfl)<|fS rfl (IA j rfl (aC (n:=l.length) 0 rfl (by first|(simp; done)|(simp; omega))) dY (by decide) (by omega) (by omega))<|fS rfl (iX j 0 (Value.int .i64 x) rfl bu (aC (n:=q.length) 0 rfl (by simp)) hxm rfl (by decide) rfl)<|fS rfl (IA j rfl (aC (n:=l.length) 0 rfl (by first|(simp; done)|(simp; omega))) dY (by decide) (by omega) (by omega))<|fw rfl ?_
 refine cL rfl fun T12 hT12=>fP (k:=j) (o:=0) (vs:=[(Value.int .i64 y)]) (es':=(List.map iC (q.set j y))) (C':=[(own lA lC 3 1 (List.map iC (q.set j y)))]) 0 rfl rfl rfl yN rfl rfl rfl rfl hxm rfl (by decide) (by exact (List.map_set (f:=iC) (l:=q) (i:=j) (a:=y)).symm) rfl<|RN hT12 [] rfl rfl<|cL rfl fun T13 hT13=>?_
 obtain ⟨x14,hx15⟩: ∃ y_,(q.set j y)[(j-1)]? =some y_:=⟨(q.set j y)[(j-1)]'(by first|omega|(simp; omega)),List.getElem?_eq_getElem _⟩
 have hx15m:(List.map iC (q.set j y))[(j-1)]? =some (iC x14):=by rw [List.getElem?_map,hx15]; rfl
 refine rS (IA (j-1) rfl (aC (n:=l.length) 0 rfl (by first|(simp; done)|(simp; omega))) dY (by decide) (by omega) (by omega))<|RN hT13 [] rfl rfl<|cL rfl fun T16 hT16=>fP (k:=(j-1)) (o:=0) (vs:=[(Value.int .i64 x)]) (es':=(List.map iC ((q.set j y).set (j-1) x))) (C':=[(own lA lC 3 1 (List.map iC ((q.set j y).set (j-1) x)))]) 0 rfl rfl rfl yN rfl rfl rfl rfl hx15m rfl (by decide) (by exact (List.map_set (f:=iC) (l:=(q.set j y)) (i:=(j-1)) (a:=x)).symm) rfl<|RN hT16 [] rfl rfl<|g_ rfl<|aK<|KK hK11<|ar<|rS (MV rfl) ?_
 refine rS (BI rfl (da ⟨by omega,by omega⟩))<|rS (AG rfl)<|aP ?_
 have hb17:(Value.int .i64 (((j-1):Nat):Int))=(Value.int .i64 (((j:Nat):Int)-1)):=by exact congrArg (Value.int .i64) (by omega)
 refine aO (hJ8 ⟨((j-1),((q.set j y).set (j-1) x)),⟨by omega,by simp; exact hl4_1,(zS hx hy).trans hl4_2,By hx hy (by omega) hl4_0 hless hl4_3⟩⟩ _ _ _ rfl (by simp only []; omega) (an.cons rfl<|an.cons rfl<|an.cons rfl<|an.cons rfl<|aQ rfl hb17<|an.nil _) (fun w hs=>St.br [0] rfl rfl hs))
set_option maxRecDepth 100000 in
set_option maxHeartbeats 400000 in
theorem B2 (x:Int) (hx:0≤x∧x≤100):
 rp Tryz.prog 103 [(Value.int .u64 x)] [] (fun (x:Int)=>(Value.int .i64 x)) (fun (x:Int)=>True) (fun (x:Int)=>[]):=by
 refine gp GC Tryz.func103 rfl rfl fun w0 Q hQ hN=>?_
 try dsimp only
 refine WS fun _ hK1=>rS (AG rfl)<|RK hK1<|aq fun _ hK2=>WS fun _ hK3=>rS (MV rfl)<|rS (BI rfl kv)<|RK hK3 ?_
 refine bj rfl (fun h4=>?_) (fun h4=>?_)
 ·replace h4:=DT h4
  exfalso; omega
 replace h4:=DF h4
 refine WK hK2<|aq fun _ hK5=>WS fun _ hK6=>rS (MV rfl)<|rS (BI rfl kv)<|RK hK6 ?_
 refine bj rfl (fun h7=>?_) (fun h7=>?_)
 ·replace h7:=DT h7
  exfalso; omega
 replace h7:=DF h7
 refine WK hK5<|aq fun _ hK8=>WS fun _ hK9=>rS (MV rfl)<|rS (BI rfl kv)<|RK hK9 ?_
 refine bj rfl (fun h10=>?_) (fun h10=>?_)
 ·replace h10:=DT h10
  exfalso; omega
 replace h10:=DF h10
 refine WK hK8<|WS fun _ hK11=>rS (MV rfl)<|rS (MV rfl)<|rS (SX (rE (m:=x) rfl rfl Gj Fg (wc (by first|assumption|omega))) rfl rfl)<|ES (k:=(x).toNat) rfl rfl rfl JK (by omega) (Nat.lt_of_lt_of_le (m:=200) (by omega) (of_decide_eq_true (by kernel_rfl))) rfl fun b12 hb13=>rS (SX (rE (m:=b12) rfl rfl Fg qY (rf (by first|assumption|omega))) rfl rfl)<|rS (BI rfl (aZ ⟨by omega,by omega⟩))<|rS (AG rfl)<|RK hK11 ?_
 refine aE ?_
 refine hQ _ _ _ (bB (vs:=[(Value.int .i64 (0+b12))]) ⟨rfl,trivial⟩ fun w hs=>fB (0+b12) [] ?_ ?_ rfl rfl rfl hs)
 ·rfl
 ·trivial
set_option maxRecDepth 100000 in
set_option maxHeartbeats 400000 in
theorem D3 (x:Int) (hx:0≤x∧x≤100):
 rp Tryz.prog 74 [(Value.int .u64 x)] [] (fun (x:Int)=>(Value.int .i64 x)) (fun (x:Int)=>True) (fun (x:Int)=>[]):=by
 refine gp Hy Tryz.func74 rfl rfl fun w0 Q hQ hN=>?_
 try dsimp only
 refine WS fun _ hK1=>rS (AG rfl)<|RK hK1<|aq fun _ hK2=>bV rfl<|WK hK2<|WS fun _ hK3=>rS (MV rfl)<|cX (B2 x hx) (ay) rfl fun n6 hy5=>?_
 try dsimp only
 refine rS (AG rfl)<|RK hK3<|aE ?_
 refine hQ _ _ _ (bB (vs:=[(Value.int .i64 n6)]) ⟨rfl,trivial⟩ fun w hs=>fB n6 [] ?_ ?_ rfl rfl rfl hs)
 ·rfl
 ·trivial
set_option maxRecDepth 100000 in
set_option maxHeartbeats 400000 in
theorem F_ (l:List Int) (lA:Option Addr) (lC:Nat) (u:Int) (hlen:l.length≤12):
 CY Tryz.prog 73 [(Value.slice lA l.length lC),(Value.int .i64 0),(Value.int .i64 ((l.length:Nat):Int)),(Value.int .i64 u)] [] (own lA lC 3 1 (l.map iC)) (fun (x:(List Int))=>(Value.tuple [].toArray)) (fun (x:(List Int))=>x.Perm l∧x.Pairwise (· ≤ ·)) (fun (x:(List Int))=>(own lA lC 3 1 (x.map iC))):=by
 refine sM IK Tryz.func73 rfl rfl fun w0 Q hQ hN=>?_
 try dsimp only
 refine WS fun _ hK1=>rS (AG rfl)<|RK hK1<|WS fun _ hK2=>rS (AG rfl)<|RK hK2<|aG<|pZ 1<|kJ fun R3 hR3=>aG ?_
 refine WS fun _ hK4=>rS (MV rfl)<|rS (MV rfl)<|rS (BI rfl (da ⟨by omega,by omega⟩))<|rS (AG rfl)<|RK hK4<|aq fun _ hK5=>WS fun _ hK6=>rS (MV rfl)<|rS (BI rfl gl) ?_
 refine RK hK6 ?_
 refine bj rfl (fun h7=>?_) (fun h7=>?_)
 rotate_left 1
 ·replace h7:=DF h7
  exfalso; omega
 replace h7:=DT h7
 refine WS fun _ hK8=>rS (MV rfl)<|rS (MV rfl)<|rS (MV rfl) ?_
 refine mK 0 rfl rfl rfl rfl (zg l lA lC (by first|assumption|omega|(simp; done)|(simp; omega))) rfl o0 rfl (fun m9 hy11=>?_)
 try dsimp only
 refine RK hK8<|aE ?_
 refine hQ _ _ _ (bB (vs:=[]) trivial fun w hs=>xO m9 0 ?_ ?_ rfl rfl hs)
 ·clear hs w hQ hN hK8 hK6 hK5 hK4 hK2 hK1; rfl
 ·clear hs w hQ hN hK8 hK6 hK5 hK4 hK2 hK1; assumption
set_option maxRecDepth 100000 in
set_option maxHeartbeats 400000 in
theorem DW (l:List Int) (lA:Option Addr) (lC:Nat) (hlen:l.length≤12):
 CY Tryz.prog 45 [(Value.slice lA l.length lC)] [] (own lA lC 3 1 (l.map iC)) (fun (x:(List Int))=>(Value.tuple [].toArray)) (fun (x:(List Int))=>x.Perm l∧x.Pairwise (· ≤ ·)) (fun (x:(List Int))=>(own lA lC 3 1 (x.map iC))):=by
 refine sM I4 Tryz.func45 rfl rfl fun w0 Q hQ hN=>?_
 try dsimp only
 refine WS fun _ hK1=>rS (MV rfl)<|rS (LN rfl l9)<|rS (AG rfl)<|RK hK1<|ar<|rS (MV rfl)<|rS (MV rfl)<|rS (MV rfl)<|rS (SX (rE (m:=((l.length:Nat):Int)) rfl rfl qY F4 (uV (by first|assumption|omega))) rfl rfl) ?_
 refine cX (D3 ((l.length:Nat):Int) (by first|assumption|omega|(simp; done)|(simp; omega))) (ay) rfl fun n4 hy3=>?_
 try dsimp only
 refine mK 0 rfl rfl rfl rfl (F_ l lA lC n4 hlen) rfl o0 rfl (fun m5 hy7=>?_)
 try dsimp only
 refine aP ?_
 refine hN _ _ _ (bB (vs:=[]) trivial fun w hs=>xO m5 0 ?_ ?_ rfl rfl hs)
 ·clear hs w hQ hN hK1; rfl
 ·clear hs w hQ hN hK1; assumption
end
section
open Go.RowKit
set_option linter.unusedVariables false
set_option maxRecDepth 100000 in
set_option maxHeartbeats 400000 in
theorem CE (l:aU) (kA:Option Addr) (kC:Nat) (az:List RA) (cA:Option Addr) (cC:Nat) (bA:Option Addr) (bC:Nat) (r:bK) (sgA:Option Addr) (sgC:Nat) (hin:dC l az) (hsl:r.ab.length≤1000000):
 rp Tryz.prog 19 [(Value.agg (aF.cells (aF.mk (au.mk (av.mk kA l.al.length kC)) l.bw (av.mk cA l.ag.length cC) (av.mk bA l.aa.length bC) l.aD l.aV l.aJ)).toArray),(Value.agg (aS.cells (aS.mk r.Start r.cI (av.mk sgA r.ab.length sgC))).toArray)] [(rd kA l.al.length 9 (l.al.map ah.cells)),(rd cA l.ag.length 2 (List.zipWith aj.cells l.ag az)),(cZ (aL aj.dX l.ag az)),(rd bA l.aa.length 4 (l.aa.map aY.cells)),(rd sgA r.ab.length 2 (r.ab.map aw.cells))] (fun (x:(Option Addr)×Nat)=>(Value.tuple [(Value.slice x.1 ((ik l r).length) x.2),(Value.int .i64 (cr l r 0))].toArray)) (fun (x:(Option Addr)×Nat)=>True) (fun (x:(Option Addr)×Nat)=>[(own x.1 x.2 3 1 ((ik l r).map iC))]):=by
 have htk:=hin.nm
 have hck:=hin.nv
 have has:=hin.m_
 have hbm:=hin.nd
 have hsd:=hin.side
 refine gp Hs Tryz.func19 rfl rfl fun w0 Q hQ hN=>?_
 try dsimp only
 refine WS fun _ hK1=>fy rfl fun b2=>fy rfl fun b3=>rS (AG rfl)<|rS (AG rfl)<|RK hK1<|WS fun _ hK4=>rS (LW 1 rfl eO rfl rfl)<|rS (LW 0 rfl iw rfl rfl)<|cX (uP l kA kC az cA cC bA bC r sgA sgC hin hsl) (ax 2 rfl rfl<|ax 3 rfl rfl<|ax 4 rfl rfl<|ax 5 rfl rfl<|ax 6 rfl rfl<|ay) rfl fun y5 hy6=>?_
 obtain ⟨ok22,ec7,gw8,eA9,eC10,tA11,tC12,tb13,fs14,fb15,fA16,fC17,bs18,bb19,qA20,qC21⟩:=y5
 cases ok22
 ·obtain ⟨hec,he⟩:=hy6.2 rfl
  try dsimp only at hec he
  subst hec
  try dsimp only [cond_true,cond_false,List.cons_append,List.nil_append]
  refine rS (MV rfl)<|rS (EX rfl)<|rS (EX rfl)<|rS (AG rfl)<|rS (AG rfl)<|RK hK4<|aq fun _ hK23=>WS fun _ hK24=>rS (MV rfl)<|rS (BI rfl dB) ?_
  refine RK hK24 ?_
  refine bj rfl (fun h21=>?_) (fun h21=>?_)
  rotate_left 1
  ·replace h21:=XF h21
   exact absurd h21 he
  replace h21:=XT h21
  refine WS fun _ hK25=>ia 3 1 ?_
  rw [show (own none 0 3 1 ([]:List (List Value)))=own none 0 3 1 ((ik l r).map iC) from by rw [jY he]; rfl]
  refine rS (MV rfl)<|rS (AG rfl)<|rS (AG rfl)<|RK hK25<|aE ?_
  refine hQ _ _ _ (bB (vs:=[(Value.slice none 0 0),(Value.int .i64 (cr l r 0))]) ⟨rfl,rfl,trivial⟩ fun w hs=>fB (none,0) [0] ?_ ?_ rfl rfl rfl hs)
  ·first|(rw [jY he]; rfl)|(rw [he,show (ik l r).length=ys.length from by rw [← hsf]; exact hso.1.length_eq]; rfl)
  ·trivial
 obtain ⟨he,hfw,hbw,hfl,hbl,htl⟩:=hy6.1 rfl
 try dsimp only [cond_true,cond_false,List.cons_append,List.nil_append]
 dsimp only at hfw hbw hfl hbl htl
 obtain ⟨h10,hro,hme,hnn⟩:=dW he
 obtain ⟨htr,hok⟩:=di h10
 have hhd:=hok.head
 unfold cS at hhd
 have hwo:=jf htr hok hro
 have hrt:=hro.time
 have hrl:=hro.len
 have hlel:(aR l l.aa.length).length=l.aa.length:=bI
 have htll:(bo l r.ab r.ab.length).length=l.aa.length:=en
 have hfn:fs14.length=l.aa.length+1:=by have:=hfw.len; rw [show (aW l r).n=l.aa.length from bI] at this; exact this
 have hbn:bs18.length=l.aa.length+1:=by have:=hbw.len; rw [show (aW l r).n=l.aa.length from bI] at this; exact this
 refine rS (MV rfl)<|rS (EX rfl)<|rS (EX rfl)<|rS (AG rfl)<|rS (AG rfl)<|RK hK4<|aq fun _ hK26=>WS fun _ hK27=>rS (MV rfl)<|rS (SX (fK (r:= .bool false) rfl rfl rfl dB) rfl rfl) ?_
 refine RK hK27<|bV rfl<|WK hK26<|WS fun _ hK28=>ml (kV:=iV) rfl rfl fun b29=>?_
 try dsimp only
 refine AL rfl Iv fun b30=>BT rfl Jg rfl rfl<|RK hK28<|aq fun _ hK31=>WS fun _ hK32=>rS (FA 2 rfl gd rfl)<|rS (L1 (Value.slice sgA r.ab.length sgC) 10 rfl lh rfl rfl)<|rS (LN rfl nB)<|rS (MV rfl)<|RK hK32 ?_
 refine aG ?_
 have hinit:(0≤r.ab.length):=by exact Nat.zero_le _
 refine cq (ι:={z:Nat // (z≤r.ab.length)}) (fun z=>[(2,(Value.pointer (some ⟨b2,0,none⟩))),(3,(Value.pointer (some ⟨b3,0,none⟩))),(6,(Value.pointer (some ⟨gw8,0,none⟩))),(8,(Value.pointer (some ⟨b30,0,none⟩))),(26,(Value.int .i64 ((r.ab.length:Nat):Int))),(27,(Value.int .i64 ((z.1:Nat):Int)))]) (fun z=>[(aT b30 95 [(Value.map (some b29))]),(kD iV b29 (bG Value.bool (iY z.1))),(aT gw8 117 (aN.cells (aN.mk (aF.mk (au.mk (av.mk kA l.al.length kC)) l.bw (av.mk cA l.ag.length cC) (av.mk bA l.aa.length bC) l.aD l.aV l.aJ) (aS.mk r.Start r.cI (av.mk sgA r.ab.length sgC)) (av.mk eA9 ((aR l l.aa.length).length) eC10) (av.mk tA11 ((bo l r.ab r.ab.length).length) tC12) (av.mk fA16 fs14.length fC17) (av.mk qA20 bs18.length qC21)))),(own eA9 eC10 3 1 ((aR l l.aa.length).map iC)),(own tA11 tC12 120 1 (List.zipWith cl (bo l r.ab r.ab.length) tb13)),(a5 (aL ib (bo l r.ab r.ab.length) tb13)),(own fA16 fC17 122 1 (List.zipWith cl fs14 fb15)),(a5 (aL fW fs14 fb15)),(own qA20 qC21 122 1 (List.zipWith cl bs18 bb19)),(a5 (aL fW bs18 bb19)),(aT b3 31 (aS.cells (aS.mk r.Start r.cI (av.mk sgA r.ab.length sgC)))),(aT b2 28 (aF.cells (aF.mk (au.mk (av.mk kA l.al.length kC)) l.bw (av.mk cA l.ag.length cC) (av.mk bA l.aa.length bC) l.aD l.aV l.aJ))),(rd kA l.al.length 9 (l.al.map ah.cells)).ro,(rd cA l.ag.length 2 (List.zipWith aj.cells l.ag az)).ro,(cZ (aL aj.dX l.ag az)).ro,(rd bA l.aa.length 4 (l.aa.map aY.cells)).ro,(rd sgA r.ab.length 2 (r.ab.map aw.cells)).ro]) (fun z=>r.ab.length-z.1) ⟨0,hinit⟩ (an.cons rfl<|an.cons rfl<|an.cons rfl<|an.cons rfl<|an.cons rfl<|an.cons rfl<|an.nil _) (fun w hs=>St.br [0,1,2,3,4,5,6,7,8,9,10,11,12,13,14,15,16] rfl rfl hs) ?_
 clear hinit
 rintro ⟨i,hl6_0⟩ J33 hJ33
 try dsimp only
 refine WS fun _ hK34=>rS (BI rfl cv)<|RK hK34<|aq fun _ hK35=>?_
 refine bj rfl (fun h36=>?_) (fun h36=>?_)
 ·replace h36:=DT h36
  refine WK hK35<|aq fun _ hK37=>aG<|WS fun _ hK38=>rS (MV rfl)<|rS (AG rfl)<|RK hK38<|ar<|rS (j8 0 rfl CA rfl)<|rS (MV rfl) ?_
  have hb39:(dV (iY i) ((i:Nat):Int) true)=(iY (i+1)):=by exact vS
  refine iQ (kV:=iV) (x:=((i:Nat):Int)) (C':=[_,(kD iV b29 (bG Value.bool (iY (i+1)))),_,_,_,_,_,_,_,_,_,_,_,_,_,_,_]) 1 rfl rfl rfl rfl EN (ku qY) rfl ((gf _ _ _ _).symm.trans (congrArg _ hb39)) rfl<|aP<|aK<|KK hK37<|ar<|rS (BI rfl (aZ ⟨by omega,by omega⟩))<|rS (MV rfl)<|aP ?_
  have hb40:(Value.int .i64 (((i+1):Nat):Int))=(Value.int .i64 (((i:Nat):Int)+1)):=by exact congrArg (Value.int .i64) (by omega)
  refine aO (hJ33 ⟨(i+1),(by first|omega|(simp only []; omega))⟩ _ _ _ rfl (by first|omega|(simp; omega)) (an.cons rfl<|an.cons rfl<|an.cons rfl<|an.cons rfl<|an.cons rfl<|aQ rfl hb40<|an.nil _) (fun w hs=>St.br [0,1,2,3,4,5,6,7,8,9,10,11,12,13,14,15,16] rfl rfl hs))
 replace h36:=DF h36
 refine bE<|ai<|ai<|aH<|KK hK31<|aq fun _ hK41=>WS fun _ hK42=>rS (FA 3 rfl dy rfl)<|rS (L1 (Value.slice bA l.aa.length bC) 11 rfl g3 rfl rfl)<|rS (LN rfl jL) ?_
 refine rS (MV rfl)<|RK hK42<|aG ?_
 rw [show iY i=iY r.ab.length from by rw [show i=r.ab.length by omega]]
 refine nT ?_
 have hinit:(0≤l.aa.length)∧(lU r.ab.length (iY r.ab.length) (k5 (aW l r) 0)):=by exact ⟨Nat.zero_le _,nA xS fun i=>⟨False.elim,fun q=>(zq q).elim⟩⟩
 refine oj (ι:={z:Nat×BM×(List Nat) // (z.1≤l.aa.length)∧(lU r.ab.length z.2.1 (k5 (aW l r) z.1))}) (fun z=>z.1.2.2.map jD) (fun z=>[(2,(Value.pointer (some ⟨b2,0,none⟩))),(3,(Value.pointer (some ⟨b3,0,none⟩))),(6,(Value.pointer (some ⟨gw8,0,none⟩))),(8,(Value.pointer (some ⟨b30,0,none⟩))),(35,(Value.int .i64 ((l.aa.length:Nat):Int))),(36,(Value.int .i64 ((z.1.1:Nat):Int)))]) (fun z=>[(a5 (z.1.2.2.map gE)),(aT b30 95 [(Value.map (some b29))]),(kD iV b29 (bG Value.bool z.1.2.1)),(aT gw8 117 (aN.cells (aN.mk (aF.mk (au.mk (av.mk kA l.al.length kC)) l.bw (av.mk cA l.ag.length cC) (av.mk bA l.aa.length bC) l.aD l.aV l.aJ) (aS.mk r.Start r.cI (av.mk sgA r.ab.length sgC)) (av.mk eA9 ((aR l l.aa.length).length) eC10) (av.mk tA11 ((bo l r.ab r.ab.length).length) tC12) (av.mk fA16 fs14.length fC17) (av.mk qA20 bs18.length qC21)))),(own eA9 eC10 3 1 ((aR l l.aa.length).map iC)),(own tA11 tC12 120 1 (List.zipWith cl (bo l r.ab r.ab.length) tb13)),(a5 (aL ib (bo l r.ab r.ab.length) tb13)),(own fA16 fC17 122 1 (List.zipWith cl fs14 fb15)),(a5 (aL fW fs14 fb15)),(own qA20 qC21 122 1 (List.zipWith cl bs18 bb19)),(a5 (aL fW bs18 bb19)),(aT b3 31 (aS.cells (aS.mk r.Start r.cI (av.mk sgA r.ab.length sgC)))),(aT b2 28 (aF.cells (aF.mk (au.mk (av.mk kA l.al.length kC)) l.bw (av.mk cA l.ag.length cC) (av.mk bA l.aa.length bC) l.aD l.aV l.aJ))),(rd kA l.al.length 9 (l.al.map ah.cells)).ro,(rd cA l.ag.length 2 (List.zipWith aj.cells l.ag az)).ro,(cZ (aL aj.dX l.ag az)).ro,(rd bA l.aa.length 4 (l.aa.map aY.cells)).ro,(rd sgA r.ab.length 2 (r.ab.map aw.cells)).ro]) (fun z=>l.aa.length-z.1.1) ⟨(0,(iY r.ab.length),([]:List Nat)),hinit⟩ rfl (an.cons rfl<|an.cons rfl<|an.cons rfl<|an.cons rfl<|an.cons rfl<|an.cons rfl<|an.nil _) (fun w hs=>St.br [0,1,2,3,4,5,6,7,8,9,10,11,12,13,14,15,16,17] rfl rfl hs) ?_
 clear hinit
 rintro ⟨⟨b,m,rs11⟩,⟨hl11_0,hl11_1⟩⟩ J43 hJ43
 try dsimp only at hl11_0 hl11_1
 try dsimp only
 refine WS fun _ hK44=>rS (BI rfl cv)<|RK hK44<|aq fun _ hK45=>?_
 refine bj rfl (fun h46=>?_) (fun h46=>?_)
 ·replace h46:=DT h46
  refine WK hK45<|aq fun _ hK47=>aG<|WS fun _ hK48=>rS (MV rfl)<|rS (AG rfl)<|RK hK48<|WS fun _ hK49=>rS (MV rfl)<|rS (MV rfl) ?_
  obtain ⟨mf,hm1⟩: ∃ y_,fs14[b]? =some y_:=⟨fs14[b]'(by omega),List.getElem?_eq_getElem _⟩
  obtain ⟨mb,hm2⟩: ∃ y_,bs18[b+1]? =some y_:=⟨bs18[b+1]'(by omega),List.getElem?_eq_getElem _⟩
  refine cX (th gw8 b) (ay) rfl fun y50 hy51=>?_
  obtain ⟨x152,x253⟩:=y50
  try dsimp only
  refine RK hK49<|aG ?_
  refine mx (L0:=[(2,(Value.pointer (some ⟨b2,0,none⟩))),(3,(Value.pointer (some ⟨b3,0,none⟩))),(6,(Value.pointer (some ⟨gw8,0,none⟩))),(8,(Value.pointer (some ⟨b30,0,none⟩))),(10,(Value.int .i64 ((b:Nat):Int))),(35,(Value.int .i64 ((l.aa.length:Nat):Int))),(36,(Value.int .i64 ((b:Nat):Int)))]) (F:=[(own eA9 eC10 3 1 ((aR l l.aa.length).map iC)),(own tA11 tC12 120 1 (List.zipWith cl (bo l r.ab r.ab.length) tb13)),(a5 (aL ib (bo l r.ab r.ab.length) tb13)),(own fA16 fC17 122 1 (List.zipWith cl fs14 fb15)),(a5 (aL fW fs14 fb15)),(own qA20 qC21 122 1 (List.zipWith cl bs18 bb19)),(a5 (aL fW bs18 bb19)),(aT gw8 117 (aN.cells (aN.mk (aF.mk (au.mk (av.mk kA l.al.length kC)) l.bw (av.mk cA l.ag.length cC) (av.mk bA l.aa.length bC) l.aD l.aV l.aJ) (aS.mk r.Start r.cI (av.mk sgA r.ab.length sgC)) (av.mk eA9 ((aR l l.aa.length).length) eC10) (av.mk tA11 ((bo l r.ab r.ab.length).length) tC12) (av.mk fA16 fs14.length fC17) (av.mk qA20 bs18.length qC21)))),(aT x152 77 [(Value.pointer (some ⟨gw8,0,none⟩))]),(aT x253 3 [(Value.int .i64 ((b:Nat):Int))])]) (fun k (y:BM)=>(lU r.ab.length y (fun i=>k5 (aW l r) b i∨ ∃ q∈k,q.1=i))∧(∀ q∈k,q∈kI (aW l r) b mf mb)) (fun k y=>[(a5 (rs11.map gE)),(aT b30 95 [(Value.map (some b29))]),(kD iV b29 (bG Value.bool y)),(aT b3 31 (aS.cells (aS.mk r.Start r.cI (av.mk sgA r.ab.length sgC)))),(aT b2 28 (aF.cells (aF.mk (au.mk (av.mk kA l.al.length kC)) l.bw (av.mk cA l.ag.length cC) (av.mk bA l.aa.length bC) l.aD l.aV l.aJ))),(rd kA l.al.length 9 (l.al.map ah.cells)).ro,(rd cA l.ag.length 2 (List.zipWith aj.cells l.ag az)).ro,(cZ (aL aj.dX l.ag az)).ro,(rd bA l.aa.length 4 (l.aa.map aY.cells)).ro,(rd sgA r.ab.length 2 (r.ab.map aw.cells)).ro]) (fun _ (_:Unit)=>False) (fun _ _=>[]) [2,3,4,13,14,15,16,17,18,19] [6,7,8,9,10,11,12,5,0,1] m rfl rfl (qM (aF.mk (au.mk (av.mk kA l.al.length kC)) l.bw (av.mk cA l.ag.length cC) (av.mk bA l.aa.length bC) l.aD l.aV l.aJ) (aS.mk r.Start r.cI (av.mk sgA r.ab.length sgC)) (aR l l.aa.length) (bo l r.ab r.ab.length) eA9 eC10 tb13 tA11 tC12 fs14 bs18 fb15 fA16 fC17 bb19 qA20 qC21 gw8 b x152 x253 mf mb (by rw [hlel]; omega) (by exact hwo) (by rw [htll]; omega) (by exact hfw) (by omega) (by exact hbw) (by omega) (by show r.ab.length≤1000; omega) (by exact hm1) (by exact hm2)) rfl rfl rfl (by exact ⟨nA hl11_1 fun i=>⟨.inl,fun q=>q.elim id fun ⟨z,hz,_⟩=>by cases hz⟩,fun q hq=>by cases hq⟩) (by simp only [List.forall_mem_cons,List.not_mem_nil,false_imp_iff,implies_true,and_true]; exact ⟨⟨_,List.mem_of_getElem? (i:=0) rfl,(eh (by simp))⟩,⟨_,List.mem_of_getElem? (i:=1) rfl,(eh (by rw [List.length_zipWith]; omega))⟩,⟨_,List.mem_of_getElem? (i:=2) rfl,iE⟩,⟨_,List.mem_of_getElem? (i:=3) rfl,(eh (by rw [List.length_zipWith]; omega))⟩,⟨_,List.mem_of_getElem? (i:=4) rfl,iE⟩,⟨_,List.mem_of_getElem? (i:=5) rfl,(eh (by rw [List.length_zipWith]; omega))⟩,⟨_,List.mem_of_getElem? (i:=6) rfl,iE⟩,⟨_,List.mem_of_getElem? (i:=7) rfl,(ck _)⟩,⟨_,List.mem_of_getElem? (i:=8) rfl,(ck _)⟩,⟨_,List.mem_of_getElem? (i:=9) rfl,(ck _)⟩⟩) (by rintro k x k2 ⟨o,_,rfl,_⟩; rfl) rfl (an.cons rfl<|an.cons rfl<|an.cons rfl<|an.cons rfl<|an.cons rfl<|an.cons rfl<|an.cons rfl<|an.nil _) ?_ ?_ (fun _ _ _ h=>h.elim) (fun _ _ h=>h.elim)
  ·rintro k x k2 m2 lr ra rb S w1 K54 Qr55 hsz hx hin56 hK54 hQr55 xQr55 yQr55
   obtain ⟨q,hq,rfl,rfl⟩:=hx
   obtain ⟨hr0,hr1⟩:=hin56
   try dsimp only
   refine ar<|rS (AG rfl)<|aP ?_
   refine aO (hK54 _ _ ?_)
   refine aG<|ar<|rS (j8 2 rfl CA rfl)<|rS (MV rfl)<|xn (kV:=iV) (x:=q.1) (C':=[_,_,_,(kD iV b29 (bG Value.bool (cV m2 q.1))),_,_,_,_,_,_,_]) 3 rfl rfl rfl rfl EN (ku qY) rfl (oY _ _ _).symm rfl<|aP<|aK ?_
   exact hQr55 (cV m2 q.1) _ _ (by refine ⟨nA (BL hr0) fun i=>za,fun z hz=>?_⟩; (rcases List.mem_append.1 hz with hz|hz; exact hr1 z hz; (rw [List.mem_singleton.1 hz]; exact hq))) (fun w hs=>St.br [0,1,2,3,4,5,6,7,8,9,10] rfl rfl hs)
  rintro r57 k m2 hfin hin58
  obtain ⟨hr0,hr1⟩:=hin58
  try dsimp only
  refine aK<|aK<|KK hK47<|ar<|rS (BI rfl (aZ ⟨by omega,by omega⟩))<|rS (MV rfl)<|aP<|sE (X:=rs11.map gE) 11 0 rfl rfl ?_
  try dsimp only
  have hb59:(Value.int .i64 (((b+1):Nat):Int))=(Value.int .i64 (((b:Nat):Int)+1)):=by exact congrArg (Value.int .i64) (by omega)
  refine aO (hJ43 ⟨((b+1),m2,(r57::rs11)),⟨by omega,nA hr0 fun i=>by rw [yA,(uj (hfw.min _ _ hm1) (hbw.max _ _ hm2) (hfw.keys _ _ hm1) (hbw.keys _ _ hm2) hr1 hfin (fun z=>z=i))]⟩⟩ _ _ _ rfl (by first|omega|(simp; omega)) (an.cons rfl<|an.cons rfl<|an.cons rfl<|an.cons rfl<|an.cons rfl<|aQ rfl hb59<|an.nil _) (fun w hs=>St.br [0,11,12,8,1,2,3,4,5,6,7,13,14,15,16,17,18,19] rfl rfl hs))
 replace h46:=DF h46
 refine bE<|ai<|ai<|aH<|KK hK41<|WS fun _ hK60=>rS (AG rfl)<|RK hK60<|aq fun _ hK61=>WS fun _ hK62=>?_
 refine rS (j8 1 rfl CA rfl)<|qH 2 rfl rfl EN rfl rfl fun r63=>?_
 try dsimp only
 refine RK hK62<|aG<|fU 3 1 ?_
 have hinit:((([]:List Int)++m.map (·.1)).Perm (m.map (·.1))):=by exact List.Perm.refl _
 refine cq (ι:={z:BM×(List Int)×(Option Addr)×Nat // ((z.2.1++z.1.map (·.1)).Perm (m.map (·.1)))}) (fun z=>[(2,(Value.pointer (some ⟨b2,0,none⟩))),(3,(Value.pointer (some ⟨b3,0,none⟩))),(6,(Value.pointer (some ⟨gw8,0,none⟩))),(8,(Value.pointer (some ⟨b30,0,none⟩))),(12,(Value.slice z.1.2.2.1 z.1.2.1.length z.1.2.2.2)),(48,(Value.pointer (some ⟨r63,0,none⟩)))]) (fun z=>[(own z.1.2.2.1 z.1.2.2.2 3 1 (z.1.2.1.map iC)),(a5 (rs11.map gE)),(aT b30 95 [(Value.map (some b29))]),(rl iV r63 b29 (bG Value.bool m) (bG Value.bool z.1.1) none),(aT gw8 117 (aN.cells (aN.mk (aF.mk (au.mk (av.mk kA l.al.length kC)) l.bw (av.mk cA l.ag.length cC) (av.mk bA l.aa.length bC) l.aD l.aV l.aJ) (aS.mk r.Start r.cI (av.mk sgA r.ab.length sgC)) (av.mk eA9 ((aR l l.aa.length).length) eC10) (av.mk tA11 ((bo l r.ab r.ab.length).length) tC12) (av.mk fA16 fs14.length fC17) (av.mk qA20 bs18.length qC21)))),(own eA9 eC10 3 1 ((aR l l.aa.length).map iC)),(own tA11 tC12 120 1 (List.zipWith cl (bo l r.ab r.ab.length) tb13)),(a5 (aL ib (bo l r.ab r.ab.length) tb13)),(own fA16 fC17 122 1 (List.zipWith cl fs14 fb15)),(a5 (aL fW fs14 fb15)),(own qA20 qC21 122 1 (List.zipWith cl bs18 bb19)),(a5 (aL fW bs18 bb19)),(aT b3 31 (aS.cells (aS.mk r.Start r.cI (av.mk sgA r.ab.length sgC)))),(aT b2 28 (aF.cells (aF.mk (au.mk (av.mk kA l.al.length kC)) l.bw (av.mk cA l.ag.length cC) (av.mk bA l.aa.length bC) l.aD l.aV l.aJ))),(rd kA l.al.length 9 (l.al.map ah.cells)).ro,(rd cA l.ag.length 2 (List.zipWith aj.cells l.ag az)).ro,(cZ (aL aj.dX l.ag az)).ro,(rd bA l.aa.length 4 (l.aa.map aY.cells)).ro,(rd sgA r.ab.length 2 (r.ab.map aw.cells)).ro]) (fun z=>z.1.1.length) ⟨(m,([]:List Int),none,0),hinit⟩ (an.cons rfl<|an.cons rfl<|an.cons rfl<|an.cons rfl<|an.cons rfl<|an.cons rfl<|an.nil _) (fun w hs=>St.br [0,1,2,3,4,5,6,7,8,9,10,11,12,13,14,15,16,17,18] rfl rfl hs) ?_
 clear hinit
 rintro ⟨⟨left,ys,a,c⟩,hl19_0⟩ J64 hJ64
 try dsimp only at hl19_0
 try dsimp only
 refine WS fun _ hK65=>?_
 refine oU (ku qY).inj (f:=Value.bool) 3 rfl rfl rfl rfl (fun h49=>?_) (fun x y hm hn=>?_)
 ·refine rS (EX rfl) ?_
  refine RK hK65<|aq fun _ hK66=>bV rfl<|bE<|ai<|ai<|aH<|KK hK61<|WS fun _ hK67=>rS (MV rfl) ?_
  refine mK 0 rfl rfl rfl rfl (DW ys a c (by have h1:=hl19_0.length_eq; have h2:=sN hl11_1; simp at h1; omega)) rfl o0 rfl (fun srtd hso=>?_)
  try dsimp only
  refine RK hK67<|WS fun _ hK69=>rS (MV rfl) ?_
  have hsf:srtd=ik l r:=by rw [ql he]; exact wP (nA hl11_1 fun i=>by rw [show b=(aW l r).n from by rw [show (aW l r).n=l.aa.length from bI]; omega]) (by have:=hl19_0; rw [h49] at this; simpa using this) hso.1 hso.2
  rw [hsf]
  refine rS (AG rfl)<|rS (AG rfl)<|RK hK69<|aE ?_
  refine hQ _ _ _ (sH 1 rfl rfl<|bB (vs:=[(Value.slice a ys.length c),(Value.int .i64 0)]) ⟨rfl,rfl,trivial⟩ fun w hs=>fB (a,c) [0] ?_ ?_ rfl rfl rfl hs)
  ·first|(rw [jY he]; rfl)|(rw [he,show (ik l r).length=ys.length from by rw [← hsf]; exact hso.1.length_eq]; rfl)
  ·trivial
 try dsimp only
 refine rS (EX rfl)<|RK hK65<|aq fun _ hK70=>aX rfl<|WK hK70<|aG<|WS fun _ hK71=>rS (SX (o4 3 rfl rfl rfl) rfl rfl)<|rS (EX rfl)<|rS (AG rfl) ?_
 refine RK hK71<|ar<|rS (MV rfl)<|rS (MV rfl)<|fp (xs:=[.tmp 54]) (cs:=[(Value.int .i64 x)]) rfl dY lK rfl rfl rfl rfl (by simp [Value.cells]) rfl rfl fun b72=>dR (es2:=(List.map iC (ys++[x]))) (m':=(ys++[x]).length) 1 rfl rfl rfl o9 rfl rfl (by simp) (bf (es:=List.map iC [x]) 0 rfl rfl (by simp [bY]) rfl) (jF _) (by have h1:=hl19_0.length_eq; have h2:=sN hl11_1; simp at h1; simp; omega) (by have h1:=hl19_0.length_eq; have h2:=sN hl11_1; simp at h1; simp only [maxLen]; simp; omega) (by simp) (by simp) rfl fun a73 c74=>?_
 try dsimp only
 refine rS (AG rfl)<|aP<|aK<|n7 (C':=[(aT b72 3 [(Value.int .i64 x)]),(own a73 c74 3 1 (List.map iC (ys++[x]))),(a5 (rs11.map gE)),(aT b30 95 [(Value.map (some b29))]),(rl iV r63 b29 (bG Value.bool m) (bG Value.bool (cV left x)) none),(aT gw8 117 (aN.cells (aN.mk (aF.mk (au.mk (av.mk kA l.al.length kC)) l.bw (av.mk cA l.ag.length cC) (av.mk bA l.aa.length bC) l.aD l.aV l.aJ) (aS.mk r.Start r.cI (av.mk sgA r.ab.length sgC)) (av.mk eA9 ((aR l l.aa.length).length) eC10) (av.mk tA11 ((bo l r.ab r.ab.length).length) tC12) (av.mk fA16 fs14.length fC17) (av.mk qA20 bs18.length qC21)))),(own eA9 eC10 3 1 ((aR l l.aa.length).map iC)),(own tA11 tC12 120 1 (List.zipWith cl (bo l r.ab r.ab.length) tb13)),(a5 (aL ib (bo l r.ab r.ab.length) tb13)),(own fA16 fC17 122 1 (List.zipWith cl fs14 fb15)),(a5 (aL fW fs14 fb15)),(own qA20 qC21 122 1 (List.zipWith cl bs18 bb19)),(a5 (aL fW bs18 bb19)),(aT b3 31 (aS.cells (aS.mk r.Start r.cI (av.mk sgA r.ab.length sgC)))),(aT b2 28 (aF.cells (aF.mk (au.mk (av.mk kA l.al.length kC)) l.bw (av.mk cA l.ag.length cC) (av.mk bA l.aa.length bC) l.aD l.aV l.aJ))),(rd kA l.al.length 9 (l.al.map ah.cells)).ro,(rd cA l.ag.length 2 (List.zipWith aj.cells l.ag az)).ro,(cZ (aL aj.dX l.ag az)).ro,(rd bA l.aa.length 4 (l.aa.map aY.cells)).ro,(rd sgA r.ab.length 2 (r.ab.map aw.cells)).ro]) 4 rfl tk rfl ?_
 refine aO (hJ64 ⟨((cV left x),(ys++[x]),a73,c74),AX hn hm hl19_0⟩ _ _ _ rfl (jG hm) (an.cons rfl<|an.cons rfl<|an.cons rfl<|an.cons rfl<|an.cons rfl<|an.cons rfl<|an.nil _) (fun w hs=>St.br [1,2,3,4,5,6,7,8,9,10,11,12,13,14,15,16,17,18,19] rfl rfl hs))
set_option maxRecDepth 100000 in
set_option maxHeartbeats 400000 in
theorem Ax (l:aU) (kA:Option Addr) (kC:Nat) (az:List RA) (cA:Option Addr) (cC:Nat) (bA:Option Addr) (bC:Nat) (r:bK) (sgA:Option Addr) (sgC:Nat) (hin:dC l az) (hsl:r.ab.length≤1000000):
 rp Tryz.prog 21 [(Value.agg (aF.cells (aF.mk (au.mk (av.mk kA l.al.length kC)) l.bw (av.mk cA l.ag.length cC) (av.mk bA l.aa.length bC) l.aD l.aV l.aJ)).toArray),(Value.agg (aS.cells (aS.mk r.Start r.cI (av.mk sgA r.ab.length sgC))).toArray)] [(rd kA l.al.length 9 (l.al.map ah.cells)),(rd cA l.ag.length 2 (List.zipWith aj.cells l.ag az)),(cZ (aL aj.dX l.ag az)),(rd bA l.aa.length 4 (l.aa.map aY.cells)),(rd sgA r.ab.length 2 (r.ab.map aw.cells))] (fun (x:(Option Addr)×Nat)=>(Value.tuple [(Value.slice x.1 ((fr l r).length) x.2),(Value.int .i64 (cr l r 0))].toArray)) (fun (x:(Option Addr)×Nat)=>True) (fun (x:(Option Addr)×Nat)=>[(own x.1 x.2 3 1 ((fr l r).map iC))]):=by
 have htk:=hin.nm
 have hck:=hin.nv
 have has:=hin.m_
 have hbm:=hin.nd
 have hsd:=hin.side
 refine gp Ja Tryz.func21 rfl rfl fun w0 Q hQ hN=>?_
 try dsimp only
 refine WS fun _ hK1=>fy rfl fun b2=>fy rfl fun b3=>rS (AG rfl)<|rS (AG rfl)<|RK hK1<|WS fun _ hK4=>rS (LW 1 rfl eO rfl rfl)<|rS (LW 0 rfl iw rfl rfl)<|cX (uP l kA kC az cA cC bA bC r sgA sgC hin hsl) (ax 2 rfl rfl<|ax 3 rfl rfl<|ax 4 rfl rfl<|ax 5 rfl rfl<|ax 6 rfl rfl<|ay) rfl fun y5 hy6=>?_
 obtain ⟨ok22,ec7,gw8,eA9,eC10,tA11,tC12,tb13,fs14,fb15,fA16,fC17,bs18,bb19,qA20,qC21⟩:=y5
 cases ok22
 ·obtain ⟨hec,he⟩:=hy6.2 rfl
  try dsimp only at hec he
  subst hec
  try dsimp only [cond_true,cond_false,List.cons_append,List.nil_append]
  refine rS (MV rfl)<|rS (EX rfl)<|rS (EX rfl)<|rS (AG rfl)<|rS (AG rfl)<|RK hK4<|aq fun _ hK23=>WS fun _ hK24=>rS (MV rfl)<|rS (BI rfl dB) ?_
  refine RK hK24 ?_
  refine bj rfl (fun h20=>?_) (fun h20=>?_)
  rotate_left 1
  ·replace h20:=XF h20
   exact absurd h20 he
  replace h20:=XT h20
  refine WS fun _ hK25=>ia 3 1 ?_
  rw [show (own none 0 3 1 ([]:List (List Value)))=own none 0 3 1 ((fr l r).map iC) from by rw [hG he]; rfl]
  refine rS (MV rfl)<|rS (AG rfl)<|rS (AG rfl)<|RK hK25<|aE ?_
  refine hQ _ _ _ (bB (vs:=[(Value.slice none 0 0),(Value.int .i64 (cr l r 0))]) ⟨rfl,rfl,trivial⟩ fun w hs=>fB (none,0) [0] ?_ ?_ rfl rfl rfl hs)
  ·first|rfl|(rw [hG he]; rfl)|(rw [he]; rfl)
  ·trivial
 obtain ⟨he,hfw,hbw,hfl,hbl,htl⟩:=hy6.1 rfl
 try dsimp only [cond_true,cond_false,List.cons_append,List.nil_append]
 dsimp only at hfw hbw hfl hbl htl
 obtain ⟨h10,hro,hme,hnn⟩:=dW he
 obtain ⟨htr,hok⟩:=di h10
 have hhd:=hok.head
 unfold cS at hhd
 have hwo:=jf htr hok hro
 have hrt:=hro.time
 have hrl:=hro.len
 have hlel:(aR l l.aa.length).length=l.aa.length:=bI
 have htll:(bo l r.ab r.ab.length).length=l.aa.length:=en
 have hfn:fs14.length=l.aa.length+1:=by have:=hfw.len; rw [show (aW l r).n=l.aa.length from bI] at this; exact this
 have hbn:bs18.length=l.aa.length+1:=by have:=hbw.len; rw [show (aW l r).n=l.aa.length from bI] at this; exact this
 refine rS (MV rfl)<|rS (EX rfl)<|rS (EX rfl)<|rS (AG rfl)<|rS (AG rfl)<|RK hK4<|aq fun _ hK26=>WS fun _ hK27=>rS (MV rfl)<|rS (SX (fK (r:= .bool false) rfl rfl rfl dB) rfl rfl) ?_
 refine RK hK27<|bV rfl<|WK hK26<|WS fun _ hK28=>rS (MV rfl)<|cX (oi (aF.mk (au.mk (av.mk kA l.al.length kC)) l.bw (av.mk cA l.ag.length cC) (av.mk bA l.aa.length bC) l.aD l.aV l.aJ) (aS.mk r.Start r.cI (av.mk sgA r.ab.length sgC)) (aR l l.aa.length) (bo l r.ab r.ab.length) eA9 eC10 tb13 tA11 tC12 fs14 bs18 fb15 fA16 fC17 bb19 qA20 qC21 gw8 (by exact hwo) (by first|assumption|omega|(simp; done)|(simp; omega)) (by exact bI.symm) (by exact hfw) (by first|assumption|omega|(simp; done)|(simp; omega))) (aM (aC (n:=(aR l l.aa.length).length) 1 rfl (by simp))<|aM (aC (n:=(bo l r.ab r.ab.length).length) 2 rfl (by rw [List.length_zipWith]; omega))<|aM (dT 3 rfl h_)<|aM (aC (n:=fs14.length) 4 rfl (by rw [List.length_zipWith]; omega))<|aM (dT 5 rfl h_)<|aM (aC (n:=bs18.length) 6 rfl (by rw [List.length_zipWith]; omega))<|aM (dT 7 rfl h_)<|ax 0 rfl rfl<|ay) rfl fun y29 hy30=>?_
 obtain ⟨a31,c32⟩:=y29
 try dsimp only
 rw [show (eb (bP (aF.mk (au.mk (av.mk kA l.al.length kC)) l.bw (av.mk cA l.ag.length cC) (av.mk bA l.aa.length bC) l.aD l.aV l.aJ) (aS.mk r.Start r.cI (av.mk sgA r.ab.length sgC)) (aR l l.aa.length) (bo l r.ab r.ab.length)))=bR l r from (fT he).symm]
 refine rS (CL (Dd (bR l r) a31 c32 (by exact mN he) (by exact Nat.le_trans kf (by decide))) (aM (aC (n:=(bR l r).length) 0 rfl (by simp))<|ay) rfl)<|rS (AG rfl)<|RK hK28<|WS fun _ hK33=>rS (AG rfl)<|RK hK33<|aq fun _ hK34=>WS fun _ hK35=>?_
 have hmb:=yc he
 refine rS (MV rfl)<|rS (MV rfl)<|RK hK35<|aG<|fU 3 1<|nT ?_
 have hinit:(((0:Nat):Int)≤iT (bR l r)):=by exact hmb.1
 refine oj (ι:={z:Nat×(Option Addr)×Nat×(List Nat) // (((z.1:Nat):Int)≤iT (bR l r))}) (fun z=>z.1.2.2.2.map jD) (fun z=>[(2,(Value.pointer (some ⟨b2,0,none⟩))),(3,(Value.pointer (some ⟨b3,0,none⟩))),(6,(Value.pointer (some ⟨gw8,0,none⟩))),(8,(Value.int .i64 (iT (bR l r)))),(9,(Value.slice z.1.2.1 ((e8 (aW l r) z.1.1).length) z.1.2.2.1)),(25,(Value.int .i64 (iT (bR l r)))),(26,(Value.int .i64 ((z.1.1:Nat):Int)))]) (fun z=>[(a5 (z.1.2.2.2.map gE)),(own z.1.2.1 z.1.2.2.1 3 1 ((e8 (aW l r) z.1.1).map iC)),(own a31 c32 3 1 ((bR l r).map iC)),(aT gw8 117 (aN.cells (aN.mk (aF.mk (au.mk (av.mk kA l.al.length kC)) l.bw (av.mk cA l.ag.length cC) (av.mk bA l.aa.length bC) l.aD l.aV l.aJ) (aS.mk r.Start r.cI (av.mk sgA r.ab.length sgC)) (av.mk eA9 ((aR l l.aa.length).length) eC10) (av.mk tA11 ((bo l r.ab r.ab.length).length) tC12) (av.mk fA16 fs14.length fC17) (av.mk qA20 bs18.length qC21)))),(own eA9 eC10 3 1 ((aR l l.aa.length).map iC)),(own tA11 tC12 120 1 (List.zipWith cl (bo l r.ab r.ab.length) tb13)),(a5 (aL ib (bo l r.ab r.ab.length) tb13)),(own fA16 fC17 122 1 (List.zipWith cl fs14 fb15)),(a5 (aL fW fs14 fb15)),(own qA20 qC21 122 1 (List.zipWith cl bs18 bb19)),(a5 (aL fW bs18 bb19)),(aT b3 31 (aS.cells (aS.mk r.Start r.cI (av.mk sgA r.ab.length sgC)))),(aT b2 28 (aF.cells (aF.mk (au.mk (av.mk kA l.al.length kC)) l.bw (av.mk cA l.ag.length cC) (av.mk bA l.aa.length bC) l.aD l.aV l.aJ))),(rd kA l.al.length 9 (l.al.map ah.cells)).ro,(rd cA l.ag.length 2 (List.zipWith aj.cells l.ag az)).ro,(cZ (aL aj.dX l.ag az)).ro,(rd bA l.aa.length 4 (l.aa.map aY.cells)).ro,(rd sgA r.ab.length 2 (r.ab.map aw.cells)).ro]) (fun z=>(iT (bR l r)).toNat-z.1.1) ⟨(0,none,0,([]:List Nat)),hinit⟩ rfl (an.cons rfl<|an.cons rfl<|an.cons rfl<|an.cons rfl<|an.cons rfl<|an.cons rfl<|an.cons rfl<|an.nil _) (fun w hs=>St.br [0,1,2,3,4,5,6,7,8,9,10,11,12,13,14,15,16,17] rfl rfl hs) ?_
 clear hinit
 rintro ⟨⟨b,a,c,rs7⟩,hl7_0⟩ J36 hJ36
 try dsimp only at hl7_0
 try dsimp only
 refine WS fun _ hK37=>rS (BI rfl cv)<|RK hK37<|aq fun _ hK38=>?_
 refine bj rfl (fun h39=>?_) (fun h39=>?_)
 rotate_left 1
 ·replace h39:=DF h39
  refine bE<|ai<|ai<|aH<|KK hK34<|WS fun _ hK61=>rS (MV rfl) ?_
  rw [show (e8 (aW l r) b)=fr l r from by rw [lu he,show b=(iT (bR l r)).toNat by omega]]
  refine rS (AG rfl)<|rS (AG rfl)<|RK hK61<|aE ?_
  refine hQ _ _ _ (sH 0 rfl rfl<|bB (vs:=[(Value.slice a ((fr l r).length) c),(Value.int .i64 0)]) ⟨rfl,rfl,trivial⟩ fun w hs=>fB (a,c) [0] ?_ ?_ rfl rfl rfl hs)
  ·first|rfl|(rw [hG he]; rfl)|(rw [he]; rfl)
  ·trivial
 replace h39:=DT h39
 refine WK hK38<|aq fun _ hK40=>aG<|WS fun _ hK41=>rS (MV rfl)<|rS (AG rfl)<|RK hK41<|WS fun _ hK42=>AL rfl Jr fun b43=>BT rfl HN rfl rfl ?_
 refine RK hK42<|aq fun _ hK44=>WS fun _ hK45=>rS (MV rfl)<|rS (MV rfl) ?_
 obtain ⟨mf,hm1⟩: ∃ y_,fs14[b]? =some y_:=⟨fs14[b]'(by omega),List.getElem?_eq_getElem _⟩
 obtain ⟨mb,hm2⟩: ∃ y_,bs18[b+1]? =some y_:=⟨bs18[b+1]'(by omega),List.getElem?_eq_getElem _⟩
 refine cX (th gw8 b) (ay) rfl fun y46 hy47=>?_
 obtain ⟨x148,x249⟩:=y46
 try dsimp only
 refine RK hK45<|aG ?_
 refine mx (L0:=[(2,(Value.pointer (some ⟨b2,0,none⟩))),(3,(Value.pointer (some ⟨b3,0,none⟩))),(6,(Value.pointer (some ⟨gw8,0,none⟩))),(8,(Value.int .i64 (iT (bR l r)))),(9,(Value.slice a ((e8 (aW l r) b).length) c)),(10,(Value.int .i64 ((b:Nat):Int))),(11,(Value.pointer (some ⟨b43,0,none⟩))),(25,(Value.int .i64 (iT (bR l r)))),(26,(Value.int .i64 ((b:Nat):Int)))]) (F:=[(own eA9 eC10 3 1 ((aR l l.aa.length).map iC)),(own tA11 tC12 120 1 (List.zipWith cl (bo l r.ab r.ab.length) tb13)),(a5 (aL ib (bo l r.ab r.ab.length) tb13)),(own fA16 fC17 122 1 (List.zipWith cl fs14 fb15)),(a5 (aL fW fs14 fb15)),(own qA20 qC21 122 1 (List.zipWith cl bs18 bb19)),(a5 (aL fW bs18 bb19)),(aT gw8 117 (aN.cells (aN.mk (aF.mk (au.mk (av.mk kA l.al.length kC)) l.bw (av.mk cA l.ag.length cC) (av.mk bA l.aa.length bC) l.aD l.aV l.aJ) (aS.mk r.Start r.cI (av.mk sgA r.ab.length sgC)) (av.mk eA9 ((aR l l.aa.length).length) eC10) (av.mk tA11 ((bo l r.ab r.ab.length).length) tC12) (av.mk fA16 fs14.length fC17) (av.mk qA20 bs18.length qC21)))),(aT x148 77 [(Value.pointer (some ⟨gw8,0,none⟩))]),(aT x249 3 [(Value.int .i64 ((b:Nat):Int))])]) (fun k (y:Bool)=>(y=true↔ ∃ q∈k,0≤q.1)∧(∀ q∈k,q∈kI (aW l r) b mf mb)) (fun k y=>[(aT b43 4 [(Value.bool y)]),(a5 (rs7.map gE)),(own a c 3 1 ((e8 (aW l r) b).map iC)),(own a31 c32 3 1 ((bR l r).map iC)),(aT b3 31 (aS.cells (aS.mk r.Start r.cI (av.mk sgA r.ab.length sgC)))),(aT b2 28 (aF.cells (aF.mk (au.mk (av.mk kA l.al.length kC)) l.bw (av.mk cA l.ag.length cC) (av.mk bA l.aa.length bC) l.aD l.aV l.aJ))),(rd kA l.al.length 9 (l.al.map ah.cells)).ro,(rd cA l.ag.length 2 (List.zipWith aj.cells l.ag az)).ro,(cZ (aL aj.dX l.ag az)).ro,(rd bA l.aa.length 4 (l.aa.map aY.cells)).ro,(rd sgA r.ab.length 2 (r.ab.map aw.cells)).ro]) (fun _ (_:Unit)=>False) (fun _ _=>[]) [2,3,4,5,14,15,16,17,18,19,20] [7,8,9,10,11,12,13,6,0,1] false rfl rfl (qM (aF.mk (au.mk (av.mk kA l.al.length kC)) l.bw (av.mk cA l.ag.length cC) (av.mk bA l.aa.length bC) l.aD l.aV l.aJ) (aS.mk r.Start r.cI (av.mk sgA r.ab.length sgC)) (aR l l.aa.length) (bo l r.ab r.ab.length) eA9 eC10 tb13 tA11 tC12 fs14 bs18 fb15 fA16 fC17 bb19 qA20 qC21 gw8 b x148 x249 mf mb (by rw [hlel]; omega) (by exact hwo) (by rw [htll]; omega) (by exact hfw) (by omega) (by exact hbw) (by omega) (by show r.ab.length≤1000; omega) (by exact hm1) (by exact hm2)) rfl rfl rfl (by exact ⟨EL,fun q hq=>by cases hq⟩) (by simp only [List.forall_mem_cons,List.not_mem_nil,false_imp_iff,implies_true,and_true]; exact ⟨⟨_,List.mem_of_getElem? (i:=0) rfl,(eh (by simp))⟩,⟨_,List.mem_of_getElem? (i:=1) rfl,(eh (by rw [List.length_zipWith]; omega))⟩,⟨_,List.mem_of_getElem? (i:=2) rfl,iE⟩,⟨_,List.mem_of_getElem? (i:=3) rfl,(eh (by rw [List.length_zipWith]; omega))⟩,⟨_,List.mem_of_getElem? (i:=4) rfl,iE⟩,⟨_,List.mem_of_getElem? (i:=5) rfl,(eh (by rw [List.length_zipWith]; omega))⟩,⟨_,List.mem_of_getElem? (i:=6) rfl,iE⟩,⟨_,List.mem_of_getElem? (i:=7) rfl,(ck _)⟩,⟨_,List.mem_of_getElem? (i:=8) rfl,(ck _)⟩,⟨_,List.mem_of_getElem? (i:=9) rfl,(ck _)⟩⟩) (by rintro k x k2 ⟨o,_,rfl,_⟩; rfl) rfl (an.cons rfl<|an.cons rfl<|an.cons rfl<|an.cons rfl<|an.cons rfl<|an.cons rfl<|an.cons rfl<|an.cons rfl<|an.cons rfl<|an.nil _) ?_ ?_ (fun _ _ _ h=>h.elim) (fun _ _ h=>h.elim)
 ·rintro k x k2 sb lr ra rb S w1 K50 Qr51 hsz hx hin52 hK50 hQr51 xQr51 yQr51
  obtain ⟨q,hq,rfl,rfl⟩:=hx
  obtain ⟨hr0,hr1⟩:=hin52
  try dsimp only
  refine ar<|rS (AG rfl)<|aP ?_
  refine aO (hK50 _ _ ?_)
  refine aG<|ar<|rS (j8 1 rfl G5 rfl)<|rS (MV rfl) ?_
  refine bH (t:=35) rfl (fun h35=>?_) (fun h35=>?_)
  ·refine rS (OX rfl) ?_
   refine rS (OX rfl)<|rS (PK rfl)<|Jv rfl HN rfl rfl<|aP<|aK ?_
   exact hQr51 true _ _ (by refine ⟨by first|exact BF hr0 h35|exact Dk hr0 h35,fun z hz=>?_⟩; (rcases List.mem_append.1 hz with hz|hz; exact hr1 z hz; (rw [List.mem_singleton.1 hz]; exact hq))) (fun w hs=>St.br [0,1,2,3,4,5,6,7,8,9,10,11] rfl rfl hs)
  refine rS (MV rfl)<|rS (BI rfl kv)<|rS (PK rfl)<|Jv rfl HN rfl rfl<|aP<|aK ?_
  exact hQr51 (decide (0≤q.1)) _ _ (by refine ⟨by first|exact BF hr0 h35|exact Dk hr0 h35,fun z hz=>?_⟩; (rcases List.mem_append.1 hz with hz|hz; exact hr1 z hz; (rw [List.mem_singleton.1 hz]; exact hq))) (fun w hs=>St.br [0,1,2,3,4,5,6,7,8,9,10,11] rfl rfl hs)
 rintro r53 k sb hfin hin54
 obtain ⟨hr0,hr1⟩:=hin54
 try dsimp only
 refine aK<|KK hK44<|WS fun _ hK55=>?_
 have hrt:kj (aW l r) b=sb:=Bs (uj (hfw.min _ _ hm1) (hbw.max _ _ hm2) (hfw.keys _ _ hm1) (hbw.keys _ _ hm2) hr1 hfin (fun z=>0≤z)) hr0
 refine rS (j8 11 rfl G5 rfl)<|rS (NT rfl)<|RK hK55 ?_
 refine bj rfl (fun h40=>?_) (fun h40=>?_)
 rotate_left 1
 ·rw [Bool.not_eq_false'] at h40
  refine cM<|aK<|KK hK40<|ar<|rS (BI rfl (aZ ⟨by omega,by omega⟩))<|rS (MV rfl)<|aP<|sE (X:=rs7.map gE) 12 0 rfl rfl ?_
  try dsimp only
  rw [show (e8 (aW l r) b)=(e8 (aW l r) (b+1)) from (yS (hrt.trans h40)).symm]
  have hb60:(Value.int .i64 (((b+1):Nat):Int))=(Value.int .i64 (((b:Nat):Int)+1)):=by exact congrArg (Value.int .i64) (by omega)
  refine aO (hJ36 ⟨((b+1),a,c,(r53::rs7)),(by first|omega|(simp only []; omega))⟩ _ _ _ rfl (by first|omega|(simp; omega)) (an.cons rfl<|an.cons rfl<|an.cons rfl<|an.cons rfl<|an.cons rfl<|an.cons rfl<|aQ rfl hb60<|an.nil _) (fun w hs=>St.br [0,12,13,8,1,2,3,4,5,6,7,14,15,16,17,18,19,20] rfl rfl hs))
 rw [Bool.not_eq_true'] at h40
 refine ar<|rS (MV rfl)<|rS (MV rfl)<|fp (xs:=[.tmp 42]) (cs:=[(Value.int .i64 ((b:Nat):Int))]) rfl dY lK rfl rfl rfl rfl (by simp [Value.cells]) rfl rfl fun b56=>dR (es2:=(List.map iC (e8 (aW l r) (b+1)))) (m':=(e8 (aW l r) (b+1)).length) 14 rfl rfl rfl o9 rfl rfl (by simp) (bf (es:=List.map iC [((b:Nat):Int)]) 0 rfl rfl (by simp [bY]) rfl) (jF _) (by have:=mS (w:=(aW l r)) (k:=b); first|omega|(simp; omega)) (by have h1:=mS (w:=(aW l r)) (k:=b+1); have h2:=mS (w:=(aW l r)) (k:=b); simp only [maxLen]; omega) (by rw [xN (hrt.trans h40)]; simp) (by simp) rfl fun a57 c58=>?_
 try dsimp only
 refine rS (AG rfl)<|aP<|aK<|KK hK40<|ar<|rS (BI rfl (aZ ⟨by omega,by omega⟩))<|rS (MV rfl)<|aP<|sE (X:=rs7.map gE) 13 1 rfl rfl ?_
 try dsimp only
 have hb59:(Value.int .i64 (((b+1):Nat):Int))=(Value.int .i64 (((b:Nat):Int)+1)):=by exact congrArg (Value.int .i64) (by omega)
 refine aO (hJ36 ⟨((b+1),a57,c58,(r53::rs7)),(by first|omega|(simp only []; omega))⟩ _ _ _ rfl (by first|omega|(simp; omega)) (an.cons rfl<|an.cons rfl<|an.cons rfl<|an.cons rfl<|an.cons rfl<|an.cons rfl<|aQ rfl hb59<|an.nil _) (fun w hs=>St.br [0,13,14,9,2,3,4,5,6,7,8,15,16,17,18,19,20,21] rfl rfl hs))
end
section
open Go.RowKit
set_option linter.unusedVariables false
set_option maxRecDepth 100000 in
set_option maxHeartbeats 400000 in
theorem jH (r:bK) (sgA:Option Addr) (sgC:Nat) (hsl:r.ab.length≤1000000):
 rp Tryz.prog 9 [(Value.agg (aS.cells (aS.mk r.Start r.cI (av.mk sgA r.ab.length sgC))).toArray)] [(rd sgA r.ab.length 2 (r.ab.map aw.cells))] (fun (x:(Option Addr)×Nat)=>(Value.agg (aS.cells (aS.mk r.Start r.cI (av.mk x.1 r.ab.length x.2))).toArray)) (fun (x:(Option Addr)×Nat)=>True) (fun (x:(Option Addr)×Nat)=>[(own x.1 x.2 67 2 (r.ab.map aw.cells))]):=by
 refine gp JD Tryz.func9 rfl rfl fun w0 Q hQ hN=>?_
 try dsimp only
 refine WS fun _ hK1=>fy rfl fun b2=>AL rfl tL fun b3=>RK hK1<|WS fun _ hK4=>ur rfl sU rfl fun b5=>rS (FA 2 rfl gd rfl)<|rS (L1 (Value.slice sgA r.ab.length sgC) 2 rfl lh rfl rfl)<|jX (es:=(List.map aw.cells [])) (C':=[own (some ⟨b5,0,none⟩) 0 67 2 (List.map aw.cells []),_,_,_]) 0 rfl (by simp) rfl (by simp [maxLen]) rfl<|dR (es2:=(List.map aw.cells r.ab)) (m':=r.ab.length) 0 rfl rfl rfl Hd rfl rfl (by simp) (aI 3 rfl) (pC _) (by first|omega|(simp; omega)) (by first|(simp only [maxLen]; omega)|(simp [maxLen]; omega)) (by simp) (by simp) rfl fun a6 c7=>?_
 try dsimp only
 refine rS (FA 2 rfl gd rfl)<|G6 (aS.cells (aS.mk r.Start r.cI (av.mk a6 r.ab.length c7))) rfl It rfl rfl<|RK hK4<|WS fun _ hK8=>rS (LW 2 rfl iw rfl rfl)<|nk rfl qs rfl<|RK hK8<|aE ?_
 refine hQ _ _ _ (bB (vs:=[(Value.agg (aS.cells (aS.mk r.Start r.cI (av.mk a6 r.ab.length c7))).toArray)]) ⟨⟨_,rfl,.inl ⟨_,_,iw,cy (vs:=(aS.cells (aS.mk r.Start r.cI (av.mk a6 r.ab.length c7)))) 1 rfl rfl,rfl,rfl⟩⟩,trivial⟩ fun w hs=>fB (a6,c7) [0] ?_ ?_ rfl rfl rfl hs)
 ·rfl
 ·trivial
end
section
open Go.RowKit
set_option linter.unusedVariables false
def jx (b:Bool):List Value:=[.bool b]
@[simp] theorem uM (b:Bool):(jx b).length=1:=rfl
theorem zP (l:List Bool): ∀ v∈(l.map jx).flatten,v.oneCell'=true:=lx (fun s=>rfl) l
end
section
open Go.RowKit
set_option linter.unusedVariables false
set_option maxRecDepth 100000 in
set_option maxHeartbeats 400000 in
theorem wm (l:aU) (kA:Option Addr) (kC:Nat) (az:List RA) (cA:Option Addr) (cC:Nat) (bA:Option Addr) (bC:Nat) (hin:dC l az):
 eH Tryz.prog 41 [(Value.agg (aF.cells (aF.mk (au.mk (av.mk kA l.al.length kC)) l.bw (av.mk cA l.ag.length cC) (av.mk bA l.aa.length bC) l.aD l.aV l.aJ)).toArray)] [(rd kA l.al.length 9 (l.al.map ah.cells)),(rd cA l.ag.length 2 (List.zipWith aj.cells l.ag az)),(cZ (aL aj.dX l.ag az)),(rd bA l.aa.length 4 (l.aa.map aY.cells))] (Value.int .i64 (dk l)):=by
 have htk:=hin.nm
 have hck:=hin.nv
 have has:=hin.m_
 have hbm:=hin.nd
 refine bL HX Tryz.func41 rfl rfl fun w0 Q hQ hN=>?_
 try dsimp only
 refine WS fun _ hK1=>fy rfl fun b2=>rS (AG rfl)<|RK hK1<|aq fun _ hK3=>WS fun _ hK4=>rS (FA 0 rfl j4 rfl)<|rS (LP (au.cells (au.mk (av.mk kA l.al.length kC))) 0 rfl jn rfl rfl rfl)<|rS (CL (rK l.al kA kC (by first|assumption|omega|(simp; done)|(simp; omega))) (ax 1 rfl rfl<|ay) rfl)<|rS (NT rfl) ?_
 refine RK hK4 ?_
 refine bj rfl (fun h6=>?_) (fun h6=>?_)
 ·rw [Bool.not_eq_true'] at h6
  refine WS fun _ hK5=>rS (AG rfl)<|RK hK5<|aE<|Q1 hQ rfl rfl rfl ?_
  first|exact congrArg (Value.int .i64) (iR (by simpa using h6)).symm|exact congrArg (Value.int .i64) (dA h6 h9).symm|exact congrArg (Value.int .i64) (jP h6 h9).symm
 rw [Bool.not_eq_false'] at h6
 refine WK hK3<|aq fun _ hK6=>WS fun _ hK7=>rS (LW 0 rfl eO rfl rfl)<|rS (CL (Cd l kA kC az cA cC bA bC hin (by first|assumption|omega|(simp; done)|(simp; omega))) (ax 1 rfl rfl<|ax 2 rfl rfl<|ax 3 rfl rfl<|ax 4 rfl rfl<|ay) rfl)<|rS (NT rfl)<|RK hK7 ?_
 refine bj rfl (fun h9=>?_) (fun h9=>?_)
 ·replace h9:=XT h9
  refine WS fun _ hK8=>rS (AG rfl)<|RK hK8<|aE<|Q1 hQ rfl rfl rfl ?_
  first|exact congrArg (Value.int .i64) (iR (by simpa using h6)).symm|exact congrArg (Value.int .i64) (dA h6 h9).symm|exact congrArg (Value.int .i64) (jP h6 h9).symm
 replace h9:=XF h9
 refine WK hK6<|WS fun _ hK9=>rS (AG rfl)<|RK hK9<|aE<|Q1 hQ rfl rfl rfl ?_
 first|exact congrArg (Value.int .i64) (iR (by simpa using h6)).symm|exact congrArg (Value.int .i64) (dA h6 h9).symm|exact congrArg (Value.int .i64) (jP h6 h9).symm
set_option maxRecDepth 100000 in
set_option maxHeartbeats 400000 in
theorem CC (l:aU) (kA:Option Addr) (kC:Nat) (az:List RA) (cA:Option Addr) (cC:Nat) (bA:Option Addr) (bC:Nat) (s:aw) (hin:dC l az) (hok:kd l) (hs:(0≤s.cU∧s.cU≤(l.aa.length:Int)-1)∧0≤s.Read∧s.Read≤86400000):
 eH Tryz.prog 85 [(Value.agg (aF.cells (aF.mk (au.mk (av.mk kA l.al.length kC)) l.bw (av.mk cA l.ag.length cC) (av.mk bA l.aa.length bC) l.aD l.aV l.aJ)).toArray),(Value.agg (aw.cells s).toArray)] [(rd kA l.al.length 9 (l.al.map ah.cells)),(rd cA l.ag.length 2 (List.zipWith aj.cells l.ag az)),(cZ (aL aj.dX l.ag az)),(rd bA l.aa.length 4 (l.aa.map aY.cells))] (Value.tuple [(Value.agg (ae.cells (bT l s)).toArray),(Value.bool (decide ((bT l s).Lo≤(bT l s).Hi)))].toArray):=by
 have htk:=hin.nm
 have hck:=hin.nv
 have has:=hin.m_
 have hbm:=hin.nd
 refine bL Ii Tryz.func85 rfl rfl fun w0 Q hQ hN=>?_
 try dsimp only
 refine WS fun _ hK1=>fy rfl fun b2=>fy rfl fun b3=>AL rfl dF fun b4=>rS (AG rfl)<|RK hK1<|aq fun _ hK5=>er cG [0,1,2,3,4,5,6,7,8,9,10] [11,12] [false,false,false,false,false,false,false,false,false,false,false] [false,false] [(aT b4 47 (ae.cells (ae.mk 0 0))),(aT b3 67 (aw.cells s)),(aT b2 28 (aF.cells (aF.mk (au.mk (av.mk kA l.al.length kC)) l.bw (av.mk cA l.ag.length cC) (av.mk bA l.aa.length bC) l.aD l.aV l.aJ))),(rd kA l.al.length 9 (l.al.map ah.cells)).ro,(rd cA l.ag.length 2 (List.zipWith aj.cells l.ag az)).ro,(cZ (aL aj.dX l.ag az)).ro,(rd bA l.aa.length 4 (l.aa.map aY.cells)).ro] [] (by kernel_rfl) (fun w hs=>St.br [0,1,2,3,4,5,6] rfl rfl hs) (fun w hs=>St.br [] rfl rfl hs)<|eS rfl (FA 2 rfl gu rfl)<|eS rfl (L1 (Value.slice cA l.ag.length cC) 2 rfl lE rfl rfl) ?_
 refine eS rfl (FA 3 rfl dy rfl)<|eS rfl (L1 (Value.slice bA l.aa.length bC) 2 rfl g3 rfl rfl)<|eS rfl (FA 0 rfl gr rfl)<|eS rfl (L1 (Value.int .i64 s.cU) 1 rfl bu rfl rfl) ?_
 obtain ⟨y,hy⟩: ∃ y_,l.aa[(s.cU).toNat]? =some y_:=⟨l.aa[(s.cU).toNat]'(by omega),List.getElem?_eq_getElem _⟩
 have hym:(l.aa.map aY.cells)[(s.cU).toNat]? =some (aY.cells y):=by rw [List.getElem?_map,hy]; rfl
 refine eS rfl (IA ((s.cU).toNat) rfl (aI 6 rfl) qu (by decide) (by omega) (by omega))<|eS rfl (ou ((((s.cU).toNat)*4)+3) rfl (aI 6 rfl) (Nat.mul_pos (by omega) (by decide)) rv rfl)<|eS rfl (iX ((s.cU).toNat) 3 (Value.int .i64 y.gk) rfl bu (aI 6 rfl) hym rfl (by decide) rfl) ?_
 have hyb:=(hok.jT _ (List.mem_of_getElem? hy)).2
 obtain ⟨x,hx⟩: ∃ y_,l.ag[(y.gk).toNat]? =some y_:=⟨l.ag[(y.gk).toNat]'(by omega),List.getElem?_eq_getElem _⟩
 obtain ⟨xa,hxa⟩: ∃ y_,az[(y.gk).toNat]? =some y_:=⟨az[(y.gk).toNat]'(by omega),List.getElem?_eq_getElem _⟩
 have hxm:(List.zipWith aj.cells l.ag az)[(y.gk).toNat]? =some (aj.cells x xa):=gM hx hxa
 refine eS rfl (IA ((y.gk).toNat) rfl (aI 4 rfl) tI (by decide) (by omega) (by omega))<|eS rfl (lF ((y.gk).toNat) 0 (bO.cells (bO.mk x.bJ (av.mk xa.1 x.aB.length xa.2))) rfl rq (aI 4 rfl) hxm rfl (by decide) rfl rfl)<|fw rfl<|cL rfl fun T6 hT6=>AL rfl yW fun b7=>RN hT6 [1,2,3,4,5,6,7] rfl rfl<|cL rfl fun T8 hT8=>fO rfl zr rfl<|RN hT8 [1,2,3,4,5,6,7] rfl rfl<|g_ rfl ?_
 refine KK hK5<|WS fun _ hK9=>rS (AG rfl)<|rS (AG rfl)<|RK hK9<|aq fun _ hK10=>aG ?_
 have hinit:(0≤(0:Int)∧(0:Int)≤(dN (eT x s.Read) 86400001))∧((dN (eT x s.Read) 86400001)≤(86400001:Int)∧(86400001:Int)≤86400001):=by (have hfl:=gI (p:=eT x s.Read) (n:=86400001); omega)
 refine cq (ι:={z:Int×Int // (0≤z.1∧z.1≤(dN (eT x s.Read) 86400001))∧((dN (eT x s.Read) 86400001)≤z.2∧z.2≤86400001)}) (fun z=>[(2,(Value.pointer (some ⟨b2,0,none⟩))),(3,(Value.pointer (some ⟨b3,0,none⟩))),(4,(Value.pointer (some ⟨b4,0,none⟩))),(6,(Value.pointer (some ⟨b7,0,none⟩))),(7,(Value.int .i64 z.1.1)),(8,(Value.int .i64 z.1.2))]) (fun z=>[(aT b7 63 (bO.cells (bO.mk x.bJ (av.mk xa.1 x.aB.length xa.2)))),(aT b4 47 (ae.cells (ae.mk 0 0))),(aT b3 67 (aw.cells s)),(aT b2 28 (aF.cells (aF.mk (au.mk (av.mk kA l.al.length kC)) l.bw (av.mk cA l.ag.length cC) (av.mk bA l.aa.length bC) l.aD l.aV l.aJ))),(rd kA l.al.length 9 (l.al.map ah.cells)).ro,(rd cA l.ag.length 2 (List.zipWith aj.cells l.ag az)).ro,(cZ (aL aj.dX l.ag az)).ro,(rd bA l.aa.length 4 (l.aa.map aY.cells)).ro]) (fun z=>(z.1.2-z.1.1).toNat) ⟨((0:Int),(86400001:Int)),hinit⟩ (an.cons rfl<|an.cons rfl<|an.cons rfl<|an.cons rfl<|an.cons rfl<|an.cons rfl<|an.nil _) (fun w hs=>St.br [0,1,2,3,4,5,6,7] rfl rfl hs) ?_
 clear hinit
 rintro ⟨⟨a,b⟩,⟨hl3_0,hl3_1⟩⟩ J11 hJ11
 try dsimp only at hl3_0 hl3_1
 try dsimp only
 have hxo:=hok.clock _ (List.mem_of_getElem? hx)
 have hfl:=gI (p:=eT x s.Read) (n:=86400001)
 have hfh:=gI (p:=eQ x s.Read) (n:=86400001)
 refine aq fun _ hK12=>WS fun _ hK13=>rS (MV rfl)<|rS (MV rfl)<|rS (BI rfl cv)<|RK hK13 ?_
 refine bj rfl (fun h14=>?_) (fun h14=>?_)
 ·replace h14:=DT h14
  refine WK hK12<|aG<|WS fun _ hK15=>rS (MV rfl)<|rS (MV rfl)<|rS (BI rfl (aZ ⟨by omega,by omega⟩))<|rS (BI rfl (sP (by omega) (by omega) (by omega)))<|rS (AG rfl)<|RK hK15<|aq fun _ hK16=>?_
  refine dm cG 9 (by kernel_rfl)<|dS (MV rfl)<|dS (LW 0 rfl rq rfl rfl)<|dS (MV rfl)<|dS (CL (v_ x xa.1 xa.2 ((a+b)/2) (by first|assumption|omega|(simp; done)|(simp; omega)) (by first|assumption|omega|(simp; done)|(simp; omega))) (aM (show jS _ (rd xa.1 x.aB.length 3 (x.aB.map bD.cells)).holds from (eM 6 rfl (dc hx hxa (by simp [aj.dX]))))<|ay) rfl)<|dS (SX (oB (v:=(Value.int .i64 ((fx x ((a+b)/2)).Hi))) rfl rfl cd Bj rfl) rfl rfl) ?_
  have hab:=nE hxo (show 0≤(a+b)/2∧(a+b)/2≤90000000 by omega)
  refine dS (BI rfl (aZ ⟨by omega,by omega⟩))<|dS (FA 1 rfl j7 rfl)<|dS (L1 (Value.int .i64 s.Read) 2 rfl bu rfl rfl)<|dS (BI rfl kv)<|cP<|RK hK16 ?_
  refine bj rfl (fun h38=>?_) (fun h38=>?_)
  ·replace h38:=DT h38
   refine ar<|rS (MV rfl)<|rS (AG rfl)<|aP<|aK ?_
   refine aO (hJ11 ⟨(a,((a+b)/2)),(by dsimp only; have hm:=jz (r:=s.Read) hxo (x:=(a+b)/2) (by omega) (by omega); rcases Int.lt_or_le ((a+b)/2) (dN (eT x s.Read) 86400001) with q|q; (have q2:=hm.1 q; simp only [eT,decide_eq_false_iff_not] at q2; omega); (have q2:=hm.2.1 q; simp only [eT,decide_eq_true_eq] at q2; omega))⟩ _ _ _ rfl (by simp only []; omega) (an.cons rfl<|an.cons rfl<|an.cons rfl<|an.cons rfl<|an.cons rfl<|an.cons rfl<|an.nil _) (fun w hs=>St.br [0,1,2,3,4,5,6,7] rfl rfl hs))
  replace h38:=DF h38
  refine ar<|rS (MV rfl)<|rS (BI rfl (aZ ⟨by omega,by omega⟩))<|rS (AG rfl)<|aP<|aK ?_
  refine aO (hJ11 ⟨((((a+b)/2)+1),b),(by dsimp only; have hm:=jz (r:=s.Read) hxo (x:=(a+b)/2) (by omega) (by omega); rcases Int.lt_or_le ((a+b)/2) (dN (eT x s.Read) 86400001) with q|q; (have q2:=hm.1 q; simp only [eT,decide_eq_false_iff_not] at q2; omega); (have q2:=hm.2.1 q; simp only [eT,decide_eq_true_eq] at q2; omega))⟩ _ _ _ rfl (by simp only []; omega) (an.cons rfl<|an.cons rfl<|an.cons rfl<|an.cons rfl<|an.cons rfl<|an.cons rfl<|an.nil _) (fun w hs=>St.br [0,1,2,3,4,5,6,7] rfl rfl hs))
 replace h14:=DF h14
 refine bE<|ai<|ai<|aH<|KK hK10<|WS fun _ hK17=>rS (MV rfl)<|rS (AG rfl)<|RK hK17<|WS fun _ hK18=>?_
 refine rS (AG rfl)<|rS (AG rfl)<|RK hK18<|aq fun _ hK19=>aG ?_
 have hinit:(-1≤((-1):Int)∧((-1):Int)≤(dN (eQ x s.Read) 86400001)-1)∧((dN (eQ x s.Read) 86400001)-1≤(86400000:Int)∧(86400000:Int)≤86400000):=by (have hfh:=gI (p:=eQ x s.Read) (n:=86400001); omega)
 refine cq (ι:={z:Int×Int // (-1≤z.1∧z.1≤(dN (eQ x s.Read) 86400001)-1)∧((dN (eQ x s.Read) 86400001)-1≤z.2∧z.2≤86400000)}) (fun z=>[(2,(Value.pointer (some ⟨b2,0,none⟩))),(3,(Value.pointer (some ⟨b3,0,none⟩))),(4,(Value.pointer (some ⟨b4,0,none⟩))),(6,(Value.pointer (some ⟨b7,0,none⟩))),(7,(Value.int .i64 z.1.1)),(8,(Value.int .i64 z.1.2)),(10,(Value.int .i64 a))]) (fun z=>[(aT b7 63 (bO.cells (bO.mk x.bJ (av.mk xa.1 x.aB.length xa.2)))),(aT b4 47 (ae.cells (ae.mk 0 0))),(aT b3 67 (aw.cells s)),(aT b2 28 (aF.cells (aF.mk (au.mk (av.mk kA l.al.length kC)) l.bw (av.mk cA l.ag.length cC) (av.mk bA l.aa.length bC) l.aD l.aV l.aJ))),(rd kA l.al.length 9 (l.al.map ah.cells)).ro,(rd cA l.ag.length 2 (List.zipWith aj.cells l.ag az)).ro,(cZ (aL aj.dX l.ag az)).ro,(rd bA l.aa.length 4 (l.aa.map aY.cells)).ro]) (fun z=>(z.1.2-z.1.1).toNat) ⟨(((-1):Int),(86400000:Int)),hinit⟩ (an.cons rfl<|an.cons rfl<|an.cons rfl<|an.cons rfl<|an.cons rfl<|an.cons rfl<|an.cons rfl<|an.nil _) (fun w hs=>St.br [0,1,2,3,4,5,6,7] rfl rfl hs) ?_
 clear hinit
 rintro ⟨⟨d,e⟩,⟨hl10_0,hl10_1⟩⟩ J20 hJ20
 try dsimp only at hl10_0 hl10_1
 try dsimp only
 have hxo:=hok.clock _ (List.mem_of_getElem? hx)
 have hfl:=gI (p:=eT x s.Read) (n:=86400001)
 have hfh:=gI (p:=eQ x s.Read) (n:=86400001)
 refine aq fun _ hK21=>WS fun _ hK22=>rS (MV rfl)<|rS (MV rfl)<|rS (BI rfl cv)<|RK hK22 ?_
 refine bj rfl (fun h23=>?_) (fun h23=>?_)
 rotate_left 1
 ·replace h23:=DF h23
  refine bE<|ai<|ai<|aH<|KK hK19<|WS fun _ hK26=>rS (MV rfl)<|rS (MV rfl)<|rS (SX (bp (xs:=[(0,.tmp 63),(1,.tmp 64)]) (cs:=(ae.cells (ae.mk a d))) rfl rfl (bq fI rfl)) rfl rfl)<|rS (MV rfl) ?_
  refine rS (MV rfl)<|rS (BI rfl gl)<|nk rfl cK rfl<|rS (AG rfl)<|RK hK26<|aE ?_
  refine hQ _ _ _ (bB (vs:=[(Value.agg (ae.cells (ae.mk a d)).toArray),(Value.bool (decide (a≤d)))]) ⟨⟨_,rfl,.inl ⟨_,_,cp,cy (vs:=(ae.cells (ae.mk a d))) 1 rfl rfl,rfl,rfl⟩⟩,rfl,trivial⟩ fun w hs=>fq ?_ hs)
  show (Value.tuple [(Value.agg (ae.cells (ae.mk a d)).toArray),(Value.bool (decide (a≤d)))].toArray)=(Value.tuple [(Value.agg (ae.cells (bT l s)).toArray),(Value.bool (decide ((bT l s).Lo≤(bT l s).Hi)))].toArray)
  clear hs w hQ hN hK26 hK22 hK21 hK19 hK18 hK17 hK13 hK12 hK10 hK9 hT8 T8 hT6 T6 hK5 hK1
  have e0:bT l s=⟨a,d⟩:=by (unfold bT vv; rw [sY hy hx,show a=(dN (eT x s.Read) 86400001) by omega,show d=(dN (eQ x s.Read) 86400001)-1 by omega])
  rw [e0]
 replace h23:=DT h23
 refine WK hK21<|aG<|WS fun _ hK24=>rS (MV rfl)<|rS (MV rfl)<|rS (BI rfl (aZ ⟨by omega,by omega⟩))<|rS (BI rfl (aZ ⟨by omega,by omega⟩))<|rS (BI rfl (sP (by omega) (by omega) (by omega)))<|rS (AG rfl)<|RK hK24 ?_
 refine aq fun _ hK25=>dm cG 9 (by kernel_rfl)<|dS (MV rfl)<|dS (LW 0 rfl rq rfl rfl)<|dS (MV rfl)<|dS (CL (v_ x xa.1 xa.2 (((d+e)+1)/2) (by first|assumption|omega|(simp; done)|(simp; omega)) (by first|assumption|omega|(simp; done)|(simp; omega))) (aM (show jS _ (rd xa.1 x.aB.length 3 (x.aB.map bD.cells)).holds from (eM 6 rfl (dc hx hxa (by simp [aj.dX]))))<|ay) rfl)<|dS (SX (oB (v:=(Value.int .i64 ((fx x (((d+e)+1)/2)).Lo))) rfl rfl bU Aq rfl) rfl rfl) ?_
 have hab:=nE hxo (show 0≤(d+e+1)/2∧(d+e+1)/2≤90000000 by omega)
 refine dS (BI rfl (aZ ⟨by omega,by omega⟩))<|dS (FA 1 rfl j7 rfl)<|dS (L1 (Value.int .i64 s.Read) 2 rfl bu rfl rfl)<|dS (BI rfl gl)<|cP<|RK hK25 ?_
 refine bj rfl (fun h59=>?_) (fun h59=>?_)
 ·replace h59:=DT h59
  refine ar<|rS (MV rfl)<|rS (AG rfl)<|aP<|aK ?_
  refine aO (hJ20 ⟨((((d+e)+1)/2),e),(by dsimp only; have hm:=jz (r:=s.Read) hxo (x:=(d+e+1)/2) (by omega) (by omega); rcases Int.lt_or_le ((d+e+1)/2) (dN (eQ x s.Read) 86400001) with q|q; (have q2:=hm.2.2.1 q; simp only [eQ,decide_eq_false_iff_not] at q2; omega); (have q2:=hm.2.2.2 q; simp only [eQ,decide_eq_true_eq] at q2; omega))⟩ _ _ _ rfl (by simp only []; omega) (an.cons rfl<|an.cons rfl<|an.cons rfl<|an.cons rfl<|an.cons rfl<|an.cons rfl<|an.cons rfl<|an.nil _) (fun w hs=>St.br [0,1,2,3,4,5,6,7] rfl rfl hs))
 replace h59:=DF h59
 refine ar<|rS (MV rfl)<|rS (BI rfl (da ⟨by omega,by omega⟩))<|rS (AG rfl)<|aP<|aK ?_
 refine aO (hJ20 ⟨(d,((((d+e)+1)/2)-1)),(by dsimp only; have hm:=jz (r:=s.Read) hxo (x:=(d+e+1)/2) (by omega) (by omega); rcases Int.lt_or_le ((d+e+1)/2) (dN (eQ x s.Read) 86400001) with q|q; (have q2:=hm.2.2.1 q; simp only [eQ,decide_eq_false_iff_not] at q2; omega); (have q2:=hm.2.2.2 q; simp only [eQ,decide_eq_true_eq] at q2; omega))⟩ _ _ _ rfl (by simp only []; omega) (an.cons rfl<|an.cons rfl<|an.cons rfl<|an.cons rfl<|an.cons rfl<|an.cons rfl<|an.cons rfl<|an.nil _) (fun w hs=>St.br [0,1,2,3,4,5,6,7] rfl rfl hs))
end
section
open Go.RowKit
set_option linter.unusedVariables false
set_option maxRecDepth 100000 in
set_option maxHeartbeats 400000 in
theorem x5 (l:aU) (kA:Option Addr) (kC:Nat) (az:List RA) (cA:Option Addr) (cC:Nat) (bA:Option Addr) (bC:Nat) (r:bK) (sgA:Option Addr) (sgC:Nat) (hin:dC l az) (hsl:r.ab.length≤1000000):
 eH Tryz.prog 42 [(Value.agg (aF.cells (aF.mk (au.mk (av.mk kA l.al.length kC)) l.bw (av.mk cA l.ag.length cC) (av.mk bA l.aa.length bC) l.aD l.aV l.aJ)).toArray),(Value.agg (aS.cells (aS.mk r.Start r.cI (av.mk sgA r.ab.length sgC))).toArray)] [(rd kA l.al.length 9 (l.al.map ah.cells)),(rd cA l.ag.length 2 (List.zipWith aj.cells l.ag az)),(cZ (aL aj.dX l.ag az)),(rd bA l.aa.length 4 (l.aa.map aY.cells)),(rd sgA r.ab.length 2 (r.ab.map aw.cells))] (Value.bool (decide (cN l r))):=by
 have htk:=hin.nm
 have hck:=hin.nv
 have has:=hin.m_
 have hbm:=hin.nd
 refine bL Jf Tryz.func42 rfl rfl fun w0 Q hQ hN=>?_
 try dsimp only
 refine WS fun _ hK1=>fy rfl fun b2=>fy rfl fun b3=>rS (AG rfl)<|RK hK1<|aq fun _ hK4=>WS fun _ hK5=>rS (FA 0 rfl jr rfl)<|rS (L1 (Value.int .i64 r.Start) 0 rfl bu rfl rfl)<|rS (CL (gh r.Start 0 86400000) (ay) rfl) ?_
 refine rS (NT rfl)<|rS (MV rfl) ?_
 refine bH (t:=11) rfl (fun h11=>?_) (fun h11=>?_)
 ·replace h11:=XT h11
  refine rS (OX rfl)<|rS (OX rfl)<|rS (OX rfl)<|rS (OX rfl)<|rS (OX rfl)<|rS (OX rfl)<|rS (PK rfl)<|rS (MV rfl)<|rS (OX rfl)<|rS (OX rfl) ?_
  refine rS (OX rfl)<|rS (OX rfl)<|rS (PK rfl)<|RK hK5<|aX rfl<|WS fun _ hK6=>rS (AG rfl)<|RK hK6<|aE<|Q1 hQ rfl rfl rfl ?_
  first|exact congrArg Value.bool (decide_eq_false fun q=>by have q1:=q.time; have q2:=q.len; omega).symm|exact congrArg Value.bool (decide_eq_true (jd (by omega) (by omega) hl4_1 (by omega))).symm|exact congrArg Value.bool (decide_eq_false fun q=>by have q1:=q.sig i x hx; unfold eA eN at q1; first|omega|(rw [gP (by omega) hy] at q1; omega)).symm
 replace h11:=XF h11
 refine rS (FA 1 rfl lY rfl)<|rS (L1 (Value.int .i64 r.cI) 0 rfl bu rfl rfl)<|rS (FA 0 rfl jr rfl)<|rS (L1 (Value.int .i64 r.Start) 0 rfl bu rfl rfl)<|rS (CL (gh r.cI r.Start 86400000) (ay) rfl)<|rS (NT rfl)<|rS (PK rfl)<|rS (MV rfl) ?_
 refine bH (t:=19) rfl (fun h19=>?_) (fun h19=>?_)
 ·replace h19:=XT h19
  refine rS (OX rfl)<|rS (OX rfl)<|rS (OX rfl)<|rS (OX rfl)<|rS (PK rfl)<|RK hK5<|aX rfl<|WS fun _ hK7=>rS (AG rfl)<|RK hK7 ?_
  refine aE<|Q1 hQ rfl rfl rfl ?_
  first|exact congrArg Value.bool (decide_eq_false fun q=>by have q1:=q.time; have q2:=q.len; omega).symm|exact congrArg Value.bool (decide_eq_true (jd (by omega) (by omega) hl4_1 (by omega))).symm|exact congrArg Value.bool (decide_eq_false fun q=>by have q1:=q.sig i x hx; unfold eA eN at q1; first|omega|(rw [gP (by omega) hy] at q1; omega)).symm
 replace h19:=XF h19
 refine rS (FA 2 rfl gd rfl)<|rS (L1 (Value.slice sgA r.ab.length sgC) 0 rfl lh rfl rfl)<|rS (LN rfl nB)<|rS (BI rfl fY)<|rS (PK rfl)<|RK hK5 ?_
 refine bj rfl (fun h24=>?_) (fun h24=>?_)
 ·replace h24:=DT h24
  refine WS fun _ hK8=>rS (AG rfl)<|RK hK8<|aE<|Q1 hQ rfl rfl rfl ?_
  first|exact congrArg Value.bool (decide_eq_false fun q=>by have q1:=q.time; have q2:=q.len; omega).symm|exact congrArg Value.bool (decide_eq_true (jd (by omega) (by omega) hl4_1 (by omega))).symm|exact congrArg Value.bool (decide_eq_false fun q=>by have q1:=q.sig i x hx; unfold eA eN at q1; first|omega|(rw [gP (by omega) hy] at q1; omega)).symm
 replace h24:=DF h24
 refine WK hK4<|aq fun _ hK9=>WS fun _ hK10=>rS (AG rfl)<|RK hK10<|aG ?_
 have hinit:(0≤r.ab.length)∧(lW l r.ab 0):=by exact ⟨Nat.zero_le _,qd⟩
 refine cq (ι:={z:Nat // (z≤r.ab.length)∧(lW l r.ab z)}) (fun z=>[(2,(Value.pointer (some ⟨b2,0,none⟩))),(3,(Value.pointer (some ⟨b3,0,none⟩))),(5,(Value.int .i64 ((z.1:Nat):Int)))]) (fun z=>[(aT b3 31 (aS.cells (aS.mk r.Start r.cI (av.mk sgA r.ab.length sgC)))),(aT b2 28 (aF.cells (aF.mk (au.mk (av.mk kA l.al.length kC)) l.bw (av.mk cA l.ag.length cC) (av.mk bA l.aa.length bC) l.aD l.aV l.aJ))),(rd kA l.al.length 9 (l.al.map ah.cells)).ro,(rd cA l.ag.length 2 (List.zipWith aj.cells l.ag az)).ro,(cZ (aL aj.dX l.ag az)).ro,(rd bA l.aa.length 4 (l.aa.map aY.cells)).ro,(rd sgA r.ab.length 2 (r.ab.map aw.cells)).ro]) (fun z=>r.ab.length-z.1) ⟨0,hinit⟩ (an.cons rfl<|an.cons rfl<|an.cons rfl<|an.nil _) (fun w hs=>St.br [0,1,2,3,4,5,6] rfl rfl hs) ?_
 clear hinit
 rintro ⟨i,⟨hl4_0,hl4_1⟩⟩ J11 hJ11
 try dsimp only
 refine aq fun _ hK12=>WS fun _ hK13=>rS (MV rfl)<|rS (FA 2 rfl gd rfl)<|rS (L1 (Value.slice sgA r.ab.length sgC) 0 rfl lh rfl rfl)<|rS (LN rfl nB)<|rS (BI rfl cv)<|RK hK13 ?_
 refine bj rfl (fun h14=>?_) (fun h14=>?_)
 rotate_left 1
 ·replace h14:=DF h14
  refine bE<|ai<|ai<|aH<|KK hK9<|WS fun _ hK28=>rS (AG rfl)<|RK hK28<|aE<|Q1 hQ rfl rfl rfl ?_
  first|exact congrArg Value.bool (decide_eq_false fun q=>by have q1:=q.time; have q2:=q.len; omega).symm|exact congrArg Value.bool (decide_eq_true (jd (by omega) (by omega) hl4_1 (by omega))).symm|exact congrArg Value.bool (decide_eq_false fun q=>by have q1:=q.sig i x hx; unfold eA eN at q1; first|omega|(rw [gP (by omega) hy] at q1; omega)).symm
 replace h14:=DT h14
 refine WK hK12<|aq fun _ hK15=>aG<|WS fun _ hK16=>rS (FA 2 rfl gd rfl)<|rS (L1 (Value.slice sgA r.ab.length sgC) 0 rfl lh rfl rfl)<|rS (MV rfl) ?_
 obtain ⟨x,hx⟩: ∃ y_,r.ab[i]? =some y_:=⟨r.ab[i]'(by omega),List.getElem?_eq_getElem _⟩
 have hxm:(r.ab.map aw.cells)[i]? =some (aw.cells x):=by rw [List.getElem?_map,hx]; rfl
 refine rS (IA i rfl (aI 6 rfl) sU (by decide) (by omega) (by omega))<|rS (lF i 0 (aw.cells x) rfl mO (aI 6 rfl) hxm rfl (by decide) rfl rfl)<|AL rfl BK fun b17=>fO rfl qi rfl<|RK hK16<|aq fun _ hK18=>WS fun _ hK19=>rS (FA 0 rfl gr rfl)<|rS (L1 (Value.int .i64 x.cU) 0 rfl bu rfl rfl)<|rS (FA 3 rfl dy rfl) ?_
 refine rS (L1 (Value.slice bA l.aa.length bC) 2 rfl g3 rfl rfl)<|rS (LN rfl jL)<|rS (BI rfl (da ⟨by omega,by omega⟩))<|rS (CL (gh x.cU 0 (((l.aa.length:Nat):Int)-1)) (ay) rfl)<|rS (NT rfl)<|rS (MV rfl) ?_
 refine bH (t:=45) rfl (fun h45=>?_) (fun h45=>?_)
 ·replace h45:=XT h45
  refine rS (OX rfl)<|rS (OX rfl)<|rS (OX rfl)<|rS (OX rfl)<|rS (PK rfl)<|RK hK19<|aX rfl<|WS fun _ hK20=>rS (AG rfl)<|RK hK20 ?_
  refine aE<|Q1 hQ rfl rfl rfl ?_
  first|exact congrArg Value.bool (decide_eq_false fun q=>by have q1:=q.time; have q2:=q.len; omega).symm|exact congrArg Value.bool (decide_eq_true (jd (by omega) (by omega) hl4_1 (by omega))).symm|exact congrArg Value.bool (decide_eq_false fun q=>by have q1:=q.sig i x hx; unfold eA eN at q1; first|omega|(rw [gP (by omega) hy] at q1; omega)).symm
 replace h45:=XF h45
 refine rS (FA 1 rfl j7 rfl)<|rS (L1 (Value.int .i64 x.Read) 0 rfl bu rfl rfl)<|rS (CL (gh x.Read 0 86400000) (ay) rfl)<|rS (NT rfl)<|rS (PK rfl)<|RK hK19 ?_
 refine bj rfl (fun h50=>?_) (fun h50=>?_)
 ·replace h50:=XT h50
  refine WS fun _ hK21=>rS (AG rfl)<|RK hK21<|aE<|Q1 hQ rfl rfl rfl ?_
  first|exact congrArg Value.bool (decide_eq_false fun q=>by have q1:=q.time; have q2:=q.len; omega).symm|exact congrArg Value.bool (decide_eq_true (jd (by omega) (by omega) hl4_1 (by omega))).symm|exact congrArg Value.bool (decide_eq_false fun q=>by have q1:=q.sig i x hx; unfold eA eN at q1; first|omega|(rw [gP (by omega) hy] at q1; omega)).symm
 replace h50:=XF h50
 refine WK hK18<|aq fun _ hK22=>dm cG 38 (by kernel_rfl)<|dS (MV rfl)<|dS (BI rfl fY)<|dS (MV rfl) ?_
 refine e9 (t:=53) rfl (fun h53=>?_) (fun h53=>?_)
 rotate_left 1
 ·replace h53:=DF h53
  refine dS (OX rfl)<|dS (OX rfl)<|dS (OX rfl)<|dS (OX rfl)<|dS (OX rfl)<|dS (OX rfl)<|dS (OX rfl)<|dS (OX rfl)<|dS (OX rfl)<|dS (OX rfl) ?_
  refine dS (OX rfl)<|dS (OX rfl)<|dS (OX rfl)<|dS (OX rfl)<|dS (OX rfl)<|dS (OX rfl)<|dS (OX rfl)<|dS (OX rfl)<|dS (OX rfl)<|dS (OX rfl) ?_
  refine dS (OX rfl)<|dS (OX rfl)<|dS (OX rfl)<|dS (OX rfl)<|dS (OX rfl)<|dS (OX rfl)<|dS (OX rfl)<|dS (OX rfl)<|dS (OX rfl)<|dS (OX rfl) ?_
  refine dS (OX rfl)<|dS (OX rfl)<|dS (OX rfl)<|dS (OX rfl)<|dS (PK rfl)<|cP<|RK hK22<|bV rfl<|cM<|aK ?_
  refine KK hK15<|ar<|rS (MV rfl)<|rS (BI rfl (aZ ⟨by omega,by omega⟩))<|rS (AG rfl)<|aP ?_
  have hb27:(Value.int .i64 (((i+1):Nat):Int))=(Value.int .i64 (((i:Nat):Int)+1)):=by exact congrArg (Value.int .i64) (by omega)
  refine aO (hJ11 ⟨(i+1),⟨by omega,gO hl4_1 hx (by unfold eA eN; first|(rw [qD (by omega)]; simp only; omega)|(rw [gP (by omega) hy]; omega))⟩⟩ _ _ _ rfl (by first|omega|(simp; omega)) (an.cons rfl<|an.cons rfl<|aQ rfl hb27<|an.nil _) (fun w hs=>St.br [1,2,3,4,5,6,7] rfl rfl hs))
 replace h53:=DT h53
 refine dS (FA 0 rfl gr rfl)<|dS (L1 (Value.int .i64 x.cU) 0 rfl bu rfl rfl)<|dS (FA 2 rfl gd rfl)<|dS (L1 (Value.slice sgA r.ab.length sgC) 1 rfl lh rfl rfl)<|dS (MV rfl)<|dS (BI rfl (da ⟨by omega,by omega⟩)) ?_
 obtain ⟨y,hy⟩: ∃ y_,r.ab[(i-1)]? =some y_:=⟨r.ab[(i-1)]'(by omega),List.getElem?_eq_getElem _⟩
 have hym:(r.ab.map aw.cells)[(i-1)]? =some (aw.cells y):=by rw [List.getElem?_map,hy]; rfl
 refine dS (IA (i-1) rfl (aI 7 rfl) sU (by decide) (by omega) (by omega))<|dS (ou ((i-1)*2) rfl (aI 7 rfl) (Nat.mul_pos (by omega) (by decide)) gr rfl)<|dS (iX (i-1) 0 (Value.int .i64 y.cU) rfl bu (aI 7 rfl) hym rfl (by decide) rfl)<|dS (BI rfl cv)<|dS (MV rfl) ?_
 refine e9 (t:=64) rfl (fun h64=>?_) (fun h64=>?_)
 ·replace h64:=DT h64
  refine dS (OX rfl)<|dS (OX rfl)<|dS (OX rfl)<|dS (OX rfl)<|dS (OX rfl)<|dS (OX rfl)<|dS (OX rfl)<|dS (OX rfl)<|dS (OX rfl)<|dS (OX rfl) ?_
  refine dS (OX rfl)<|dS (OX rfl)<|dS (OX rfl)<|dS (OX rfl)<|dS (OX rfl)<|dS (OX rfl)<|dS (OX rfl)<|dS (OX rfl)<|dS (OX rfl)<|dS (OX rfl) ?_
  refine dS (OX rfl)<|dS (OX rfl)<|dS (PK rfl)<|dS (PK rfl)<|cP<|RK hK22<|aX rfl<|WS fun _ hK23=>rS (AG rfl)<|RK hK23 ?_
  refine aE<|Q1 hQ rfl rfl rfl ?_
  first|exact congrArg Value.bool (decide_eq_false fun q=>by have q1:=q.time; have q2:=q.len; omega).symm|exact congrArg Value.bool (decide_eq_true (jd (by omega) (by omega) hl4_1 (by omega))).symm|exact congrArg Value.bool (decide_eq_false fun q=>by have q1:=q.sig i x hx; unfold eA eN at q1; first|omega|(rw [gP (by omega) hy] at q1; omega)).symm
 replace h64:=DF h64
 refine dS (FA 0 rfl gr rfl)<|dS (L1 (Value.int .i64 x.cU) 0 rfl bu rfl rfl)<|dS (FA 2 rfl gd rfl)<|dS (L1 (Value.slice sgA r.ab.length sgC) 1 rfl lh rfl rfl)<|dS (MV rfl)<|dS (BI rfl (da ⟨by omega,by omega⟩))<|dS (IA (i-1) rfl (aI 7 rfl) sU (by decide) (by omega) (by omega))<|dS (ou ((i-1)*2) rfl (aI 7 rfl) (Nat.mul_pos (by omega) (by decide)) gr rfl)<|dS (iX (i-1) 0 (Value.int .i64 y.cU) rfl bu (aI 7 rfl) hym rfl (by decide) rfl)<|dS (BI rfl g0) ?_
 refine dS (MV rfl) ?_
 refine e9 (t:=75) rfl (fun h75=>?_) (fun h75=>?_)
 rotate_left 1
 ·replace h75:=DF h75
  refine dS (OX rfl)<|dS (OX rfl)<|dS (OX rfl)<|dS (OX rfl)<|dS (OX rfl)<|dS (OX rfl)<|dS (OX rfl)<|dS (OX rfl)<|dS (OX rfl)<|dS (OX rfl) ?_
  refine dS (PK rfl)<|dS (PK rfl)<|dS (PK rfl)<|cP<|RK hK22<|bV rfl<|cM<|aK<|KK hK15<|ar ?_
  refine rS (MV rfl)<|rS (BI rfl (aZ ⟨by omega,by omega⟩))<|rS (AG rfl)<|aP ?_
  have hb26:(Value.int .i64 (((i+1):Nat):Int))=(Value.int .i64 (((i:Nat):Int)+1)):=by exact congrArg (Value.int .i64) (by omega)
  refine aO (hJ11 ⟨(i+1),⟨by omega,gO hl4_1 hx (by unfold eA eN; first|(rw [qD (by omega)]; simp only; omega)|(rw [gP (by omega) hy]; omega))⟩⟩ _ _ _ rfl (by first|omega|(simp; omega)) (an.cons rfl<|an.cons rfl<|aQ rfl hb26<|an.nil _) (fun w hs=>St.br [1,2,3,4,5,6,7] rfl rfl hs))
 replace h75:=DT h75
 refine dS (FA 1 rfl j7 rfl)<|dS (L1 (Value.int .i64 x.Read) 0 rfl bu rfl rfl)<|dS (FA 2 rfl gd rfl)<|dS (L1 (Value.slice sgA r.ab.length sgC) 1 rfl lh rfl rfl)<|dS (MV rfl)<|dS (BI rfl (da ⟨by omega,by omega⟩))<|dS (IA (i-1) rfl (aI 7 rfl) sU (by decide) (by omega) (by omega))<|dS (ou (((i-1)*2)+1) rfl (aI 7 rfl) (Nat.mul_pos (by omega) (by decide)) j7 rfl)<|dS (iX (i-1) 1 (Value.int .i64 y.Read) rfl bu (aI 7 rfl) hym rfl (by decide) rfl)<|dS (BI rfl gl) ?_
 refine dS (PK rfl)<|dS (PK rfl)<|dS (PK rfl)<|cP<|RK hK22 ?_
 refine bj rfl (fun h88=>?_) (fun h88=>?_)
 ·replace h88:=DT h88
  refine WS fun _ hK24=>rS (AG rfl)<|RK hK24<|aE<|Q1 hQ rfl rfl rfl ?_
  first|exact congrArg Value.bool (decide_eq_false fun q=>by have q1:=q.time; have q2:=q.len; omega).symm|exact congrArg Value.bool (decide_eq_true (jd (by omega) (by omega) hl4_1 (by omega))).symm|exact congrArg Value.bool (decide_eq_false fun q=>by have q1:=q.sig i x hx; unfold eA eN at q1; first|omega|(rw [gP (by omega) hy] at q1; omega)).symm
 replace h88:=DF h88
 refine cM<|aK<|KK hK15<|ar<|rS (MV rfl)<|rS (BI rfl (aZ ⟨by omega,by omega⟩))<|rS (AG rfl)<|aP ?_
 have hb25:(Value.int .i64 (((i+1):Nat):Int))=(Value.int .i64 (((i:Nat):Int)+1)):=by exact congrArg (Value.int .i64) (by omega)
 refine aO (hJ11 ⟨(i+1),⟨by omega,gO hl4_1 hx (by unfold eA eN; first|(rw [qD (by omega)]; simp only; omega)|(rw [gP (by omega) hy]; omega))⟩⟩ _ _ _ rfl (by first|omega|(simp; omega)) (an.cons rfl<|an.cons rfl<|aQ rfl hb25<|an.nil _) (fun w hs=>St.br [1,2,3,4,5,6,7] rfl rfl hs))
end
section
open Go.RowKit
set_option linter.unusedVariables false
set_option maxRecDepth 100000 in
set_option maxHeartbeats 400000 in
theorem CM (l:aU) (kA:Option Addr) (kC:Nat) (az:List RA) (cA:Option Addr) (cC:Nat) (bA:Option Addr) (bC:Nat) (r:bK) (sgA:Option Addr) (sgC:Nat) (hin:dC l az) (hle:dk l=0) (hr:cN l r):
 rp Tryz.prog 64 [(Value.agg (aF.cells (aF.mk (au.mk (av.mk kA l.al.length kC)) l.bw (av.mk cA l.ag.length cC) (av.mk bA l.aa.length bC) l.aD l.aV l.aJ)).toArray),(Value.agg (aS.cells (aS.mk r.Start r.cI (av.mk sgA r.ab.length sgC))).toArray)] [(rd kA l.al.length 9 (l.al.map ah.cells)),(rd cA l.ag.length 2 (List.zipWith aj.cells l.ag az)),(cZ (aL aj.dX l.ag az)),(rd bA l.aa.length 4 (l.aa.map aY.cells)),(rd sgA r.ab.length 2 (r.ab.map aw.cells))] (fun (x:(Option Addr)×Nat×(Option Addr)×Nat×(Option Addr)×Nat)=>(Value.agg (dw.cells (dw.mk (av.mk x.1 ((aR l l.aa.length).length) x.2.1) (av.mk x.2.2.1 ((cf l r r.ab.length).length) x.2.2.2.1) (av.mk x.2.2.2.2.1 ((cD l r r.ab.length).length) x.2.2.2.2.2))).toArray)) (fun (x:(Option Addr)×Nat×(Option Addr)×Nat×(Option Addr)×Nat)=>True) (fun (x:(Option Addr)×Nat×(Option Addr)×Nat×(Option Addr)×Nat)=>[(own x.1 x.2.1 3 1 ((aR l l.aa.length).map iC)),(own x.2.2.1 x.2.2.2.1 47 2 ((cf l r r.ab.length).map ae.cells)),(own x.2.2.2.2.1 x.2.2.2.2.2 4 1 ((cD l r r.ab.length).map jx))]):=by
 have htk:=hin.nm
 have hck:=hin.nv
 have has:=hin.m_
 have hbm:=hin.nd
 obtain ⟨htr,hok⟩:=di hle
 have hhd:=hok.head
 unfold cS at hhd
 have hrl:=hr.len
 have hrt:=hr.time
 refine gp Jh Tryz.func64 rfl rfl fun w0 Q hQ hN=>?_
 try dsimp only
 refine WS fun _ hK1=>fy rfl fun b2=>fy rfl fun b3=>AL rfl Dp fun b4=>RK hK1<|WS fun _ hK5=>AL rfl Dp fun b6=>RK hK5<|aq fun _ hK7=>WS fun _ hK8=>?_
 refine rS (AG rfl)<|RK hK8<|aG<|fU 3 1 ?_
 have hinit:(0≤l.aa.length):=by exact Nat.zero_le _
 refine cq (ι:={z:Nat×(Option Addr)×Nat // (z.1≤l.aa.length)}) (fun z=>[(2,(Value.pointer (some ⟨b2,0,none⟩))),(3,(Value.pointer (some ⟨b3,0,none⟩))),(4,(Value.pointer (some ⟨b4,0,none⟩))),(5,(Value.pointer (some ⟨b6,0,none⟩))),(6,(Value.int .i64 ((z.1.1:Nat):Int)))]) (fun z=>[(own z.1.2.1 z.1.2.2 3 1 ((aR l z.1.1).map iC)),(aT b6 130 (dw.cells (dw.mk (av.mk z.1.2.1 ((aR l z.1.1).length) z.1.2.2) (av.mk none 0 0) (av.mk none 0 0)))),(aT b4 130 (dw.cells (dw.mk (av.mk none 0 0) (av.mk none 0 0) (av.mk none 0 0)))),(aT b3 31 (aS.cells (aS.mk r.Start r.cI (av.mk sgA r.ab.length sgC)))),(aT b2 28 (aF.cells (aF.mk (au.mk (av.mk kA l.al.length kC)) l.bw (av.mk cA l.ag.length cC) (av.mk bA l.aa.length bC) l.aD l.aV l.aJ))),(rd kA l.al.length 9 (l.al.map ah.cells)).ro,(rd cA l.ag.length 2 (List.zipWith aj.cells l.ag az)).ro,(cZ (aL aj.dX l.ag az)).ro,(rd bA l.aa.length 4 (l.aa.map aY.cells)).ro,(rd sgA r.ab.length 2 (r.ab.map aw.cells)).ro]) (fun z=>l.aa.length-z.1.1) ⟨(0,none,0),hinit⟩ (an.cons rfl<|an.cons rfl<|an.cons rfl<|an.cons rfl<|an.cons rfl<|an.nil _) (fun w hs=>St.br [0,1,2,3,4,5,6,7,8,9] rfl rfl hs) ?_
 clear hinit
 rintro ⟨⟨b,a,c⟩,hl3_0⟩ J9 hJ9
 try dsimp only at hl3_0
 try dsimp only
 refine aq fun _ hK10=>WS fun _ hK11=>rS (MV rfl)<|rS (FA 3 rfl dy rfl)<|rS (L1 (Value.slice bA l.aa.length bC) 4 rfl g3 rfl rfl)<|rS (LN rfl jL)<|rS (BI rfl cv)<|RK hK11 ?_
 refine bj rfl (fun h12=>?_) (fun h12=>?_)
 ·replace h12:=DT h12
  refine WK hK10<|aq fun _ hK13=>aG<|er cG [0,1,2,3,4,7] [5,6,8] [false,true,false,false,false,false] [true,false,false] [(aT b4 130 (dw.cells (dw.mk (av.mk none 0 0) (av.mk none 0 0) (av.mk none 0 0)))),(aT b3 31 (aS.cells (aS.mk r.Start r.cI (av.mk sgA r.ab.length sgC)))),(aT b2 28 (aF.cells (aF.mk (au.mk (av.mk kA l.al.length kC)) l.bw (av.mk cA l.ag.length cC) (av.mk bA l.aa.length bC) l.aD l.aV l.aJ))),(rd kA l.al.length 9 (l.al.map ah.cells)).ro,(rd cA l.ag.length 2 (List.zipWith aj.cells l.ag az)).ro,(cZ (aL aj.dX l.ag az)).ro,(rd bA l.aa.length 4 (l.aa.map aY.cells)).ro,(rd sgA r.ab.length 2 (r.ab.map aw.cells)).ro] [(own a c 3 1 ((aR l b).map iC)),(aT b6 130 (dw.cells (dw.mk (av.mk a ((aR l b).length) c) (av.mk none 0 0) (av.mk none 0 0)))),(aT b4 130 (dw.cells (dw.mk (av.mk none 0 0) (av.mk none 0 0) (av.mk none 0 0)))),(aT b3 31 (aS.cells (aS.mk r.Start r.cI (av.mk sgA r.ab.length sgC)))),(aT b2 28 (aF.cells (aF.mk (au.mk (av.mk kA l.al.length kC)) l.bw (av.mk cA l.ag.length cC) (av.mk bA l.aa.length bC) l.aD l.aV l.aJ))),(rd kA l.al.length 9 (l.al.map ah.cells)).ro,(rd cA l.ag.length 2 (List.zipWith aj.cells l.ag az)).ro,(cZ (aL aj.dX l.ag az)).ro,(rd bA l.aa.length 4 (l.aa.map aY.cells)).ro,(rd sgA r.ab.length 2 (r.ab.map aw.cells)).ro] (by kernel_rfl) (fun w hs=>St.br [2,3,4,5,6,7,8,9] rfl rfl hs) (fun w hs=>St.br [0,1,2,3,4,5,6,7,8,9] rfl rfl hs)<|eS rfl (FA 0 rfl pr rfl)<|fS rfl (L1 (Value.slice a ((aR l b).length) c) 1 rfl nZ rfl rfl)<|eS rfl (LW 2 rfl eO rfl rfl)<|eS rfl (MV rfl) ?_
  have hlb:=kR htr hok (i:=b) (by omega)
  refine eS rfl (CL (Af l kA kC az cA cC bA bC ((b:Nat):Int) hin (by first|assumption|omega|(simp; done)|(simp; omega)) (by first|assumption|omega|(simp; done)|(simp; omega)) (by first|assumption|omega|(simp; done)|(simp; omega))) (ax 3 rfl rfl<|ax 4 rfl rfl<|ax 5 rfl rfl<|ax 6 rfl rfl<|ay) rfl)<|eS rfl (FA 0 rfl pr rfl)<|fw rfl<|jm rfl fun T14 hT14=>fp (xs:=[.tmp 21]) (cs:=[(Value.int .i64 (df l ((b:Nat):Int).toNat))]) rfl dY lK rfl rfl rfl rfl (by simp [Value.cells]) rfl rfl fun b15=>?_
  refine aP (hT14 _ _ (fun w hs=>St.br [3,4,5,6,7,8,9,10] rfl rfl hs) (fun w hs=>St.br [1,2,3,4,5,6,7,8,9,10] rfl rfl hs) ?_)
  refine cL rfl fun T16 hT16=>dR (es2:=(List.map iC (aR l (b+1)))) (m':=(aR l (b+1)).length) 1 rfl rfl rfl o9 rfl rfl (by simp) (bf (es:=List.map iC [(df l ((b:Nat):Int).toNat)]) 0 rfl rfl (by simp [bY]) rfl) (jF _) (by simp only [bI]; omega) (by simp only [maxLen,bI]; omega) (by rw [nW]; simp) (by simp) rfl fun a17 c18=>?_
  try dsimp only
  refine RN hT16 [3,4,5,6,7,8,9,10] rfl rfl<|cL rfl fun T19 hT19=>G6 (dw.cells (dw.mk (av.mk a17 ((aR l (b+1)).length) c18) (av.mk none 0 0) (av.mk none 0 0))) rfl Em rfl rfl<|RN hT19 [3,4,5,6,7,8,9,10] rfl rfl<|g_ rfl<|aK<|KK hK13<|ar<|rS (MV rfl)<|rS (BI rfl (aZ ⟨by omega,by omega⟩)) ?_
  refine rS (AG rfl)<|aP ?_
  have hb20:(Value.int .i64 (((b+1):Nat):Int))=(Value.int .i64 (((b:Nat):Int)+1)):=by exact congrArg (Value.int .i64) (by omega)
  refine aO (hJ9 ⟨((b+1),a17,c18),(by first|omega|(simp only []; omega))⟩ _ _ _ rfl (by first|omega|(simp; omega)) (an.cons rfl<|an.cons rfl<|an.cons rfl<|an.cons rfl<|aQ rfl hb20<|an.nil _) (fun w hs=>St.br [1,2,3,4,5,6,7,8,9,10] rfl rfl hs))
 replace h12:=DF h12
 refine bE<|ai<|ai<|aH<|KK hK7<|aq fun _ hK21=>WS fun _ hK22=>?_
 rw [show aR l b=(aR l l.aa.length) from by rw [show b=l.aa.length by omega]]
 refine rS (AG rfl)<|RK hK22<|aG<|fU 47 2<|fU 4 1 ?_
 have hinit:(0≤r.ab.length):=by exact Nat.zero_le _
 refine cq (ι:={z:Nat×(Option Addr)×Nat×(Option Addr)×Nat // (z.1≤r.ab.length)}) (fun z=>[(2,(Value.pointer (some ⟨b2,0,none⟩))),(3,(Value.pointer (some ⟨b3,0,none⟩))),(4,(Value.pointer (some ⟨b4,0,none⟩))),(5,(Value.pointer (some ⟨b6,0,none⟩))),(7,(Value.int .i64 ((z.1.1:Nat):Int)))]) (fun z=>[(own z.1.2.2.2.1 z.1.2.2.2.2 4 1 ((cD l r z.1.1).map jx)),(own z.1.2.1 z.1.2.2.1 47 2 ((cf l r z.1.1).map ae.cells)),(own a c 3 1 ((aR l l.aa.length).map iC)),(aT b6 130 (dw.cells (dw.mk (av.mk a ((aR l l.aa.length).length) c) (av.mk z.1.2.1 ((cf l r z.1.1).length) z.1.2.2.1) (av.mk z.1.2.2.2.1 ((cD l r z.1.1).length) z.1.2.2.2.2)))),(aT b4 130 (dw.cells (dw.mk (av.mk none 0 0) (av.mk none 0 0) (av.mk none 0 0)))),(aT b3 31 (aS.cells (aS.mk r.Start r.cI (av.mk sgA r.ab.length sgC)))),(aT b2 28 (aF.cells (aF.mk (au.mk (av.mk kA l.al.length kC)) l.bw (av.mk cA l.ag.length cC) (av.mk bA l.aa.length bC) l.aD l.aV l.aJ))),(rd kA l.al.length 9 (l.al.map ah.cells)).ro,(rd cA l.ag.length 2 (List.zipWith aj.cells l.ag az)).ro,(cZ (aL aj.dX l.ag az)).ro,(rd bA l.aa.length 4 (l.aa.map aY.cells)).ro,(rd sgA r.ab.length 2 (r.ab.map aw.cells)).ro]) (fun z=>r.ab.length-z.1.1) ⟨(0,none,0,none,0),hinit⟩ (an.cons rfl<|an.cons rfl<|an.cons rfl<|an.cons rfl<|an.cons rfl<|an.nil _) (fun w hs=>St.br [0,1,2,3,4,5,6,7,8,9,10,11] rfl rfl hs) ?_
 clear hinit
 rintro ⟨⟨i,ta,tc,sa,sc⟩,hl7_0⟩ J23 hJ23
 try dsimp only at hl7_0
 try dsimp only
 refine aq fun _ hK24=>WS fun _ hK25=>rS (MV rfl)<|rS (FA 2 rfl gd rfl)<|rS (L1 (Value.slice sgA r.ab.length sgC) 5 rfl lh rfl rfl)<|rS (LN rfl nB)<|rS (BI rfl cv)<|RK hK25 ?_
 refine bj rfl (fun h26=>?_) (fun h26=>?_)
 rotate_left 1
 ·replace h26:=DF h26
  refine bE<|ai<|ai<|aH<|KK hK21<|WS fun _ hK40=>?_
  rw [show cf l r i=(cf l r r.ab.length) from by rw [show i=r.ab.length by omega]]
  rw [show cD l r i=(cD l r r.ab.length) from by rw [show i=r.ab.length by omega]]
  refine rS (LW 3 rfl vt rfl rfl)<|G4 rfl Gv rfl<|RK hK40<|aE ?_
  refine hQ _ _ _ (bB (vs:=[(Value.agg (dw.cells (dw.mk (av.mk a ((aR l l.aa.length).length) c) (av.mk ta ((cf l r r.ab.length).length) tc) (av.mk sa ((cD l r r.ab.length).length) sc))).toArray)]) ⟨⟨_,rfl,.inl ⟨_,_,vt,cy (vs:=(dw.cells (dw.mk (av.mk a ((aR l l.aa.length).length) c) (av.mk ta ((cf l r r.ab.length).length) tc) (av.mk sa ((cD l r r.ab.length).length) sc)))) 4 rfl rfl,rfl,rfl⟩⟩,trivial⟩ fun w hs=>fB (a,c,ta,tc,sa,sc) [2,1,0] ?_ ?_ rfl rfl rfl hs)
  ·rfl
  ·trivial
 replace h26:=DT h26
 refine WK hK24<|aq fun _ hK27=>aG<|aq fun _ hK28=>er cG [0,1,2,3,4,5,6,7,8,9,12] [10,11] [false,false,false,false,false,false,false,false,false,false,false] [false,false] [(own sa sc 4 1 ((cD l r i).map jx)),(own ta tc 47 2 ((cf l r i).map ae.cells)),(own a c 3 1 ((aR l l.aa.length).map iC)),(aT b6 130 (dw.cells (dw.mk (av.mk a ((aR l l.aa.length).length) c) (av.mk ta ((cf l r i).length) tc) (av.mk sa ((cD l r i).length) sc)))),(aT b4 130 (dw.cells (dw.mk (av.mk none 0 0) (av.mk none 0 0) (av.mk none 0 0)))),(aT b3 31 (aS.cells (aS.mk r.Start r.cI (av.mk sgA r.ab.length sgC)))),(aT b2 28 (aF.cells (aF.mk (au.mk (av.mk kA l.al.length kC)) l.bw (av.mk cA l.ag.length cC) (av.mk bA l.aa.length bC) l.aD l.aV l.aJ))),(rd kA l.al.length 9 (l.al.map ah.cells)).ro,(rd cA l.ag.length 2 (List.zipWith aj.cells l.ag az)).ro,(cZ (aL aj.dX l.ag az)).ro,(rd bA l.aa.length 4 (l.aa.map aY.cells)).ro,(rd sgA r.ab.length 2 (r.ab.map aw.cells)).ro] [] (by kernel_rfl) (fun w hs=>St.br [0,1,2,3,4,5,6,7,8,9,10,11] rfl rfl hs) (fun w hs=>St.br [] rfl rfl hs)<|eS rfl (LW 6 rfl eO rfl rfl)<|eS rfl (FA 2 rfl gd rfl)<|eS rfl (L1 (Value.slice sgA r.ab.length sgC) 5 rfl lh rfl rfl)<|eS rfl (MV rfl) ?_
 obtain ⟨s,hs⟩: ∃ y_,r.ab[i]? =some y_:=⟨r.ab[i]'(by omega),List.getElem?_eq_getElem _⟩
 have hsm:(r.ab.map aw.cells)[i]? =some (aw.cells s):=by rw [List.getElem?_map,hs]; rfl
 refine eS rfl (IA i rfl (aI 11 rfl) sU (by decide) (by omega) (by omega))<|eS rfl (lF i 0 (aw.cells s) rfl mO (aI 11 rfl) hsm rfl (by decide) rfl rfl) ?_
 have hsg:=(hr.sig i s hs).1
 refine eS rfl (CL (CC l kA kC az cA cC bA bC s hin (by first|assumption|omega|(simp; done)|(simp; omega)) (by exact hsg)) (ax 7 rfl rfl<|ax 8 rfl rfl<|ax 9 rfl rfl<|ax 10 rfl rfl<|ay) rfl)<|eS rfl (MV rfl)<|eS rfl (EX rfl)<|eS rfl (EX rfl)<|eS rfl (AG rfl)<|fw rfl<|cL rfl fun T29 hT29=>AL rfl dF fun b30=>RN hT29 [1,2,3,4,5,6,7,8,9,10,11,12] rfl rfl<|cL rfl fun T31 hT31=>?_
 refine fO rfl cK rfl<|RN hT31 [1,2,3,4,5,6,7,8,9,10,11,12] rfl rfl<|g_ rfl<|KK hK28<|WS fun _ hK32=>rS (FA 1 rfl pH rfl)<|rS (L1 (Value.slice ta ((cf l r i).length) tc) 4 rfl vD rfl rfl)<|rS (LW 0 rfl cp rfl rfl)<|fp (xs:=[.tmp 44]) (cs:=(ae.cells (bT l s))) rfl km dF rfl rfl rfl rfl (by simp [Value.cells,ae.bg]) rfl rfl fun b33=>dR (es2:=(List.map ae.cells (cf l r (i+1)))) (m':=(cf l r (i+1)).length) 3 rfl rfl rfl Dt rfl rfl (by simp) (bf (es:=List.map ae.cells [(bT l s)]) 0 rfl rfl (by simp [ae.bg]) rfl) (nq _) (by rw [oE (by omega)]; omega) (by rw [oE (by omega)]; simp only [maxLen]; omega) (by rw [xg hs]; simp) (by simp) rfl fun a34 c35=>?_
 try dsimp only
 refine rS (FA 1 rfl pH rfl)<|Jq (dw.cells (dw.mk (av.mk a ((aR l l.aa.length).length) c) (av.mk a34 ((cf l r (i+1)).length) c35) (av.mk sa ((cD l r i).length) sc))) rfl Gk rfl rfl<|RK hK32<|ar<|rS (FA 2 rfl uW rfl)<|rS (L1 (Value.slice sa ((cD l r i).length) sc) 5 rfl BA rfl rfl)<|rS (MV rfl)<|fp (xs:=[.tmp 50]) (cs:=[(Value.bool (decide ((bT l s).Lo≤(bT l s).Hi)))]) rfl Dn Jr rfl rfl rfl rfl (by simp [Value.cells]) rfl rfl fun b36=>dR (es2:=(List.map jx (cD l r (i+1)))) (m':=(cD l r (i+1)).length) 3 rfl rfl rfl Gu rfl rfl (by simp) (bf (es:=List.map jx [(decide ((bT l s).Lo≤(bT l s).Hi))]) 0 rfl rfl (by simp [uM]) rfl) (zP _) (by rw [qq (by omega)]; omega) (by rw [qq (by omega)]; simp only [maxLen]; omega) (by rw [xB hs]; simp) (by simp) rfl fun a37 c38=>?_
 try dsimp only
 refine rS (FA 2 rfl uW rfl)<|JJ (dw.cells (dw.mk (av.mk a ((aR l l.aa.length).length) c) (av.mk a34 ((cf l r (i+1)).length) c35) (av.mk a37 ((cD l r (i+1)).length) c38))) rfl F9 rfl rfl<|aP<|aK<|KK hK27<|ar<|rS (MV rfl)<|rS (BI rfl (aZ ⟨by omega,by omega⟩))<|rS (AG rfl)<|aP ?_
 have hb39:(Value.int .i64 (((i+1):Nat):Int))=(Value.int .i64 (((i:Nat):Int)+1)):=by exact congrArg (Value.int .i64) (by omega)
 refine aO (hJ23 ⟨((i+1),a34,c35,a37,c38),(by first|omega|(simp only []; omega))⟩ _ _ _ rfl (by first|omega|(simp; omega)) (an.cons rfl<|an.cons rfl<|an.cons rfl<|an.cons rfl<|aQ rfl hb39<|an.nil _) (fun w hs=>St.br [3,4,5,6,7,8,9,10,11,12,13,14] rfl rfl hs))
set_option maxRecDepth 100000 in
set_option maxHeartbeats 400000 in
theorem AN (r:bK) (sgA:Option Addr) (sgC:Nat) (l:aU) (wA:Option Addr) (wC:Nat) (tA:Option Addr) (tC:Nat) (bA:Option Addr) (bC:Nat) (rs:List Int) (rsA:Option Addr) (rsC:Nat) (hle:dk l=0) (hr:cN l r) (hn:rs.length≤l.aa.length) (hrs: ∀ x∈rs,0≤x→x<(r.ab.length:Int)):
 rp Tryz.prog 83 [(Value.agg (aS.cells (aS.mk r.Start r.cI (av.mk sgA r.ab.length sgC))).toArray),(Value.agg (dw.cells (dw.mk (av.mk wA ((aR l l.aa.length).length) wC) (av.mk tA ((cf l r r.ab.length).length) tC) (av.mk bA ((cD l r r.ab.length).length) bC))).toArray),(Value.slice rsA rs.length rsC)] [(rd sgA r.ab.length 2 (r.ab.map aw.cells)),(rd wA ((aR l l.aa.length).length) 1 ((aR l l.aa.length).map iC)),(rd tA ((cf l r r.ab.length).length) 2 ((cf l r r.ab.length).map ae.cells)),(rd bA ((cD l r r.ab.length).length) 1 ((cD l r r.ab.length).map jx)),(rd rsA rs.length 1 (rs.map iC))] (fun (x:(Option Addr)×Nat)=>(Value.slice x.1 ((gY l r rs).length) x.2)) (fun (x:(Option Addr)×Nat)=>True) (fun (x:(Option Addr)×Nat)=>[(own x.1 x.2 3 1 ((gY l r rs).map iC))]):=by
 obtain ⟨htr,hok⟩:=di hle
 have hhd:=hok.head
 unfold cS at hhd
 have hrl:=hr.len
 have hrt:=hr.time
 have hkb:=yx (l:=l) (rs:=rs) ⟨by omega,by omega⟩ (fun b hb=>by have:=kR htr hok (i:=b) (by omega); omega) hrs
 have hll:=bI (l:=l) (n:=l.aa.length)
 have htl:=oE (l:=l) (Nat.le_refl r.ab.length)
 refine gp HZ Tryz.func83 rfl rfl fun w0 Q hQ hN=>?_
 try dsimp only
 refine WS fun _ hK1=>fy rfl fun b2=>fy rfl fun b3=>rS (AG rfl)<|RK hK1<|WS fun _ hK4=>rS (MV rfl)<|rS (LN rfl l9)<|qT (n:=rs.length) (es:=(List.map iC (List.replicate rs.length 0))) rfl rfl rfl o9 (by omega) (by omega) (by simp only [maxLen]; omega) (by rw [List.map_replicate]; rfl) rfl fun b5=>?_
 try dsimp only
 refine rS (AG rfl)<|RK hK4<|WS fun _ hK6=>rS (FA 1 rfl lY rfl)<|rS (L1 (Value.int .i64 r.cI) 2 rfl bu rfl rfl)<|rS (AG rfl)<|RK hK6<|aq fun _ hK7=>WS fun _ hK8=>rS (MV rfl) ?_
 refine rS (LN rfl l9)<|rS (BI rfl (da ⟨by omega,by omega⟩))<|rS (AG rfl)<|RK hK8<|aG ?_
 rw [show (own (some ⟨b5,0,none⟩) rs.length 3 1 (List.map iC (List.replicate rs.length 0)))=(own (some ⟨b5,0,none⟩) rs.length 3 1 ((gL l r rs rs.length).map iC)) from by rw [yL]]
 have hinit:(rs.length≤rs.length):=by exact Nat.le_refl _
 have hb9:(Value.int .i64 ((iv l r rs rs.length).2))=(Value.int .i64 r.cI):=by rw [qA]
 refine cq (ι:={z:Nat // (z≤rs.length)}) (fun z=>[(2,(Value.slice rsA rs.length rsC)),(3,(Value.pointer (some ⟨b2,0,none⟩))),(4,(Value.pointer (some ⟨b3,0,none⟩))),(7,(Value.slice (some ⟨b5,0,none⟩) rs.length rs.length)),(8,(Value.int .i64 ((iv l r rs z.1).2))),(9,(Value.int .i64 (((z.1:Nat):Int)-1)))]) (fun z=>[(own (some ⟨b5,0,none⟩) rs.length 3 1 ((gL l r rs z.1).map iC)),(aT b3 130 (dw.cells (dw.mk (av.mk wA ((aR l l.aa.length).length) wC) (av.mk tA ((cf l r r.ab.length).length) tC) (av.mk bA ((cD l r r.ab.length).length) bC)))),(aT b2 31 (aS.cells (aS.mk r.Start r.cI (av.mk sgA r.ab.length sgC)))),(rd sgA r.ab.length 2 (r.ab.map aw.cells)).ro,(rd wA ((aR l l.aa.length).length) 1 ((aR l l.aa.length).map iC)).ro,(rd tA ((cf l r r.ab.length).length) 2 ((cf l r r.ab.length).map ae.cells)).ro,(rd bA ((cD l r r.ab.length).length) 1 ((cD l r r.ab.length).map jx)).ro,(rd rsA rs.length 1 (rs.map iC)).ro]) (fun z=>z.1) ⟨rs.length,hinit⟩ (an.cons rfl<|an.cons rfl<|an.cons rfl<|an.cons rfl<|aQ rfl hb9<|an.cons rfl<|an.nil _) (fun w hs=>St.br [0,1,2,3,4,5,6,7] rfl rfl hs) ?_
 clear hinit
 rintro ⟨j,hl4_0⟩ J10 hJ10
 try dsimp only
 have hlr:=zR (l:=l) (r:=r) (rs:=rs) (j:=j) (by omega)
 refine aq fun _ hK11=>WS fun _ hK12=>rS (MV rfl)<|rS (BI rfl kv)<|RK hK12 ?_
 refine bj rfl (fun h13=>?_) (fun h13=>?_)
 rotate_left 1
 ·replace h13:=DF h13
  refine bE<|ai<|ai<|aH<|KK hK7<|WS fun _ hK29=>rS (MV rfl) ?_
  rw [show (Value.slice (some ⟨b5,0,none⟩) rs.length rs.length)=(Value.slice (some ⟨b5,0,none⟩) ((gY l r rs).length) rs.length) from by rw [show (gY l r rs).length=rs.length from oz _ _]]
  rw [show gL l r rs j=gY l r rs from by rw [show j=0 by omega]; exact xA]
  refine rS (AG rfl)<|RK hK29<|aE ?_
  refine hQ _ _ _ (bB (vs:=[(Value.slice (some ⟨b5,0,none⟩) ((gY l r rs).length) rs.length)]) ⟨rfl,trivial⟩ fun w hs=>fB ((some ⟨b5,0,none⟩),rs.length) [0] ?_ ?_ rfl rfl rfl hs)
  ·rfl
  ·trivial
 replace h13:=DT h13
 refine WK hK11<|aq fun _ hK14=>aG<|aq fun _ hK15=>WS fun _ hK16=>rS (MV rfl)<|rS (MV rfl) ?_
 have hkj:=hkb (rs.length-j) j (by omega)
 obtain ⟨x,hx⟩: ∃ y_,rs[(j-1)]? =some y_:=⟨rs[(j-1)]'(by omega),List.getElem?_eq_getElem _⟩
 have hxm:(rs.map iC)[(j-1)]? =some (iC x):=by rw [List.getElem?_map,hx]; rfl
 refine rS (IA (j-1) rfl (aI 7 rfl) dY (by decide) (by omega) (by omega))<|rS (iX (j-1) 0 (Value.int .i64 x) rfl bu (aI 7 rfl) hxm rfl (by decide) rfl)<|rS (BI rfl kv)<|RK hK16 ?_
 refine bj rfl (fun h26=>?_) (fun h26=>?_)
 rotate_left 1
 ·replace h26:=DF h26
  refine WK hK15<|WS fun _ hK23=>rS (MV rfl)<|rS (MV rfl)<|rS (MV rfl) ?_
  obtain ⟨x24,hx25⟩: ∃ y_,(gL l r rs j)[(j-1)]? =some y_:=⟨(gL l r rs j)[(j-1)]'(by omega),List.getElem?_eq_getElem _⟩
  have hx25m:((gL l r rs j).map iC)[(j-1)]? =some (iC x24):=by rw [List.getElem?_map,hx25]; rfl
  refine rS (IA (j-1) rfl (aC (n:=rs.length) 0 rfl (by first|(simp; done)|(simp; omega))) dY (by decide) (by omega) (by omega)) ?_
  have hb26:((gL l r rs j).set (j-1) ((iv l r rs j).2))=(gL l r rs (j-1)):=by (rw [← t_ (by omega) hx]; congr 1; unfold pk; first|(rw [if_pos h26,hhi]; done)|(rw [if_neg h26]; done))
  refine fP (k:=(j-1)) (o:=0) (vs:=[(Value.int .i64 ((iv l r rs j).2))]) (es':=(List.map iC (gL l r rs (j-1)))) (C':=[(own (some ⟨b5,0,none⟩) rs.length 3 1 (List.map iC (gL l r rs (j-1)))),_,_,_,_,_,_,_]) 0 rfl rfl rfl yN rfl rfl rfl rfl hx25m rfl (by decide) (by exact (List.map_set (f:=iC) (l:=(gL l r rs j)) (i:=(j-1)) (a:=(iv l r rs j).2)).symm.trans (congrArg _ hb26)) rfl<|RK hK23<|ar<|rS (MV rfl)<|rS (FA 0 rfl pr rfl)<|rS (L1 (Value.slice wA ((aR l l.aa.length).length) wC) 1 rfl nZ rfl rfl)<|rS (MV rfl) ?_
  obtain ⟨y,hy⟩: ∃ y_,(aR l l.aa.length)[(j-1)]? =some y_:=⟨(aR l l.aa.length)[(j-1)]'(by omega),List.getElem?_eq_getElem _⟩
  have hym:((aR l l.aa.length).map iC)[(j-1)]? =some (iC y):=by rw [List.getElem?_map,hy]; rfl
  refine rS (IA (j-1) rfl (aI 4 rfl) dY (by decide) (by omega) (by omega))<|rS (iX (j-1) 0 (Value.int .i64 y) rfl bu (aI 4 rfl) hym rfl (by decide) rfl) ?_
  have hyl:=qm hy
  have hlb:=kR htr hok (i:=j-1) (by omega)
  rw [← hyl] at hlb
  refine rS (BI rfl (da ⟨by omega,by omega⟩))<|rS (AG rfl)<|aP<|aK<|KK hK14<|ar<|rS (MV rfl)<|rS (BI rfl (da ⟨by omega,by omega⟩))<|rS (AG rfl)<|aP ?_
  have hb27:(Value.int .i64 ((iv l r rs (j-1)).2))=(Value.int .i64 (((iv l r rs j).2)-y)):=by exact congrArg (Value.int .i64) (by rw [mV (by omega) hx]; simp only; unfold pk; rw [hyl]; first|(rw [if_pos h26,hhi]; done)|(rw [if_neg h26]; done))
  have hb28:(Value.int .i64 ((((j-1):Nat):Int)-1))=(Value.int .i64 ((((j:Nat):Int)-1)-1)):=by exact congrArg (Value.int .i64) (by omega)
  refine aO (hJ10 ⟨(j-1),(by first|omega|(simp only []; omega))⟩ _ _ _ rfl (by first|omega|(simp; omega)) (an.cons rfl<|an.cons rfl<|an.cons rfl<|an.cons rfl<|aQ rfl hb27<|aQ rfl hb28<|an.nil _) (fun w hs=>St.br [0,1,2,3,4,5,6,7] rfl rfl hs))
 replace h26:=DT h26
 refine dm cG 12 (by kernel_rfl)<|dS (MV rfl)<|dS (FA 1 rfl pH rfl)<|dS (L1 (Value.slice tA ((cf l r r.ab.length).length) tC) 1 rfl vD rfl rfl)<|dS (MV rfl)<|dS (MV rfl)<|dS (IA (j-1) rfl (aI 7 rfl) dY (by decide) (by omega) (by omega))<|dS (iX (j-1) 0 (Value.int .i64 x) rfl bu (aI 7 rfl) hxm rfl (by decide) rfl) ?_
 have hxs:=hrs x (List.mem_of_getElem? hx) h26
 obtain ⟨z,hz⟩: ∃ y_,(cf l r r.ab.length)[(x).toNat]? =some y_:=⟨(cf l r r.ab.length)[(x).toNat]'(by omega),List.getElem?_eq_getElem _⟩
 have hzm:((cf l r r.ab.length).map ae.cells)[(x).toNat]? =some (ae.cells z):=by rw [List.getElem?_map,hz]; rfl
 refine dS (IA ((x).toNat) rfl (aI 5 rfl) km (by decide) (by omega) (by omega))<|dS (ou ((((x).toNat)*2)+1) rfl (aI 5 rfl) (Nat.mul_pos (by omega) (by decide)) cd rfl) ?_
 obtain ⟨s,hs,hzw⟩:=Bw hz
 have hzb:=rO l s
 rw [← hzw] at hzb
 have hhi:BW l r x=z.Hi:=by rw [wT hs,hzw]
 refine dS (iX ((x).toNat) 1 (Value.int .i64 z.Hi) rfl bu (aI 5 rfl) hzm rfl (by decide) rfl)<|dS (MN rfl)<|dS (AG rfl)<|cP<|RK hK15<|WS fun _ hK17=>rS (MV rfl)<|rS (MV rfl)<|rS (MV rfl) ?_
 obtain ⟨x18,hx19⟩: ∃ y_,(gL l r rs j)[(j-1)]? =some y_:=⟨(gL l r rs j)[(j-1)]'(by omega),List.getElem?_eq_getElem _⟩
 have hx19m:((gL l r rs j).map iC)[(j-1)]? =some (iC x18):=by rw [List.getElem?_map,hx19]; rfl
 refine rS (IA (j-1) rfl (aC (n:=rs.length) 0 rfl (by first|(simp; done)|(simp; omega))) dY (by decide) (by omega) (by omega)) ?_
 have hb20:((gL l r rs j).set (j-1) (min ((iv l r rs j).2) z.Hi))=(gL l r rs (j-1)):=by (rw [← t_ (by omega) hx]; congr 1; unfold pk; first|(rw [if_pos h26,hhi]; done)|(rw [if_neg h26]; done))
 refine fP (k:=(j-1)) (o:=0) (vs:=[(Value.int .i64 (min ((iv l r rs j).2) z.Hi))]) (es':=(List.map iC (gL l r rs (j-1)))) (C':=[(own (some ⟨b5,0,none⟩) rs.length 3 1 (List.map iC (gL l r rs (j-1)))),_,_,_,_,_,_,_]) 0 rfl rfl rfl yN rfl rfl rfl rfl hx19m rfl (by decide) (by exact (List.map_set (f:=iC) (l:=(gL l r rs j)) (i:=(j-1)) (a:=(min ((iv l r rs j).2) z.Hi))).symm.trans (congrArg _ hb20)) rfl<|RK hK17<|ar<|rS (MV rfl)<|rS (FA 0 rfl pr rfl)<|rS (L1 (Value.slice wA ((aR l l.aa.length).length) wC) 1 rfl nZ rfl rfl)<|rS (MV rfl) ?_
 obtain ⟨y,hy⟩: ∃ y_,(aR l l.aa.length)[(j-1)]? =some y_:=⟨(aR l l.aa.length)[(j-1)]'(by omega),List.getElem?_eq_getElem _⟩
 have hym:((aR l l.aa.length).map iC)[(j-1)]? =some (iC y):=by rw [List.getElem?_map,hy]; rfl
 refine rS (IA (j-1) rfl (aI 4 rfl) dY (by decide) (by omega) (by omega))<|rS (iX (j-1) 0 (Value.int .i64 y) rfl bu (aI 4 rfl) hym rfl (by decide) rfl) ?_
 have hyl:=qm hy
 have hlb:=kR htr hok (i:=j-1) (by omega)
 rw [← hyl] at hlb
 refine rS (BI rfl (da ⟨by omega,by omega⟩))<|rS (AG rfl)<|aP<|aK<|KK hK14<|ar<|rS (MV rfl)<|rS (BI rfl (da ⟨by omega,by omega⟩))<|rS (AG rfl)<|aP ?_
 have hb21:(Value.int .i64 ((iv l r rs (j-1)).2))=(Value.int .i64 ((min ((iv l r rs j).2) z.Hi)-y)):=by exact congrArg (Value.int .i64) (by rw [mV (by omega) hx]; simp only; unfold pk; rw [hyl]; first|(rw [if_pos h26,hhi]; done)|(rw [if_neg h26]; done))
 have hb22:(Value.int .i64 ((((j-1):Nat):Int)-1))=(Value.int .i64 ((((j:Nat):Int)-1)-1)):=by exact congrArg (Value.int .i64) (by omega)
 refine aO (hJ10 ⟨(j-1),(by first|omega|(simp only []; omega))⟩ _ _ _ rfl (by first|omega|(simp; omega)) (an.cons rfl<|an.cons rfl<|an.cons rfl<|an.cons rfl<|aQ rfl hb21<|aQ rfl hb22<|an.nil _) (fun w hs=>St.br [0,1,2,3,4,5,6,7] rfl rfl hs))
end
end Go.Proofs.YthiigjekcdjkkaaGreat
