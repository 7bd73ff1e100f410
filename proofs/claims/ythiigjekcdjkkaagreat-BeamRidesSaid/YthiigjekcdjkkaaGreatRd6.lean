/-
 The statement beamRides_said, part 6 of 6: Y2, Y3, Y4, Y5, Y6, LineOpen, RideOpen, Rides0.
 Conditions: none.
-/
import Derived.Test.YthiigjekcdjkkaaGreatRd1
import Derived.Test.YthiigjekcdjkkaaGreatRd2
import Derived.Test.YthiigjekcdjkkaaGreatRd3
import Derived.Test.YthiigjekcdjkkaaGreatRd4
import Derived.Test.YthiigjekcdjkkaaGreatRd5
import Derived.Test.YthiigjekcdjkkaaGreatRows
import Derived.Test.YthiigjekcdjkkaaGreatProg
import Derived.KernelRfl
namespace Go.Proofs.YthiigjekcdjkkaaGreat
section
open Go.RowKit
set_option linter.unusedVariables false
set_option maxRecDepth 100000 in
set_option maxHeartbeats 4000000 in
theorem zf (l:aU) (kA:Option Addr) (kC:Nat) (az:List RA) (cA:Option Addr) (cC:Nat) (bA:Option Addr) (bC:Nat) (r:bK) (sgA:Option Addr) (sgC:Nat) (vwA:Option Addr) (vwC:Nat) (vtA:Option Addr) (vtC:Nat) (vbA:Option Addr) (vbC:Nat) (k:Nat) (rs:List Int) (rA:Option Addr) (rC:Nat) (fs:List Int) (fA:Option Addr) (fC:Nat) (hin:dC l az) (hle:dk l=0) (hr:cN l r) (hk:rs.length+k=l.aa.length) (hfl:fs.length=rs.length) (hst:r.Start≤eu r.Start fs∧eu r.Start fs≤r.cI) (hrs: ∀ x∈rs,-1≤x∧x<(r.ab.length:Int)) (hrec: ∀ (k2:Nat) (rs2:List Int) (rA2:Option Addr) (rC2:Nat) (fs2:List Int) (fA2:Option Addr) (fC2:Nat),(k2<k)→(rs2.length+k2=l.aa.length)→(fs2.length=rs2.length)→(r.Start≤eu r.Start fs2∧eu r.Start fs2≤r.cI)→(∀ x∈rs2,-1≤x∧x<(r.ab.length:Int))→CY Tryz.prog 63 [(Value.agg (aF.cells (aF.mk (au.mk (av.mk kA l.al.length kC)) l.bw (av.mk cA l.ag.length cC) (av.mk bA l.aa.length bC) l.aD l.aV l.aJ)).toArray),(Value.agg (aS.cells (aS.mk r.Start r.cI (av.mk sgA r.ab.length sgC))).toArray),(Value.agg (dw.cells (dw.mk (av.mk vwA ((aR l l.aa.length).length) vwC) (av.mk vtA ((cf l r r.ab.length).length) vtC) (av.mk vbA ((cD l r r.ab.length).length) vbC))).toArray),(Value.slice rA2 rs2.length rC2),(Value.slice fA2 fs2.length fC2)] [(rd kA l.al.length 9 (l.al.map ah.cells)),(rd cA l.ag.length 2 (List.zipWith aj.cells l.ag az)),(cZ (aL aj.dX l.ag az)),(rd bA l.aa.length 4 (l.aa.map aY.cells)),(rd sgA r.ab.length 2 (r.ab.map aw.cells)),(rd vwA ((aR l l.aa.length).length) 1 ((aR l l.aa.length).map iC)),(rd vtA ((cf l r r.ab.length).length) 2 ((cf l r r.ab.length).map ae.cells)),(rd vbA ((cD l r r.ab.length).length) 1 ((cD l r r.ab.length).map jx))] (a5 [own rA2 rC2 3 1 (rs2.map iC),own fA2 fC2 3 1 (fs2.map iC)]) (fun (x:(Option Addr)×Nat×(List jc))=>(Value.slice x.1 ((fF l r k2 rs2 fs2).length) x.2.1)) (fun (x:(Option Addr)×Nat×(List jc))=>x.2.2.length=(fF l r k2 rs2 fs2).length) (fun (x:(Option Addr)×Nat×(List jc))=>(a5 (aL bM.owns (fF l r k2 rs2 fs2) x.2.2++[own x.1 x.2.1 85 3 (List.zipWith bM.cells (fF l r k2 rs2 fs2) x.2.2)])))):
 CY Tryz.prog 63 [(Value.agg (aF.cells (aF.mk (au.mk (av.mk kA l.al.length kC)) l.bw (av.mk cA l.ag.length cC) (av.mk bA l.aa.length bC) l.aD l.aV l.aJ)).toArray),(Value.agg (aS.cells (aS.mk r.Start r.cI (av.mk sgA r.ab.length sgC))).toArray),(Value.agg (dw.cells (dw.mk (av.mk vwA ((aR l l.aa.length).length) vwC) (av.mk vtA ((cf l r r.ab.length).length) vtC) (av.mk vbA ((cD l r r.ab.length).length) vbC))).toArray),(Value.slice rA rs.length rC),(Value.slice fA fs.length fC)] [(rd kA l.al.length 9 (l.al.map ah.cells)),(rd cA l.ag.length 2 (List.zipWith aj.cells l.ag az)),(cZ (aL aj.dX l.ag az)),(rd bA l.aa.length 4 (l.aa.map aY.cells)),(rd sgA r.ab.length 2 (r.ab.map aw.cells)),(rd vwA ((aR l l.aa.length).length) 1 ((aR l l.aa.length).map iC)),(rd vtA ((cf l r r.ab.length).length) 2 ((cf l r r.ab.length).map ae.cells)),(rd vbA ((cD l r r.ab.length).length) 1 ((cD l r r.ab.length).map jx))] (a5 [own rA rC 3 1 (rs.map iC),own fA fC 3 1 (fs.map iC)]) (fun (x:(Option Addr)×Nat×(List jc))=>(Value.slice x.1 ((fF l r k rs fs).length) x.2.1)) (fun (x:(Option Addr)×Nat×(List jc))=>x.2.2.length=(fF l r k rs fs).length) (fun (x:(Option Addr)×Nat×(List jc))=>(a5 (aL bM.owns (fF l r k rs fs) x.2.2++[own x.1 x.2.1 85 3 (List.zipWith bM.cells (fF l r k rs fs) x.2.2)]))):=by
 have htk:=hin.nm
 have hck:=hin.nv
 have has:=hin.m_
 have hbm:=hin.nd
 obtain ⟨htr,hok⟩:=di hle
 have hhd:=hok.head
 unfold cS at hhd
 have hrl:=hr.len
 have hrt:=hr.time
 have hll:=bI (l:=l) (n:=l.aa.length)
 have htl:=oE (l:=l) (Nat.le_refl r.ab.length)
 have hsl:=qq (l:=l) (Nat.le_refl r.ab.length)
 have htn:=py rs
 refine sM Is Tryz.func63 rfl rfl fun w0 Q hQ hN=>?_
 try dsimp only
 refine wb 0 rfl rfl fun wz Sz hz=>?_
 try dsimp only
 refine WS fun _ hK1=>fy rfl fun b2=>fy rfl fun b3=>fy rfl fun b4=>rS (AG rfl)<|RK hK1<|WS fun _ hK5=>rS (AG rfl)<|RK hK5<|WS fun _ hK6=>?_
 refine rS (MV rfl)<|rS (LN rfl l9)<|rS (AG rfl)<|rS (AG rfl)<|RK hK6<|aq fun _ hK7=>WS fun _ hK8=>rS (AG rfl)<|RK hK8<|aG ?_
 have hinit:(0≤rs.length):=by exact Nat.zero_le _
 have hb9:(Value.int .i64 ((cJ (rs.take 0)).right))=(Value.int .i64 0):=by rfl
 refine cq (ι:={z:Nat // (z≤rs.length)}) (fun z=>[(3,(Value.slice rA rs.length rC)),(4,(Value.slice fA fs.length fC)),(5,(Value.pointer (some ⟨b2,0,none⟩))),(6,(Value.pointer (some ⟨b3,0,none⟩))),(7,(Value.pointer (some ⟨b4,0,none⟩))),(11,(Value.slice none 0 0)),(12,(Value.int .i64 ((rs.length:Nat):Int))),(13,(Value.int .i64 ((cJ (rs.take z.1)).right))),(14,(Value.int .i64 ((z.1:Nat):Int)))]) (fun z=>[(aT b4 130 (dw.cells (dw.mk (av.mk vwA ((aR l l.aa.length).length) vwC) (av.mk vtA ((cf l r r.ab.length).length) vtC) (av.mk vbA ((cD l r r.ab.length).length) vbC)))),(aT b3 31 (aS.cells (aS.mk r.Start r.cI (av.mk sgA r.ab.length sgC)))),(aT b2 28 (aF.cells (aF.mk (au.mk (av.mk kA l.al.length kC)) l.bw (av.mk cA l.ag.length cC) (av.mk bA l.aa.length bC) l.aD l.aV l.aJ))),(a5 [own rA rC 3 1 (rs.map iC),own fA fC 3 1 (fs.map iC)]).ro,(rd kA l.al.length 9 (l.al.map ah.cells)).ro,(rd cA l.ag.length 2 (List.zipWith aj.cells l.ag az)).ro,(cZ (aL aj.dX l.ag az)).ro,(rd bA l.aa.length 4 (l.aa.map aY.cells)).ro,(rd sgA r.ab.length 2 (r.ab.map aw.cells)).ro,(rd vwA ((aR l l.aa.length).length) 1 ((aR l l.aa.length).map iC)).ro,(rd vtA ((cf l r r.ab.length).length) 2 ((cf l r r.ab.length).map ae.cells)).ro,(rd vbA ((cD l r r.ab.length).length) 1 ((cD l r r.ab.length).map jx)).ro]) (fun z=>rs.length-z.1) ⟨0,hinit⟩ (an.cons rfl<|an.cons rfl<|an.cons rfl<|an.cons rfl<|an.cons rfl<|an.cons rfl<|an.cons rfl<|aQ rfl hb9<|an.cons rfl<|an.nil _) (fun w hs=>St.br [0,1,2,3,4,5,6,7,8,9,10,11] rfl rfl hs) ?_
 clear hinit
 rintro ⟨i,hl4_0⟩ J10 hJ10
 try dsimp only
 have hti:=py (rs.take i)
 rw [List.length_take] at hti
 refine aq fun _ hK11=>WS fun _ hK12=>rS (MV rfl)<|rS (MV rfl)<|rS (BI rfl cv)<|RK hK12 ?_
 refine bj rfl (fun h13=>?_) (fun h13=>?_)
 ·replace h13:=DT h13
  refine WK hK11<|aq fun _ hK14=>aG<|WS fun _ hK15=>rS (MV rfl)<|rS (MV rfl) ?_
  obtain ⟨x,hx⟩: ∃ y_,rs[i]? =some y_:=⟨rs[i]'(by omega),List.getElem?_eq_getElem _⟩
  have hxm:(rs.map iC)[i]? =some (iC x):=by rw [List.getElem?_map,hx]; rfl
  refine rS (IA i rfl (show jS _ (rd rA rs.length 1 (rs.map iC)).holds from (mQ (c:=rC) (e:=3) 3 rfl (by simp) (by simp))) dY (by decide) (by omega) (by omega))<|rS (iX i 0 (Value.int .i64 x) rfl bu (show jS _ (rd rA rs.length 1 (rs.map iC)).holds from (mQ (c:=rC) (e:=3) 3 rfl (by simp) (by simp))) hxm rfl (by decide) rfl)<|rS (BI rfl kv)<|RK hK15 ?_
  refine bj rfl (fun h30=>?_) (fun h30=>?_)
  rotate_left 1
  ·replace h30:=DF h30
   refine cM<|aK<|KK hK14<|ar<|rS (MV rfl)<|rS (BI rfl (aZ ⟨by omega,by omega⟩))<|rS (AG rfl)<|aP ?_
   have hb18:(Value.int .i64 ((cJ (rs.take (i+1))).right))=(Value.int .i64 ((cJ (rs.take i)).right)):=by exact congrArg (Value.int .i64) (by rw [px hx]; first|(rw [if_pos h30]; done)|(rw [if_neg h30]; exact Int.add_zero _))
   have hb19:(Value.int .i64 (((i+1):Nat):Int))=(Value.int .i64 (((i:Nat):Int)+1)):=by exact congrArg (Value.int .i64) (by omega)
   refine aO (hJ10 ⟨(i+1),(by first|omega|(simp only []; omega))⟩ _ _ _ rfl (by first|omega|(simp; omega)) (an.cons rfl<|an.cons rfl<|an.cons rfl<|an.cons rfl<|an.cons rfl<|an.cons rfl<|an.cons rfl<|aQ rfl hb18<|aQ rfl hb19<|an.nil _) (fun w hs=>St.br [0,1,2,3,4,5,6,7,8,9,10,11] rfl rfl hs))
  replace h30:=DT h30
  refine ar<|rS (MV rfl)<|rS (BI rfl (aZ ⟨by omega,by omega⟩))<|rS (AG rfl)<|aP<|aK<|KK hK14<|ar<|rS (MV rfl)<|rS (BI rfl (aZ ⟨by omega,by omega⟩)) ?_
  refine rS (AG rfl)<|aP ?_
  have hb16:(Value.int .i64 ((cJ (rs.take (i+1))).right))=(Value.int .i64 (((cJ (rs.take i)).right)+1)):=by exact congrArg (Value.int .i64) (by rw [px hx]; first|(rw [if_pos h30]; done)|(rw [if_neg h30]; exact Int.add_zero _))
  have hb17:(Value.int .i64 (((i+1):Nat):Int))=(Value.int .i64 (((i:Nat):Int)+1)):=by exact congrArg (Value.int .i64) (by omega)
  refine aO (hJ10 ⟨(i+1),(by first|omega|(simp only []; omega))⟩ _ _ _ rfl (by first|omega|(simp; omega)) (an.cons rfl<|an.cons rfl<|an.cons rfl<|an.cons rfl<|an.cons rfl<|an.cons rfl<|an.cons rfl<|aQ rfl hb16<|aQ rfl hb17<|an.nil _) (fun w hs=>St.br [0,1,2,3,4,5,6,7,8,9,10,11] rfl rfl hs))
 replace h13:=DF h13
 refine bE<|ai<|ai<|aH<|KK hK7<|aq fun _ hK20=>aq fun _ hK21=>?_
 rw [show rs.take i=rs from List.take_of_length_le (by omega)]
 refine ar<|rS (MV rfl)<|rS (MV rfl)<|rS (BI rfl (da ⟨by omega,by omega⟩))<|rS (FA 6 rfl qK rfl)<|rS (L1 (Value.int .i64 l.aJ) 2 rfl bu rfl rfl)<|rS (BI rfl fY)<|RK hK21 ?_
 refine bj rfl (fun h38=>?_) (fun h38=>?_)
 ·replace h38:=DT h38
  refine WS fun _ hK22=>ia 85 3<|rS (AG rfl)<|RK hK22<|aE<|uQ (C1:=[(own none 0 85 3 [])]) hz [0] rfl rfl rfl<|DQ (W:=fF l r k rs fs) ?_
  rw [show (own none 0 85 3 [])=(own none 0 85 3 (List.zipWith bM.cells (fF l r k rs fs) [])) from by rw [kY (by omega)]; rfl]
  refine hQ _ _ _ (bB (vs:=[(Value.slice none 0 0)]) ⟨rfl,trivial⟩ fun w hs=>xO (none,0,[]) 0 ?_ ?_ rfl (by show List.all _ _=true; rw [List.all_append,m6]; rfl) hs)
  ·clear hs w hQ hN hK22 hK21 hK20 hK12 hK11 hK8 hK7 hK6 hK5 hK1; exact (by rw [kY (by omega)]; rfl)
  ·clear hs w hQ hN hK22 hK21 hK20 hK12 hK11 hK8 hK7 hK6 hK5 hK1; rw [kY (by omega)]; rfl
 replace h38:=DF h38
 refine WK hK20 ?_
 refine mT (ι:={z:(Option Addr)×Nat×(List jc)×(List aA) // (si l r rs fs (rA,rC) (fA,fC) z.2.2.1 z.2.2.2)}) (fun z=>[(3,(Value.slice rA rs.length rC)),(4,(Value.slice fA fs.length fC)),(5,(Value.pointer (some ⟨b2,0,none⟩))),(6,(Value.pointer (some ⟨b3,0,none⟩))),(7,(Value.pointer (some ⟨b4,0,none⟩))),(11,(Value.slice z.1.1 ((eE l r rs fs).length) z.1.2.1)),(12,(Value.int .i64 ((rs.length:Nat):Int)))]) (fun z=>[(own z.1.1 z.1.2.1 85 3 (List.zipWith bM.cells (eE l r rs fs) z.1.2.2.1)),(a5 z.1.2.2.2),(aT b4 130 (dw.cells (dw.mk (av.mk vwA ((aR l l.aa.length).length) vwC) (av.mk vtA ((cf l r r.ab.length).length) vtC) (av.mk vbA ((cD l r r.ab.length).length) vbC)))),(aT b3 31 (aS.cells (aS.mk r.Start r.cI (av.mk sgA r.ab.length sgC)))),(aT b2 28 (aF.cells (aF.mk (au.mk (av.mk kA l.al.length kC)) l.bw (av.mk cA l.ag.length cC) (av.mk bA l.aa.length bC) l.aD l.aV l.aJ))),(a5 [own rA rC 3 1 (rs.map iC),own fA fC 3 1 (fs.map iC)]).ro,(rd kA l.al.length 9 (l.al.map ah.cells)).ro,(rd cA l.ag.length 2 (List.zipWith aj.cells l.ag az)).ro,(cZ (aL aj.dX l.ag az)).ro,(rd bA l.aa.length 4 (l.aa.map aY.cells)).ro,(rd sgA r.ab.length 2 (r.ab.map aw.cells)).ro,(rd vwA ((aR l l.aa.length).length) 1 ((aR l l.aa.length).map iC)).ro,(rd vtA ((cf l r r.ab.length).length) 2 ((cf l r r.ab.length).map ae.cells)).ro,(rd vbA ((cD l r r.ab.length).length) 1 ((cD l r r.ab.length).map jx)).ro]) ?_ fun K23 hK23=>?_
 ·rintro ⟨⟨oA,oC,hzW,LA⟩,hjK23_0⟩
  try dsimp only at hjK23_0
  try dsimp only
  have hjW12:=hjK23_0
  have hjL:=hjW12.len
  have hdl:=sQ (l:=l) (r:=r) (rs:=rs) (fs:=fs)
  refine aq fun _ hK24=>WS fun _ hK25=>rS (MV rfl)<|rS (FA 3 rfl dy rfl)<|rS (L1 (Value.slice bA l.aa.length bC) 4 rfl g3 rfl rfl)<|rS (LN rfl jL) ?_
  have hwb:=qF (l:=l) (r:=r) (rs:=rs) (fs:=fs) hrl (k:=k) (by omega)
  refine rS (BI rfl g0)<|RK hK25 ?_
  refine bj rfl (fun h61=>?_) (fun h61=>?_)
  ·replace h61:=DT h61
   refine WS fun _ hK26=>rS (MV rfl)<|rS (AG rfl)<|RK hK26<|aE ?_
   obtain rfl:k=0:=by omega
   refine xw ?_
   try dsimp only
   refine uQ (C1:=[(own oA oC 85 3 (List.zipWith bM.cells (eE l r rs fs) hzW)),(a5 LA),(a5 (aL bM.owns [] []))]) hz [1,2,0] rfl rfl (by simp only [List.all_cons,List.all_nil,Bool.and_true,Bool.and_eq_true]; exact ⟨rfl,hjW12.wr,m6 _ _⟩)<|AU (ra:=(rA,rC)) (fa:=(fA,fC)) (A':=(own oA oC 85 3 (List.zipWith bM.cells (fF l r 0 rs fs) hzW))) hjW12 ((List.append_nil _).trans (jZ (by omega)).symm) (List.append_nil _) (by rw [jZ (by omega)]) ?_
   refine hQ _ _ _ (bB (vs:=[(Value.slice oA ((eE l r rs fs).length) oC)]) ⟨rfl,trivial⟩ fun w hs=>xO (oA,oC,hzW) 0 ?_ ?_ rfl (by show List.all _ _=true; rw [List.all_append,m6]; rfl) hs)
   ·clear hs w hQ hN hK26 hK25 hK24 hK21 hK20 hK12 hK11 hK8 hK7 hK6 hK5 hK1; exact (by first|rfl|(rw [jZ (by omega)]; rfl)|(rw [j5 (by omega),mo,show r.ab.length+1=j by omega]; rfl))
   ·clear hs w hQ hN hK26 hK25 hK24 hK21 hK20 hK12 hK11 hK8 hK7 hK6 hK5 hK1; rw [jZ (by omega)]; exact hjL
  replace h61:=DF h61
  refine WK hK24<|WS fun _ hK27=>?_
  obtain ⟨k1,rfl⟩: ∃ k1,k=k1+1:=⟨k-1,by omega⟩
  refine rS (FA 0 rfl jr rfl)<|rS (L1 (Value.int .i64 r.Start) 3 rfl bu rfl rfl)<|rS (AG rfl)<|RK hK27 ?_
  refine mT (ι:=Unit) (fun z=>[(3,(Value.slice rA rs.length rC)),(4,(Value.slice fA fs.length fC)),(5,(Value.pointer (some ⟨b2,0,none⟩))),(6,(Value.pointer (some ⟨b3,0,none⟩))),(7,(Value.pointer (some ⟨b4,0,none⟩))),(11,(Value.slice oA ((eE l r rs fs).length) oC)),(12,(Value.int .i64 ((rs.length:Nat):Int))),(15,(Value.int .i64 (eu r.Start fs)))]) (fun z=>[(own oA oC 85 3 (List.zipWith bM.cells (eE l r rs fs) hzW)),(a5 LA),(aT b4 130 (dw.cells (dw.mk (av.mk vwA ((aR l l.aa.length).length) vwC) (av.mk vtA ((cf l r r.ab.length).length) vtC) (av.mk vbA ((cD l r r.ab.length).length) vbC)))),(aT b3 31 (aS.cells (aS.mk r.Start r.cI (av.mk sgA r.ab.length sgC)))),(aT b2 28 (aF.cells (aF.mk (au.mk (av.mk kA l.al.length kC)) l.bw (av.mk cA l.ag.length cC) (av.mk bA l.aa.length bC) l.aD l.aV l.aJ))),(a5 [own rA rC 3 1 (rs.map iC),own fA fC 3 1 (fs.map iC)]).ro,(rd kA l.al.length 9 (l.al.map ah.cells)).ro,(rd cA l.ag.length 2 (List.zipWith aj.cells l.ag az)).ro,(cZ (aL aj.dX l.ag az)).ro,(rd bA l.aa.length 4 (l.aa.map aY.cells)).ro,(rd sgA r.ab.length 2 (r.ab.map aw.cells)).ro,(rd vwA ((aR l l.aa.length).length) 1 ((aR l l.aa.length).map iC)).ro,(rd vtA ((cf l r r.ab.length).length) 2 ((cf l r r.ab.length).map ae.cells)).ro,(rd vbA ((cD l r r.ab.length).length) 1 ((cD l r r.ab.length).map jx)).ro]) ?_ fun K28 hK28=>?_
  ·intro _
   try dsimp only
   refine WS fun _ hK29=>rS (MV rfl)<|rS (FA 0 rfl pr rfl)<|rS (L1 (Value.slice vwA ((aR l l.aa.length).length) vwC) 2 rfl nZ rfl rfl)<|rS (MV rfl) ?_
   obtain ⟨yls,hyl⟩: ∃ y_,(aR l l.aa.length)[rs.length]? =some y_:=⟨(aR l l.aa.length)[rs.length]'(by omega),List.getElem?_eq_getElem _⟩
   have hylm:((aR l l.aa.length).map iC)[rs.length]? =some (iC yls):=by rw [List.getElem?_map,hyl]; rfl
   refine rS (IA rs.length rfl (aI 11 rfl) dY (by decide) (by omega) (by omega))<|rS (iX rs.length 0 (Value.int .i64 yls) rfl bu (aI 11 rfl) hylm rfl (by decide) rfl) ?_
   have hlb:=kR htr hok (i:=rs.length) (by omega)
   rw [qm hyl]
   refine rS (BI rfl (aZ ⟨by omega,by omega⟩))<|rS (AG rfl)<|RK hK29<|aq fun _ hK30=>WS fun _ hK31=>rS (AG rfl)<|RK hK31<|aG ?_
   rw [show (eE l r rs fs)=((eE l r rs fs)++(fm l r k1 rs fs 0)) from (List.append_nil _).symm]
   rw [show hzW=hzW++[] from (List.append_nil _).symm]
   refine nT ?_
   try dsimp only
   have hinit:(0≤r.ab.length+1)∧(([]:List jc).length=(fm l r k1 rs fs 0).length):=by exact ⟨Nat.zero_le _,rfl⟩
   have hb32:(Value.int .i64 (((0:Nat):Int)-1))=(Value.int .i64 (-1)):=by exact congrArg (Value.int .i64) (by omega)
   refine cq (ι:={z:Nat×(Option Addr)×Nat×(List jc) // (z.1≤r.ab.length+1)∧(z.2.2.2.length=(fm l r k1 rs fs z.1).length)}) (fun z=>[(3,(Value.slice rA rs.length rC)),(4,(Value.slice fA fs.length fC)),(5,(Value.pointer (some ⟨b2,0,none⟩))),(6,(Value.pointer (some ⟨b3,0,none⟩))),(7,(Value.pointer (some ⟨b4,0,none⟩))),(11,(Value.slice z.1.2.1 (((eE l r rs fs)++(fm l r k1 rs fs z.1.1)).length) z.1.2.2.1)),(12,(Value.int .i64 ((rs.length:Nat):Int))),(15,(Value.int .i64 ((eu r.Start fs)+(df l rs.length)))),(16,(Value.int .i64 (((z.1.1:Nat):Int)-1)))]) (fun z=>[(a5 (aL bM.owns (fm l r k1 rs fs z.1.1) z.1.2.2.2)),(own z.1.2.1 z.1.2.2.1 85 3 (List.zipWith bM.cells ((eE l r rs fs)++(fm l r k1 rs fs z.1.1)) (hzW++z.1.2.2.2))),(a5 LA),(aT b4 130 (dw.cells (dw.mk (av.mk vwA ((aR l l.aa.length).length) vwC) (av.mk vtA ((cf l r r.ab.length).length) vtC) (av.mk vbA ((cD l r r.ab.length).length) vbC)))),(aT b3 31 (aS.cells (aS.mk r.Start r.cI (av.mk sgA r.ab.length sgC)))),(aT b2 28 (aF.cells (aF.mk (au.mk (av.mk kA l.al.length kC)) l.bw (av.mk cA l.ag.length cC) (av.mk bA l.aa.length bC) l.aD l.aV l.aJ))),(a5 [own rA rC 3 1 (rs.map iC),own fA fC 3 1 (fs.map iC)]).ro,(rd kA l.al.length 9 (l.al.map ah.cells)).ro,(rd cA l.ag.length 2 (List.zipWith aj.cells l.ag az)).ro,(cZ (aL aj.dX l.ag az)).ro,(rd bA l.aa.length 4 (l.aa.map aY.cells)).ro,(rd sgA r.ab.length 2 (r.ab.map aw.cells)).ro,(rd vwA ((aR l l.aa.length).length) 1 ((aR l l.aa.length).map iC)).ro,(rd vtA ((cf l r r.ab.length).length) 2 ((cf l r r.ab.length).map ae.cells)).ro,(rd vbA ((cD l r r.ab.length).length) 1 ((cD l r r.ab.length).map jx)).ro]) (fun z=>r.ab.length+1-z.1.1) ⟨(0,oA,oC,([]:List jc)),hinit⟩ (an.cons rfl<|an.cons rfl<|an.cons rfl<|an.cons rfl<|an.cons rfl<|an.cons rfl<|an.cons rfl<|an.cons rfl<|aQ rfl hb32<|an.nil _) (fun w hs=>St.br [0,1,2,3,4,5,6,7,8,9,10,11,12,13,14] rfl rfl hs) ?_
   clear hinit
   rintro ⟨⟨j,oA2,oC2,azW⟩,⟨hl19_0,hl19_1⟩⟩ J33 hJ33
   try dsimp only at hl19_0 hl19_1
   try dsimp only
   have htlen:=z4 (l:=l) (r:=r) (k:=k1) (j:=j) (rs:=rs) (fs:=fs) hrl (by omega) (by omega)
   refine aq fun _ hK34=>WS fun _ hK35=>rS (MV rfl)<|rS (FA 2 rfl gd rfl)<|rS (L1 (Value.slice sgA r.ab.length sgC) 4 rfl lh rfl rfl)<|rS (LN rfl nB)<|rS (BI rfl cv)<|RK hK35 ?_
   refine bj rfl (fun h36=>?_) (fun h36=>?_)
   rotate_left 1
   ·replace h36:=DF h36
    refine bE<|ai<|ai<|aH<|KK hK30<|WS fun _ hK45=>rS (MV rfl)<|rS (AG rfl)<|RK hK45<|aE ?_
    refine uQ (C1:=[(own oA2 oC2 85 3 (List.zipWith bM.cells ((eE l r rs fs)++(fm l r k1 rs fs j)) (hzW++azW))),(a5 LA),(a5 (aL bM.owns (fm l r k1 rs fs j) azW))]) hz [1,2,0] rfl rfl (by simp only [List.all_cons,List.all_nil,Bool.and_true,Bool.and_eq_true]; exact ⟨rfl,hjW12.wr,m6 _ _⟩)<|AU (ra:=(rA,rC)) (fa:=(fA,fC)) (W:=fF l r (k1+1) rs fs) (A':=(own oA2 oC2 85 3 (List.zipWith bM.cells (fF l r (k1+1) rs fs) (hzW++azW)))) hjW12 (by rw [j5 (by omega),mo,show r.ab.length+1=j by omega]) rfl (by rw [j5 (by omega),mo,show r.ab.length+1=j by omega]) ?_
    refine hQ _ _ _ (bB (vs:=[(Value.slice oA2 (((eE l r rs fs)++(fm l r k1 rs fs j)).length) oC2)]) ⟨rfl,trivial⟩ fun w hs=>xO (oA2,oC2,(hzW++azW)) 0 ?_ ?_ rfl (by show List.all _ _=true; rw [List.all_append,m6]; rfl) hs)
    ·clear hs w hQ hN hK45 hK35 hK34 hK31 hK30 hK29 hK27 hK25 hK24 hK21 hK20 hK12 hK11 hK8 hK7 hK6 hK5 hK1; exact (by first|rfl|(rw [jZ (by omega)]; rfl)|(rw [j5 (by omega),mo,show r.ab.length+1=j by omega]; rfl))
    ·clear hs w hQ hN hK45 hK35 hK34 hK31 hK30 hK29 hK27 hK25 hK24 hK21 hK20 hK12 hK11 hK8 hK7 hK6 hK5 hK1; rw [j5 (by omega),mo,show r.ab.length+1=j by omega]; simp only [List.length_append]; omega
   replace h36:=DT h36
   refine WK hK34<|aq fun _ hK37=>aG<|aq fun _ hK38=>dm cG 5 (by kernel_rfl)<|dS (MV rfl)<|dS (FA 1 rfl lY rfl)<|dS (L1 (Value.int .i64 r.cI) 4 rfl bu rfl rfl)<|dS (AG rfl)<|dS (AG rfl) ?_
   refine cP<|RK hK38 ?_
   refine mT (ι:={z:Int×Int // ((z.1≤z.2→l7 l r rs.length (eu r.Start fs+df l rs.length) (((j:Nat):Int)-1)=some z.1)∧(¬ z.1≤z.2→l7 l r rs.length (eu r.Start fs+df l rs.length) (((j:Nat):Int)-1)=none))∧(r.Start≤z.1∧z.2≤r.cI)}) (fun z=>[(3,(Value.slice rA rs.length rC)),(4,(Value.slice fA fs.length fC)),(5,(Value.pointer (some ⟨b2,0,none⟩))),(6,(Value.pointer (some ⟨b3,0,none⟩))),(7,(Value.pointer (some ⟨b4,0,none⟩))),(11,(Value.slice oA2 (((eE l r rs fs)++(fm l r k1 rs fs j)).length) oC2)),(12,(Value.int .i64 ((rs.length:Nat):Int))),(15,(Value.int .i64 ((eu r.Start fs)+(df l rs.length)))),(16,(Value.int .i64 (((j:Nat):Int)-1))),(17,(Value.int .i64 z.1.1)),(18,(Value.int .i64 z.1.2))]) (fun z=>[(a5 (aL bM.owns (fm l r k1 rs fs j) azW)),(own oA2 oC2 85 3 (List.zipWith bM.cells ((eE l r rs fs)++(fm l r k1 rs fs j)) (hzW++azW))),(a5 LA),(aT b4 130 (dw.cells (dw.mk (av.mk vwA ((aR l l.aa.length).length) vwC) (av.mk vtA ((cf l r r.ab.length).length) vtC) (av.mk vbA ((cD l r r.ab.length).length) vbC)))),(aT b3 31 (aS.cells (aS.mk r.Start r.cI (av.mk sgA r.ab.length sgC)))),(aT b2 28 (aF.cells (aF.mk (au.mk (av.mk kA l.al.length kC)) l.bw (av.mk cA l.ag.length cC) (av.mk bA l.aa.length bC) l.aD l.aV l.aJ))),(a5 [own rA rC 3 1 (rs.map iC),own fA fC 3 1 (fs.map iC)]).ro,(rd kA l.al.length 9 (l.al.map ah.cells)).ro,(rd cA l.ag.length 2 (List.zipWith aj.cells l.ag az)).ro,(cZ (aL aj.dX l.ag az)).ro,(rd bA l.aa.length 4 (l.aa.map aY.cells)).ro,(rd sgA r.ab.length 2 (r.ab.map aw.cells)).ro,(rd vwA ((aR l l.aa.length).length) 1 ((aR l l.aa.length).map iC)).ro,(rd vtA ((cf l r r.ab.length).length) 2 ((cf l r r.ab.length).map ae.cells)).ro,(rd vbA ((cD l r r.ab.length).length) 1 ((cD l r r.ab.length).map jx)).ro]) ?_ fun K39 hK39=>?_
   ·rintro ⟨⟨tt,ee⟩,⟨hjK39_0,hjK39_1⟩⟩
    try dsimp only at hjK39_0 hjK39_1
    try dsimp only
    have hjo:=hjK39_0
    have hjb:=hjK39_1
    refine WS fun _ hK40=>rS (MV rfl)<|rS (MV rfl)<|rS (BI rfl gl)<|RK hK40 ?_
    refine bj rfl (fun h125=>?_) (fun h125=>?_)
    rotate_left 1
    ·replace h125:=DF h125
     refine cM<|aK<|KK hK37<|ar<|rS (MV rfl)<|rS (BI rfl (aZ ⟨by omega,by omega⟩))<|rS (AG rfl)<|aP ?_
     have hno:(fm l r k1 rs fs (j+1))=(fm l r k1 rs fs j):=by first|exact iG (hjo.2 h125)|exact iG (j_ (by omega) hs (fun q=>h99 (by omega)))|exact iG (j_ (by omega) hs (fun q=>by rw [(pI hs hbs).2 q.2] at h106; cases h106))
     rw [← hno]
     have hb60:(Value.int .i64 ((((j+1):Nat):Int)-1))=(Value.int .i64 ((((j:Nat):Int)-1)+1)):=by exact congrArg (Value.int .i64) (by omega)
     refine aO (hJ33 ⟨((j+1),oA2,oC2,azW),⟨by omega,by dsimp only; first|(rw [hno]; exact hl19_1)|(rw [iN hjo1,List.length_append,List.length_append,hl19_1,hyW])⟩⟩ _ _ _ rfl (by first|omega|(simp; omega)) (an.cons rfl<|an.cons rfl<|an.cons rfl<|an.cons rfl<|an.cons rfl<|an.cons rfl<|an.cons rfl<|an.cons rfl<|aQ rfl hb60<|an.nil _) (fun w hs=>St.br [0,1,2,3,4,5,6,7,8,9,10,11,12,13,14] rfl rfl hs))
    replace h125:=DT h125
    refine FN (L':=[(3,(Value.slice rA rs.length rC)),(4,(Value.slice fA fs.length fC)),(5,(Value.pointer (some ⟨b2,0,none⟩))),(6,(Value.pointer (some ⟨b3,0,none⟩))),(7,(Value.pointer (some ⟨b4,0,none⟩))),(11,(Value.slice oA2 (((eE l r rs fs)++(fm l r k1 rs fs j)).length) oC2)),(12,(Value.int .i64 ((rs.length:Nat):Int))),(15,(Value.int .i64 ((eu r.Start fs)+(df l rs.length)))),(16,(Value.int .i64 (((j:Nat):Int)-1))),(17,(Value.int .i64 tt)),(18,(Value.int .i64 ee)),(123,(Value.int .i64 tt)),(124,(Value.int .i64 ee)),(125,(Value.bool (decide (tt≤ee))))]) rfl<|lJ cG [0,1,2,3,5,7,11,13] [4,6,8,9,10,12,14,15,16,17,18] [false,false,false,false,false,false,false,false] [] [(a5 (aL bM.owns (fm l r k1 rs fs j) azW)),(a5 LA),(aT b4 130 (dw.cells (dw.mk (av.mk vwA ((aR l l.aa.length).length) vwC) (av.mk vtA ((cf l r r.ab.length).length) vtC) (av.mk vbA ((cD l r r.ab.length).length) vbC)))),(aT b3 31 (aS.cells (aS.mk r.Start r.cI (av.mk sgA r.ab.length sgC)))),(aT b2 28 (aF.cells (aF.mk (au.mk (av.mk kA l.al.length kC)) l.bw (av.mk cA l.ag.length cC) (av.mk bA l.aa.length bC) l.aD l.aV l.aJ))),(a5 [own rA rC 3 1 (rs.map iC),own fA fC 3 1 (fs.map iC)]).ro,(rd kA l.al.length 9 (l.al.map ah.cells)).ro,(rd cA l.ag.length 2 (List.zipWith aj.cells l.ag az)).ro,(cZ (aL aj.dX l.ag az)).ro,(rd bA l.aa.length 4 (l.aa.map aY.cells)).ro,(rd sgA r.ab.length 2 (r.ab.map aw.cells)).ro,(rd vwA ((aR l l.aa.length).length) 1 ((aR l l.aa.length).map iC)).ro,(rd vtA ((cf l r r.ab.length).length) 2 ((cf l r r.ab.length).map ae.cells)).ro,(rd vbA ((cD l r r.ab.length).length) 1 ((cD l r r.ab.length).map jx)).ro] [] (by kernel_rfl) (fun w hs=>St.br [0,2,3,4,5,6,7,8,9,10,11,12,13,14] rfl rfl hs) (fun w hs=>St.br [] rfl rfl hs)<|eS rfl (MV rfl)<|eS rfl (LW 4 rfl eO rfl rfl)<|eS rfl (LW 3 rfl iw rfl rfl)<|eS rfl (LW 2 rfl vt rfl rfl)<|eS rfl (MV rfl)<|eS rfl (MV rfl)<|eS rfl (MV rfl)<|eS rfl (MV rfl) ?_
    refine fw rfl<|Cy [.take 4,.op 6,.take 8,.op 9,.take 10,.op 12,.take 14,.op 15,.op 16,.op 17,.op 18] [(133,(Value.int .i64 (((j:Nat):Int)-1))),(139,(Value.int .i64 tt))] (fun i=>match i with |4=>130|8=>134|10=>136|14=>140|_=>0) (fun i b=>match i with |4=> .slice (some ⟨b,0,none⟩) 0 0|8=> .slice (some ⟨b,0,none⟩) 1 1|10=> .slice (some ⟨b,0,none⟩) 0 0|14=> .slice (some ⟨b,0,none⟩) 1 1|_=>undef) (fun i b=>match i with |4=>aT b 3 []|8=>aT b 3 [(Value.int .i64 (((j:Nat):Int)-1))]|10=>aT b 3 []|14=>aT b 3 [(Value.int .i64 tt)]|_=>aT b 0 []) rfl rfl rfl (by kernel_rfl) rfl rfl (fun w hs=>St.br [0,2,3,4,5,6,7,8,9,10,11,12,13,14] rfl rfl hs) (ry (z8 rfl dY rfl rfl (fun _=>rfl) fun _=>rfl)<|s7<|ry (Dg (xs:=[.tmp 133]) (cs:=[(Value.int .i64 (((j:Nat):Int)-1))]) rfl dY lK rfl rfl rfl rfl (by simp [Value.cells]) rfl rfl rfl (fun _=>rfl) fun _=>rfl)<|s7<|ry (z8 rfl dY rfl rfl (fun _=>rfl) fun _=>rfl)<|s7<|ry (Dg (xs:=[.tmp 139]) (cs:=[(Value.int .i64 tt)]) rfl dY lK rfl rfl rfl rfl (by simp [Value.cells]) rfl rfl rfl (fun _=>rfl) fun _=>rfl)<|s7<|s7<|s7<|s7<|DV) ?_
    intro b41
    try dsimp only
    refine sx rfl fun Y X K hT=>jX (es:=(List.map iC [])) (C':=[own (some ⟨b41,0,none⟩) 0 3 1 (List.map iC []),_,_,_,_,_,_,_,_,_,_,_,_,_,_,_]++X) 0 rfl (by simp) rfl (by simp [maxLen]) rfl<|dR (es2:=(List.map iC rs)) (m':=rs.length) 0 rfl rfl rfl o9 rfl rfl (by simp) (show jS _ (rd rA rs.length 1 (rs.map iC)).holds from (mQ (c:=rC) (e:=3) 7 rfl (by simp) (by simp))) (jF _) (by first|omega|(simp; done)|(simp; omega)) (by first|(simp only [maxLen]; omega)|(simp [maxLen]; done)|(simp [maxLen]; omega)) (by simp) (by simp) rfl fun a42 c43=>?_
    try dsimp only
    refine o1 hT 24 16 rfl rfl (fun w hs=>St.br [1,3,4,5,6,7,8,9,10,11,12,13,14,15] rfl rfl hs) rfl rfl ?_
    try dsimp only [List.take]
    intro b44
    try dsimp only
    refine sx rfl fun Y X K hT=>dR (es2:=(List.map iC (rs++[((j:Nat):Int)-1]))) (m':=(rs++[((j:Nat):Int)-1]).length) 1 rfl rfl rfl o9 rfl rfl (by simp) (bf (es:=List.map iC [(((j:Nat):Int)-1)]) 0 rfl rfl (by simp [bY]) rfl) (jF _) (by first|omega|(simp; done)|(simp; omega)) (by first|(simp only [maxLen]; omega)|(simp [maxLen]; done)|(simp [maxLen]; omega)) (by simp) (by simp) rfl fun a45 c46=>?_
    try dsimp only
    refine o1 hT 26 17 rfl rfl (fun w hs=>St.br [2,4,5,6,7,8,9,10,11,12,13,14,15,16] rfl rfl hs) rfl rfl ?_
    try dsimp only [List.take]
    intro b47
    try dsimp only
    refine sx rfl fun Y X K hT=>jX (es:=(List.map iC [])) (C':=[own (some ⟨b47,0,none⟩) 0 3 1 (List.map iC []),_,_,_,_,_,_,_,_,_,_,_,_,_,_,_,_,_]++X) 0 rfl (by simp) rfl (by simp [maxLen]) rfl<|dR (es2:=(List.map iC fs)) (m':=fs.length) 0 rfl rfl rfl o9 rfl rfl (by simp) (show jS _ (rd fA fs.length 1 (fs.map iC)).holds from (mQ (c:=fC) (e:=3) 9 rfl (by simp) (by simp))) (jF _) (by first|omega|(simp; done)|(simp; omega)) (by first|(simp only [maxLen]; omega)|(simp [maxLen]; done)|(simp [maxLen]; omega)) (by simp) (by simp) rfl fun a48 c49=>?_
    try dsimp only
    refine o1 hT 28 18 rfl rfl (fun w hs=>St.br [3,5,6,7,8,9,10,11,12,13,14,15,16,17] rfl rfl hs) rfl rfl ?_
    try dsimp only [List.take]
    intro b50
    try dsimp only
    refine sx rfl fun Y X K hT=>dR (es2:=(List.map iC (fs++[tt]))) (m':=(fs++[tt]).length) 1 rfl rfl rfl o9 rfl rfl (by simp) (bf (es:=List.map iC [tt]) 0 rfl rfl (by simp [bY]) rfl) (jF _) (by first|omega|(simp; done)|(simp; omega)) (by first|(simp only [maxLen]; omega)|(simp [maxLen]; done)|(simp [maxLen]; omega)) (by simp) (by simp) rfl fun a51 c52=>?_
    try dsimp only
    refine o1 hT 30 19 rfl rfl (fun w hs=>St.br [4,6,7,8,9,10,11,12,13,14,15,16,17,18] rfl rfl hs) rfl rfl ?_
    try dsimp only [List.take]
    refine sx rfl fun Y X K hT=>?_
    have hjo1:=hjo.1 h125
    refine xp<|om 4 rfl ?_
    try dsimp only [List.eraseIdx]
    refine u6 rfl<|om 2 rfl ?_
    try dsimp only [List.eraseIdx]
    refine u6 rfl ?_
    try dsimp only
    refine mK 0 rfl rfl rfl rfl (hrec k1 (rs++[((j:Nat):Int)-1]) a45 c46 (fs++[tt]) a51 c52 (by omega) (by simp only [List.length_append,List.length_singleton]; omega) (by simp only [List.length_append,List.length_singleton]; omega) (by rw [kP]; omega) (by intro x hx; rcases List.mem_append.1 hx with hx|hx; exact hrs x hx; rw [List.mem_singleton.1 hx]; omega)) rfl (eV 10 rfl rfl (fM (ck _)) (eV 11 rfl rfl (fM (ck _)) (eV 12 rfl rfl (ck _) (eV 13 rfl rfl (fM (ck _)) (eV 14 rfl rfl (fM (ck _)) (eV 15 rfl rfl (fM (ck _)) (eV 16 rfl rfl (fM (ck _)) (eV 17 rfl rfl (fM (ck _)) o0)))))))) rfl (fun y56 hyW=>?_)
    obtain ⟨oA53,oC54,oz55⟩:=y56
    try dsimp only
    dsimp only at hyW
    refine o1 hT 31 18 rfl rfl (fun w hs=>St.br [3,5,6,7,8,9,10,11,12,13,14,15,16,17] rfl rfl hs) rfl rfl ?_
    try dsimp only [List.take]
    refine sx rfl fun Y X K hT=>om 0 rfl ?_
    try dsimp only [List.eraseIdx]
    refine uh ?_
    have hwn:=qF (l:=l) (r:=r) (k:=k1) (rs:=(rs++[((j:Nat):Int)-1])) (fs:=(fs++[tt])) hrl (by omega)
    refine dR (es2:=(List.zipWith bM.cells ((eE l r rs fs)++(fm l r k1 rs fs (j+1))) (hzW++(azW++oz55)))) (m':=((eE l r rs fs)++(fm l r k1 rs fs (j+1))).length) 5 rfl rfl rfl FF rfl rfl (fj (by simp only [List.length_append]; omega)).symm (aC (n:=(fF l r k1 (rs++[((j:Nat):Int)-1]) (fs++[tt])).length) 0 rfl (fj hyW)) (vB _ _) (by simp only [List.length_append]; omega) (by simp only [List.length_append,maxLen]; omega) (by rw [iN hjo1,← List.append_assoc,← List.append_assoc]; exact (Ac (by simp only [List.length_append]; omega)).symm) (fj (by rw [iN hjo1]; simp only [List.length_append]; omega)) rfl fun a57 c58=>?_
    try dsimp only
    refine o1 hT 32 19 rfl rfl (fun w hs=>St.br [4,6,7,8,9,10,11,12,13,14,15,16,17,18] rfl rfl hs) rfl rfl ?_
    try dsimp only [List.take]
    refine sx rfl fun Y X K hT=>rS (AG rfl)<|o1 hT 33 19 rfl rfl (fun w hs=>St.br [4,6,7,8,9,10,11,12,13,14,15,16,17,18] rfl rfl hs) rfl rfl ?_
    try dsimp only [List.take]
    refine aK<|KK hK37<|ar<|rS (MV rfl)<|rS (BI rfl (aZ ⟨by omega,by omega⟩))<|rS (AG rfl)<|aP<|x3 1 rfl ?_
    try dsimp only [List.eraseIdx]
    refine x3 4 rfl ?_
    try dsimp only [List.eraseIdx]
    refine Ae hl19_1 ?_
    rw [← iN hjo1]
    try dsimp only
    have hb59:(Value.int .i64 ((((j+1):Nat):Int)-1))=(Value.int .i64 ((((j:Nat):Int)-1)+1)):=by exact congrArg (Value.int .i64) (by omega)
    refine aO (hJ33 ⟨((j+1),a57,c58,(azW++oz55)),⟨by omega,by dsimp only; first|(rw [hno]; exact hl19_1)|(rw [iN hjo1,List.length_append,List.length_append,hl19_1,hyW])⟩⟩ _ _ _ rfl (by first|omega|(simp; omega)) (an.cons rfl<|an.cons rfl<|an.cons rfl<|an.cons rfl<|an.cons rfl<|an.cons rfl<|an.cons rfl<|an.cons rfl<|aQ rfl hb59<|an.nil _) (fun w hs=>St.br [0,4,5,6,7,8,9,10,11,12,13,14,15,16,17] rfl rfl hs))
   refine WS fun _ hK40=>rS (MV rfl)<|rS (BI rfl kv)<|RK hK40 ?_
   refine bj rfl (fun h90=>?_) (fun h90=>?_)
   rotate_left 1
   ·replace h90:=DF h90
    refine cM ?_
    refine aO (e7 (an.cons rfl<|an.cons rfl<|an.cons rfl<|an.cons rfl<|an.cons rfl<|an.cons rfl<|an.cons rfl<|an.cons rfl<|an.cons rfl<|an.cons rfl<|an.cons rfl<|an.nil _) (fun w hs=>St.br [0,1,2,3,4,5,6,7,8,9,10,11,12,13,14] rfl rfl hs) (hK39 ⟨(((eu r.Start fs)+(df l rs.length)),r.cI),⟨by first|exact wx (by omega)|(rw [hzw]; exact vA (by omega) hs (by omega) hbw),by omega⟩⟩))
   replace h90:=DT h90
   refine aq fun _ hK41=>WS fun _ hK42=>rS (FA 2 rfl gd rfl)<|rS (L1 (Value.slice sgA r.ab.length sgC) 4 rfl lh rfl rfl)<|rS (MV rfl) ?_
   obtain ⟨s,hs⟩: ∃ y_,r.ab[((((j:Nat):Int)-1)).toNat]? =some y_:=⟨r.ab[((((j:Nat):Int)-1)).toNat]'(by omega),List.getElem?_eq_getElem _⟩
   have hsm:(r.ab.map aw.cells)[((((j:Nat):Int)-1)).toNat]? =some (aw.cells s):=by rw [List.getElem?_map,hs]; rfl
   refine rS (IA (((((j:Nat):Int)-1)).toNat) rfl (aI 11 rfl) sU (by decide) (by omega) (by omega))<|rS (ou ((((((j:Nat):Int)-1)).toNat)*2) rfl (aI 11 rfl) (Nat.mul_pos (by omega) (by decide)) gr rfl)<|rS (iX (((((j:Nat):Int)-1)).toNat) 0 (Value.int .i64 s.cU) rfl bu (aI 11 rfl) hsm rfl (by decide) rfl) ?_
   have hsg:=(hr.sig _ s hs).1
   refine rS (MV rfl)<|rS (BI rfl dB)<|rS (MV rfl) ?_
   refine bH (t:=99) rfl (fun h99=>?_) (fun h99=>?_)
   ·replace h99:=XT h99
    refine rS (OX rfl)<|rS (OX rfl)<|rS (OX rfl)<|rS (OX rfl)<|rS (OX rfl)<|rS (OX rfl)<|rS (PK rfl)<|RK hK42<|aX rfl<|bE ?_
    refine ai<|ai<|aH<|KK hK37<|ar<|rS (MV rfl)<|rS (BI rfl (aZ ⟨by omega,by omega⟩))<|rS (AG rfl)<|aP ?_
    have hno:(fm l r k1 rs fs (j+1))=(fm l r k1 rs fs j):=by first|exact iG (hjo.2 h125)|exact iG (j_ (by omega) hs (fun q=>h99 (by omega)))|exact iG (j_ (by omega) hs (fun q=>by rw [(pI hs hbs).2 q.2] at h106; cases h106))
    rw [← hno]
    have hb43:(Value.int .i64 ((((j+1):Nat):Int)-1))=(Value.int .i64 ((((j:Nat):Int)-1)+1)):=by exact congrArg (Value.int .i64) (by omega)
    refine aO (hJ33 ⟨((j+1),oA2,oC2,azW),⟨by omega,by dsimp only; first|(rw [hno]; exact hl19_1)|(rw [iN hjo1,List.length_append,List.length_append,hl19_1,hyW])⟩⟩ _ _ _ rfl (by first|omega|(simp; omega)) (an.cons rfl<|an.cons rfl<|an.cons rfl<|an.cons rfl<|an.cons rfl<|an.cons rfl<|an.cons rfl<|an.cons rfl<|aQ rfl hb43<|an.nil _) (fun w hs=>St.br [0,1,2,3,4,5,6,7,8,9,10,11,12,13,14] rfl rfl hs))
   replace h99:=XF h99
   refine rS (FA 2 rfl uW rfl)<|rS (L1 (Value.slice vbA ((cD l r r.ab.length).length) vbC) 3 rfl BA rfl rfl)<|rS (MV rfl) ?_
   obtain ⟨bs,hbs⟩: ∃ y_,(cD l r r.ab.length)[((((j:Nat):Int)-1)).toNat]? =some y_:=⟨(cD l r r.ab.length)[((((j:Nat):Int)-1)).toNat]'(by omega),List.getElem?_eq_getElem _⟩
   have hbsm:((cD l r r.ab.length).map jx)[((((j:Nat):Int)-1)).toNat]? =some (jx bs):=by rw [List.getElem?_map,hbs]; rfl
   refine rS (IA (((((j:Nat):Int)-1)).toNat) rfl (aI 14 rfl) Dn (by decide) (by omega) (by omega))<|rS (iX (((((j:Nat):Int)-1)).toNat) 0 (Value.bool bs) rfl G5 (aI 14 rfl) hbsm rfl (by decide) rfl)<|rS (NT rfl)<|rS (PK rfl)<|RK hK42 ?_
   refine bj rfl (fun h106=>?_) (fun h106=>?_)
   ·rw [Bool.not_eq_true'] at h106
    refine bE<|ai<|ai<|aH<|KK hK37<|ar<|rS (MV rfl)<|rS (BI rfl (aZ ⟨by omega,by omega⟩))<|rS (AG rfl)<|aP ?_
    have hno:(fm l r k1 rs fs (j+1))=(fm l r k1 rs fs j):=by first|exact iG (hjo.2 h125)|exact iG (j_ (by omega) hs (fun q=>h99 (by omega)))|exact iG (j_ (by omega) hs (fun q=>by rw [(pI hs hbs).2 q.2] at h106; cases h106))
    rw [← hno]
    have hb44:(Value.int .i64 ((((j+1):Nat):Int)-1))=(Value.int .i64 ((((j:Nat):Int)-1)+1)):=by exact congrArg (Value.int .i64) (by omega)
    refine aO (hJ33 ⟨((j+1),oA2,oC2,azW),⟨by omega,by dsimp only; first|(rw [hno]; exact hl19_1)|(rw [iN hjo1,List.length_append,List.length_append,hl19_1,hyW])⟩⟩ _ _ _ rfl (by first|omega|(simp; omega)) (an.cons rfl<|an.cons rfl<|an.cons rfl<|an.cons rfl<|an.cons rfl<|an.cons rfl<|an.cons rfl<|an.cons rfl<|aQ rfl hb44<|an.nil _) (fun w hs=>St.br [0,1,2,3,4,5,6,7,8,9,10,11,12,13,14] rfl rfl hs))
   rw [Bool.not_eq_false'] at h106
   refine WK hK41<|dm cG 18 (by kernel_rfl)<|dS (MV rfl)<|dS (FA 1 rfl pH rfl)<|dS (L1 (Value.slice vtA ((cf l r r.ab.length).length) vtC) 3 rfl vD rfl rfl)<|dS (MV rfl) ?_
   obtain ⟨z,hz⟩: ∃ y_,(cf l r r.ab.length)[((((j:Nat):Int)-1)).toNat]? =some y_:=⟨(cf l r r.ab.length)[((((j:Nat):Int)-1)).toNat]'(by omega),List.getElem?_eq_getElem _⟩
   have hzm:((cf l r r.ab.length).map ae.cells)[((((j:Nat):Int)-1)).toNat]? =some (ae.cells z):=by rw [List.getElem?_map,hz]; rfl
   refine dS (IA (((((j:Nat):Int)-1)).toNat) rfl (aI 13 rfl) km (by decide) (by omega) (by omega))<|dS (ou ((((((j:Nat):Int)-1)).toNat)*2) rfl (aI 13 rfl) (Nat.mul_pos (by omega) (by decide)) bU rfl) ?_
   have hzw:=Be hs hz
   have hzb:=rO l s
   rw [← hzw] at hzb
   have hbw:(bT l s).Lo≤(bT l s).Hi:=(pI hs hbs).1 h106
   refine dS (iX (((((j:Nat):Int)-1)).toNat) 0 (Value.int .i64 z.Lo) rfl bu (aI 13 rfl) hzm rfl (by decide) rfl)<|dS (MX rfl)<|dS (MV rfl)<|dS (FA 1 rfl pH rfl)<|dS (L1 (Value.slice vtA ((cf l r r.ab.length).length) vtC) 3 rfl vD rfl rfl)<|dS (MV rfl)<|dS (IA (((((j:Nat):Int)-1)).toNat) rfl (aI 13 rfl) km (by decide) (by omega) (by omega))<|dS (ou (((((((j:Nat):Int)-1)).toNat)*2)+1) rfl (aI 13 rfl) (Nat.mul_pos (by omega) (by decide)) cd rfl)<|dS (iX (((((j:Nat):Int)-1)).toNat) 1 (Value.int .i64 z.Hi) rfl bu (aI 13 rfl) hzm rfl (by decide) rfl)<|dS (MN rfl) ?_
   refine dS (AG rfl)<|dS (AG rfl)<|cP<|aP ?_
   refine aO (e7 (an.cons rfl<|an.cons rfl<|an.cons rfl<|an.cons rfl<|an.cons rfl<|an.cons rfl<|an.cons rfl<|an.cons rfl<|an.cons rfl<|an.cons rfl<|an.cons rfl<|an.nil _) (fun w hs=>St.br [0,1,2,3,4,5,6,7,8,9,10,11,12,13,14] rfl rfl hs) (hK39 ⟨((max ((eu r.Start fs)+(df l rs.length)) z.Lo),(min r.cI z.Hi)),⟨by first|exact wx (by omega)|(rw [hzw]; exact vA (by omega) hs (by omega) hbw),by omega⟩⟩))
  refine WS fun _ hK29=>rS (MV rfl)<|rS (BI rfl fY)<|RK hK29 ?_
  refine bj rfl (fun h66=>?_) (fun h66=>?_)
  rotate_left 1
  ·replace h66:=DF h66
   refine cM ?_
   have hb31:(Value.int .i64 (eu r.Start fs))=(Value.int .i64 r.Start):=by first|exact congrArg (Value.int .i64) (sR _ _ _ (by rw [hfl]; exact hxf))|exact congrArg (Value.int .i64) (by have e:fs=[]:=List.eq_nil_of_length_eq_zero (by omega); rw [e]; rfl)
   refine aO (e7 (an.cons rfl<|an.cons rfl<|an.cons rfl<|an.cons rfl<|an.cons rfl<|an.cons rfl<|an.cons rfl<|aQ rfl hb31<|an.nil _) (fun w hs=>St.br [0,1,2,3,4,5,6,7,8,9,10,11,12,13] rfl rfl hs) (hK28 ()))
  replace h66:=DT h66
  refine ar<|rS (MV rfl)<|rS (MV rfl)<|rS (BI rfl (da ⟨by omega,by omega⟩)) ?_
  obtain ⟨xf,hxf⟩: ∃ y_,fs[(rs.length-1)]? =some y_:=⟨fs[(rs.length-1)]'(by omega),List.getElem?_eq_getElem _⟩
  have hxfm:(fs.map iC)[(rs.length-1)]? =some (iC xf):=by rw [List.getElem?_map,hxf]; rfl
  refine rS (IA (rs.length-1) rfl (show jS _ (rd fA fs.length 1 (fs.map iC)).holds from (mQ (c:=fC) (e:=3) 5 rfl (by simp) (by simp))) dY (by decide) (by omega) (by omega))<|rS (iX (rs.length-1) 0 (Value.int .i64 xf) rfl bu (show jS _ (rd fA fs.length 1 (fs.map iC)).holds from (mQ (c:=fC) (e:=3) 5 rfl (by simp) (by simp))) hxfm rfl (by decide) rfl)<|rS (AG rfl)<|aP ?_
  have hb30:(Value.int .i64 (eu r.Start fs))=(Value.int .i64 xf):=by first|exact congrArg (Value.int .i64) (sR _ _ _ (by rw [hfl]; exact hxf))|exact congrArg (Value.int .i64) (by have e:fs=[]:=List.eq_nil_of_length_eq_zero (by omega); rw [e]; rfl)
  refine aO (e7 (an.cons rfl<|an.cons rfl<|an.cons rfl<|an.cons rfl<|an.cons rfl<|an.cons rfl<|an.cons rfl<|aQ rfl hb30<|an.nil _) (fun w hs=>St.br [0,1,2,3,4,5,6,7,8,9,10,11,12,13] rfl rfl hs) (hK28 ()))
 refine WS fun _ hK24=>rS (FA 2 rfl gd rfl)<|rS (L1 (Value.slice sgA r.ab.length sgC) 1 rfl lh rfl rfl)<|rS (LN rfl nB)<|rS (MV rfl)<|rS (BI rfl (da ⟨by omega,by omega⟩))<|rS (FA 5 rfl qz rfl)<|rS (L1 (Value.int .i64 l.aV) 2 rfl bu rfl rfl)<|rS (BI rfl gl)<|RK hK24 ?_
 refine bj rfl (fun h46=>?_) (fun h46=>?_)
 rotate_left 1
 ·replace h46:=DF h46
  refine cM<|xw<|yQ 85 3 ?_
  rw [show (own none 0 85 3 [])=(own none 0 85 3 (List.zipWith bM.cells (eE l r rs fs) [])) from by rw [sZ h46]; rfl]
  have hb33:(Value.slice none ((eE l r rs fs).length) 0)=(Value.slice none 0 0):=by first|rfl|(rw [sZ h46]; rfl)
  refine aO (e7 (an.cons rfl<|an.cons rfl<|an.cons rfl<|an.cons rfl<|an.cons rfl<|aQ rfl hb33<|an.cons rfl<|an.nil _) (fun w hs=>St.br [0,1,2,3,4,5,6,7,8,9,10,11,12,13] rfl rfl hs) (hK23 ⟨(none,0,[],[]),(by first|exact .inl ⟨h46,_,rfl,rfl⟩|exact .inr ⟨h46,rfl,rfl⟩)⟩))
 replace h46:=DT h46
 refine ar<|rS (MV rfl)<|rS (MV rfl)<|rS (MV rfl)<|rS (LW 1 rfl iw rfl rfl)<|rS (LW 0 rfl vt rfl rfl)<|rS (MV rfl)<|cX (AN r sgA sgC l vwA vwC vtA vtC vbA vbC rs rA rC hle hr (by omega) (by exact fun x hx h0=>(hrs x hx).2)) (ax 8 rfl rfl<|ax 9 rfl rfl<|ax 10 rfl rfl<|ax 11 rfl rfl<|aM (show jS _ (rd rA rs.length 1 (rs.map iC)).holds from (mQ (c:=rC) (e:=3) 3 rfl (by simp) (by simp)))<|ay) rfl fun y25 hy26=>?_
 obtain ⟨a27,c28⟩:=y25
 try dsimp only
 refine rS (SX (bp (xs:=[(0,.tmp 48),(1,.tmp 49),(2,.tmp 53)]) (cs:=(td.cells (td.mk (av.mk rA rs.length rC) (av.mk fA fs.length fC) (av.mk a27 ((gY l r rs).length) c28)))) rfl rfl (bq Ix rfl)) rfl rfl)<|fp (xs:=[.tmp 54]) (cs:=(td.cells (td.mk (av.mk rA rs.length rC) (av.mk fA fs.length fC) (av.mk a27 ((gY l r rs).length) c28)))) rfl wo Hz rfl rfl rfl rfl (by simp [Value.cells,td.bg]) rfl rfl fun b29=>ia 85 3<|dR (es2:=(List.zipWith bM.cells (eE l r rs fs) ([((rA,rC),(fA,fC),(a27,c28))]))) (m':=(eE l r rs fs).length) 0 rfl rfl rfl FF rfl rfl rfl (bf (es:=List.zipWith bM.cells [(bM.mk rs fs (gY l r rs))] [((rA,rC),(fA,fC),(a27,c28))]) 1 rfl rfl (by intro e he; simp at he; subst he; rfl) rfl) (vB _ _) (by decide) (by decide) (by rw [ud h46]; rfl) (by rw [ud h46]; rfl) rfl fun a30 c31=>?_
 try dsimp only
 refine xp<|Gd 0 3 rfl rfl rfl ?_
 try dsimp only
 refine rS (AG rfl)<|aP ?_
 have hb32:(Value.slice a30 ((eE l r rs fs).length) c31)=(Value.slice a30 ((eE l r rs fs).length) c31):=by first|rfl|(rw [sZ h46]; rfl)
 refine aO (e7 (an.cons rfl<|an.cons rfl<|an.cons rfl<|an.cons rfl<|an.cons rfl<|aQ rfl hb32<|an.cons rfl<|an.nil _) (fun w hs=>St.br [1,0,3,4,5,6,7,8,9,10,11,12,13,14] rfl rfl hs) (hK23 ⟨(a30,c31,[((rA,rC),(fA,fC),(a27,c28))],[(own a27 c28 3 1 ((gY l r rs).map iC))]),(by first|exact .inl ⟨h46,_,rfl,rfl⟩|exact .inr ⟨h46,rfl,rfl⟩)⟩))
theorem EK (l:aU) (kA:Option Addr) (kC:Nat) (az:List RA) (cA:Option Addr) (cC:Nat) (bA:Option Addr) (bC:Nat) (r:bK) (sgA:Option Addr) (sgC:Nat) (vwA:Option Addr) (vwC:Nat) (vtA:Option Addr) (vtC:Nat) (vbA:Option Addr) (vbC:Nat) (k:Nat) (rs:List Int) (rA:Option Addr) (rC:Nat) (fs:List Int) (fA:Option Addr) (fC:Nat) (hin:dC l az) (hle:dk l=0) (hr:cN l r) (hk:rs.length+k=l.aa.length) (hfl:fs.length=rs.length) (hst:r.Start≤eu r.Start fs∧eu r.Start fs≤r.cI) (hrs: ∀ x∈rs,-1≤x∧x<(r.ab.length:Int)):
 CY Tryz.prog 63 [(Value.agg (aF.cells (aF.mk (au.mk (av.mk kA l.al.length kC)) l.bw (av.mk cA l.ag.length cC) (av.mk bA l.aa.length bC) l.aD l.aV l.aJ)).toArray),(Value.agg (aS.cells (aS.mk r.Start r.cI (av.mk sgA r.ab.length sgC))).toArray),(Value.agg (dw.cells (dw.mk (av.mk vwA ((aR l l.aa.length).length) vwC) (av.mk vtA ((cf l r r.ab.length).length) vtC) (av.mk vbA ((cD l r r.ab.length).length) vbC))).toArray),(Value.slice rA rs.length rC),(Value.slice fA fs.length fC)] [(rd kA l.al.length 9 (l.al.map ah.cells)),(rd cA l.ag.length 2 (List.zipWith aj.cells l.ag az)),(cZ (aL aj.dX l.ag az)),(rd bA l.aa.length 4 (l.aa.map aY.cells)),(rd sgA r.ab.length 2 (r.ab.map aw.cells)),(rd vwA ((aR l l.aa.length).length) 1 ((aR l l.aa.length).map iC)),(rd vtA ((cf l r r.ab.length).length) 2 ((cf l r r.ab.length).map ae.cells)),(rd vbA ((cD l r r.ab.length).length) 1 ((cD l r r.ab.length).map jx))] (a5 [own rA rC 3 1 (rs.map iC),own fA fC 3 1 (fs.map iC)]) (fun (x:(Option Addr)×Nat×(List jc))=>(Value.slice x.1 ((fF l r k rs fs).length) x.2.1)) (fun (x:(Option Addr)×Nat×(List jc))=>x.2.2.length=(fF l r k rs fs).length) (fun (x:(Option Addr)×Nat×(List jc))=>(a5 (aL bM.owns (fF l r k rs fs) x.2.2++[own x.1 x.2.1 85 3 (List.zipWith bM.cells (fF l r k rs fs) x.2.2)]))):=by
 induction k using Nat.strongRecOn generalizing rs rA rC fs fA fC with
 |ind k ih=>exact zf l kA kC az cA cC bA bC r sgA sgC vwA vwC vtA vtC vbA vbC k rs rA rC fs fA fC hin hle hr hk hfl hst hrs (fun k2 rs2 rA2 rC2 fs2 fA2 fC2 e1 e2 e3 e4 e5=>ih k2 e1 rs2 rA2 rC2 fs2 fA2 fC2 e2 e3 e4 e5)
end
section
open Go.RowKit
set_option linter.unusedVariables false
set_option maxRecDepth 100000 in
set_option maxHeartbeats 400000 in
theorem pT (l:aU) (kA:Option Addr) (kC:Nat) (az:List RA) (cA:Option Addr) (cC:Nat) (bA:Option Addr) (bC:Nat) (r:bK) (sgA:Option Addr) (sgC:Nat) (hin:dC l az) (hsl:r.ab.length≤1000000):
 rp Tryz.prog 35 [(Value.agg (aF.cells (aF.mk (au.mk (av.mk kA l.al.length kC)) l.bw (av.mk cA l.ag.length cC) (av.mk bA l.aa.length bC) l.aD l.aV l.aJ)).toArray),(Value.agg (aS.cells (aS.mk r.Start r.cI (av.mk sgA r.ab.length sgC))).toArray)] [(rd kA l.al.length 9 (l.al.map ah.cells)),(rd cA l.ag.length 2 (List.zipWith aj.cells l.ag az)),(cZ (aL aj.dX l.ag az)),(rd bA l.aa.length 4 (l.aa.map aY.cells)),(rd sgA r.ab.length 2 (r.ab.map aw.cells))] (fun (x:Bool×Int×(Option Addr)×Nat×(List jc))=>bif x.1 then (Value.tuple [(Value.slice x.2.2.1 ((cu l r).length) x.2.2.2.1),(Value.int .i64 0)].toArray) else (Value.tuple [(Value.slice none 0 0),(Value.int .i64 x.2.1)].toArray)) (fun (x:Bool×Int×(Option Addr)×Nat×(List jc))=>(x.1=true→(cr l r 0=0∧x.2.2.2.2.length=(cu l r).length))∧(x.1=false→(x.2.1=cr l r 0∧ ¬ cr l r 0=0))) (fun (x:Bool×Int×(Option Addr)×Nat×(List jc))=>bif x.1 then [(own x.2.2.1 x.2.2.2.1 85 3 (List.zipWith bM.cells (cu l r) x.2.2.2.2)),(a5 (aL bM.owns (cu l r) x.2.2.2.2))] else []):=by
 have htk:=hin.nm
 have hck:=hin.nv
 have has:=hin.m_
 have hbm:=hin.nd
 refine gp I5 Tryz.func35 rfl rfl fun w0 Q hQ hN=>?_
 try dsimp only
 refine WS fun _ hK1=>fy rfl fun b2=>fy rfl fun b3=>rS (AG rfl)<|rS (AG rfl)<|RK hK1<|aq fun _ hK4=>WS fun _ hK5=>rS (LW 1 rfl eO rfl rfl)<|rS (CL (wm l kA kC az cA cC bA bC hin) (ax 2 rfl rfl<|ax 3 rfl rfl<|ax 4 rfl rfl<|ax 5 rfl rfl<|ay) rfl) ?_
 refine rS (AG rfl)<|RK hK5<|WS fun _ hK6=>rS (MV rfl)<|rS (BI rfl dB)<|RK hK6 ?_
 refine bj rfl (fun h11=>?_) (fun h11=>?_)
 ·replace h11:=XT h11
  refine WS fun _ hK7=>rS (MV rfl)<|rS (AG rfl)<|rS (AG rfl)<|RK hK7<|aE ?_
  refine hQ _ _ _ (bB (vs:=[(Value.slice none 0 0),(Value.int .i64 (dk l))]) ⟨rfl,rfl,trivial⟩ fun w hs=>fB (false,(dk l),none,0,[]) [] ?_ ?_ rfl rfl (by first|rfl|(show List.all _ _=true; simp only [cond_true,List.all_cons,List.all_nil,pq,Bool.and_true]; rfl)) hs)
  ·rfl
  ·refine ⟨fun q=>Bool.noConfusion (show false=true from q),fun _=>?_⟩; first|(have e:=bZ (r:=r) (me:=0) h11; exact ⟨e.symm,fun q=>h11 (e.symm.trans q)⟩)|(have e:=bk (me:=0) h11 h16; exact ⟨e.symm,fun q=>absurd (e.symm.trans q) (by decide)⟩)|(have e:=c_ (me:=0) h11 h16 rfl ((dv h11 h16).1 (List.eq_nil_of_length_eq_zero (Int.natCast_eq_zero.1 h25))); exact ⟨e.symm,fun q=>absurd (e.symm.trans q) (by decide)⟩)
 replace h11:=XF h11
 refine WK hK4<|aq fun _ hK8=>WS fun _ hK9=>rS (LW 1 rfl eO rfl rfl)<|rS (LW 0 rfl iw rfl rfl)<|rS (CL (x5 l kA kC az cA cC bA bC r sgA sgC hin (by exact hsl)) (ax 2 rfl rfl<|ax 3 rfl rfl<|ax 4 rfl rfl<|ax 5 rfl rfl<|ax 6 rfl rfl<|ay) rfl)<|rS (NT rfl)<|RK hK9 ?_
 refine bj rfl (fun h16=>?_) (fun h16=>?_)
 ·replace h16:=XT h16
  refine WS fun _ hK10=>rS (AG rfl)<|rS (AG rfl)<|RK hK10<|aE ?_
  refine hQ _ _ _ (bB (vs:=[(Value.slice none 0 0),(Value.int .i64 51)]) ⟨rfl,rfl,trivial⟩ fun w hs=>fB (false,51,none,0,[]) [] ?_ ?_ rfl rfl (by first|rfl|(show List.all _ _=true; simp only [cond_true,List.all_cons,List.all_nil,pq,Bool.and_true]; rfl)) hs)
  ·rfl
  ·refine ⟨fun q=>Bool.noConfusion (show false=true from q),fun _=>?_⟩; first|(have e:=bZ (r:=r) (me:=0) h11; exact ⟨e.symm,fun q=>h11 (e.symm.trans q)⟩)|(have e:=bk (me:=0) h11 h16; exact ⟨e.symm,fun q=>absurd (e.symm.trans q) (by decide)⟩)|(have e:=c_ (me:=0) h11 h16 rfl ((dv h11 h16).1 (List.eq_nil_of_length_eq_zero (Int.natCast_eq_zero.1 h25))); exact ⟨e.symm,fun q=>absurd (e.symm.trans q) (by decide)⟩)
 replace h16:=XF h16
 refine WK hK8<|aq fun _ hK11=>er cG [0,1,2,3] [4,5,6] [false,false,false,false] [false,false,false] [(aT b3 31 (aS.cells (aS.mk r.Start r.cI (av.mk sgA r.ab.length sgC)))),(aT b2 28 (aF.cells (aF.mk (au.mk (av.mk kA l.al.length kC)) l.bw (av.mk cA l.ag.length cC) (av.mk bA l.aa.length bC) l.aD l.aV l.aJ))),(rd kA l.al.length 9 (l.al.map ah.cells)).ro,(rd cA l.ag.length 2 (List.zipWith aj.cells l.ag az)).ro,(cZ (aL aj.dX l.ag az)).ro,(rd bA l.aa.length 4 (l.aa.map aY.cells)).ro,(rd sgA r.ab.length 2 (r.ab.map aw.cells)).ro] [] (by kernel_rfl) (fun w hs=>St.br [0,1,2,3,4,5,6] rfl rfl hs) (fun w hs=>St.br [] rfl rfl hs)<|eS rfl (LW 1 rfl eO rfl rfl)<|eS rfl (LW 0 rfl iw rfl rfl)<|eS rfl (LW 1 rfl eO rfl rfl)<|eS rfl (LW 0 rfl iw rfl rfl)<|fw rfl<|cL rfl fun T12 hT12=>cX (CM l kA kC az cA cC bA bC r sgA sgC hin (by exact h11) (by exact h16)) (ax 2 rfl rfl<|ax 3 rfl rfl<|ax 4 rfl rfl<|ax 5 rfl rfl<|ax 6 rfl rfl<|ay) rfl fun y13 hy14=>?_
 obtain ⟨a15,c16,ta17,tc18,sa19,sc20⟩:=y13
 try dsimp only
 refine RN hT12 [3,4,5,6,7,8,9] rfl rfl<|cL rfl fun T21 hT21=>ia 3 1<|ia 3 1<|xp<|om 1 rfl ?_
 try dsimp only [List.eraseIdx]
 refine u6 rfl<|om 1 rfl ?_
 try dsimp only [List.eraseIdx]
 refine u6 rfl ?_
 try dsimp only
 refine mK 0 rfl rfl rfl rfl (EK l kA kC az cA cC bA bC r sgA sgC a15 c16 ta17 tc18 sa19 sc20 l.aa.length ([]:List Int) none 0 ([]:List Int) none 0 hin (by exact h11) (by exact h16) (by simp) (by rfl) (by exact ⟨Int.le_refl _,h16.time.2.1⟩) (by intro x hx; cases hx)) rfl (eV 6 rfl rfl (fM (ck _)) (eV 7 rfl rfl (fM (ck _)) (eV 8 rfl rfl (ck _) (eV 9 rfl rfl (fM (ck _)) (eV 10 rfl rfl (fM (ck _)) (eV 1 rfl rfl (eh (by simp)) (eV 2 rfl rfl (eh (by simp)) (eV 3 rfl rfl (eh (by simp)) o0)))))))) rfl (fun y25 hyW=>?_)
 obtain ⟨oA22,oC23,oz24⟩:=y25
 try dsimp only
 refine RN hT21 [4,5,6,7,8,9,10] rfl rfl<|cL rfl fun T26 hT26=>om 0 rfl ?_
 try dsimp only [List.eraseIdx]
 refine uh ?_
 dsimp only at hyW
 refine rS (AG rfl)<|RN hT26 [5,6,7,8,9,10,11] rfl rfl<|g_ rfl<|KK hK11<|aq fun _ hK27=>WS fun _ hK28=>rS (MV rfl)<|rS (LN rfl Aj)<|rS (BI rfl g0)<|RK hK28 ?_
 refine bj rfl (fun h25=>?_) (fun h25=>?_)
 rotate_left 1
 ·replace h25:=DF h25
  refine WK hK27<|WS fun _ hK30=>rS (MV rfl)<|rS (AG rfl)<|rS (AG rfl)<|RK hK30<|aE ?_
  refine hQ _ _ _ (bB (vs:=[(Value.slice oA22 ((fF l r l.aa.length ([]:List Int) ([]:List Int)).length) oC23),(Value.int .i64 0)]) ⟨rfl,rfl,trivial⟩ fun w hs=>fB (true,0,oA22,oC23,oz24) [0,1] ?_ ?_ rfl rfl (by first|rfl|(show List.all _ _=true; simp only [cond_true,List.all_cons,List.all_nil,pq,Bool.and_true]; rfl)) hs)
  ·rfl
  ·exact ⟨fun _=>⟨ke h11 h16 rfl fun q=>h25 (by rw [show fF l r l.aa.length [] []=[] from (dv h11 h16).2 q]; rfl),hyW⟩,fun q=>Bool.noConfusion (show true=false from q)⟩
 replace h25:=DT h25
 refine WS fun _ hK29=>rS (AG rfl)<|rS (AG rfl)<|RK hK29<|aE ?_
 refine hQ _ _ _ (bB (vs:=[(Value.slice none 0 0),(Value.int .i64 8)]) ⟨rfl,rfl,trivial⟩ fun w hs=>fB (false,8,none,0,[]) [] ?_ ?_ rfl rfl (by first|rfl|(show List.all _ _=true; simp only [cond_true,List.all_cons,List.all_nil,pq,Bool.and_true]; rfl)) hs)
 ·rfl
 ·refine ⟨fun q=>Bool.noConfusion (show false=true from q),fun _=>?_⟩; first|(have e:=bZ (r:=r) (me:=0) h11; exact ⟨e.symm,fun q=>h11 (e.symm.trans q)⟩)|(have e:=bk (me:=0) h11 h16; exact ⟨e.symm,fun q=>absurd (e.symm.trans q) (by decide)⟩)|(have e:=c_ (me:=0) h11 h16 rfl ((dv h11 h16).1 (List.eq_nil_of_length_eq_zero (Int.natCast_eq_zero.1 h25))); exact ⟨e.symm,fun q=>absurd (e.symm.trans q) (by decide)⟩)
set_option maxRecDepth 100000 in
set_option maxHeartbeats 400000 in
theorem uk (ws:List bM) (wz:List jc) (wA:Option Addr) (wC:Nat) (b:Nat) (hws:B7 ws) (hwz:wz.length=ws.length) (hb:b≤6):
 eH Tryz.prog 44 [(Value.slice wA ws.length wC),(Value.int .i64 ((b:Nat):Int))] [(rd wA ws.length 3 (List.zipWith bM.cells ws wz)),(cZ (aL bM.dX ws wz))] (Value.tuple [(Value.agg (ae.cells (jE ws b)).toArray),(Value.int .i64 (ju ws b))].toArray):=by
 have hwn:=hws.num
 refine bL Hr Tryz.func44 rfl rfl fun w0 Q hQ hN=>?_
 try dsimp only
 refine WS fun _ hK1=>AL rfl dF fun b2=>rS (AG rfl)<|RK hK1<|WS fun _ hK3=>AL rfl dF fun b4=>RK hK3<|WS fun _ hK5=>rS (AG rfl)<|RK hK5 ?_
 refine aq fun _ hK6=>WS fun _ hK7=>rS (AG rfl)<|RK hK7<|aG ?_
 have hinit:(0≤ws.length)∧(lq b (ws.take 0) false (ae.mk 0 0)):=by exact ⟨Nat.zero_le _,zo⟩
 refine cq (ι:={z:Nat×Bool×ae // (z.1≤ws.length)∧(lq b (ws.take z.1) z.2.1 z.2.2)}) (fun z=>[(0,(Value.slice wA ws.length wC)),(1,(Value.int .i64 ((b:Nat):Int))),(4,(Value.pointer (some ⟨b2,0,none⟩))),(5,(Value.int .i64 0)),(6,(Value.pointer (some ⟨b4,0,none⟩))),(7,(Value.bool z.1.2.1)),(8,(Value.int .i64 ((z.1.1:Nat):Int)))]) (fun z=>[(aT b4 47 (ae.cells z.1.2.2)),(aT b2 47 (ae.cells (ae.mk 0 0))),(rd wA ws.length 3 (List.zipWith bM.cells ws wz)).ro,(cZ (aL bM.dX ws wz)).ro]) (fun z=>ws.length-z.1.1) ⟨(0,false,(ae.mk 0 0)),hinit⟩ (an.cons rfl<|an.cons rfl<|an.cons rfl<|an.cons rfl<|an.cons rfl<|an.cons rfl<|an.cons rfl<|an.nil _) (fun w hs=>St.br [0,1,2,3] rfl rfl hs) ?_
 clear hinit
 rintro ⟨⟨i,fd,o⟩,⟨hl4_0,hl4_1⟩⟩ J8 hJ8
 try dsimp only at hl4_0 hl4_1
 try dsimp only
 refine aq fun _ hK9=>WS fun _ hK10=>rS (MV rfl)<|rS (MV rfl)<|rS (LN rfl Aj)<|rS (BI rfl cv)<|RK hK10 ?_
 refine bj rfl (fun h11=>?_) (fun h11=>?_)
 rotate_left 1
 ·replace h11:=DF h11
  refine bE<|ai<|ai<|aH<|KK hK6<|aq fun _ hK24=>WS fun _ hK25=>rS (MV rfl)<|rS (NT rfl)<|RK hK25 ?_
  refine bj rfl (fun h55=>?_) (fun h55=>?_)
  rotate_left 1
  ·rw [Bool.not_eq_false'] at h55
   refine WK hK24<|WS fun _ hK27=>rS (LW 0 rfl cp rfl rfl)<|nk rfl cK rfl<|rS (AG rfl)<|RK hK27<|aE ?_
   refine hQ _ _ _ (bB (vs:=[(Value.agg (ae.cells o).toArray),(Value.int .i64 0)]) ⟨⟨_,rfl,.inl ⟨_,_,cp,cy (vs:=(ae.cells o)) 1 rfl rfl,rfl,rfl⟩⟩,rfl,trivial⟩ fun w hs=>fq ?_ hs)
   show (Value.tuple [(Value.agg (ae.cells o).toArray),(Value.int .i64 0)].toArray)=(Value.tuple [(Value.agg (ae.cells (jE ws b)).toArray),(Value.int .i64 (ju ws b))].toArray)
   clear hs w hQ hN hK27 hK25 hK24 hK10 hK9 hK7 hK6 hK5 hK3 hK1
   have hff:=ux (by have q:=hl4_1; rwa [List.take_of_length_le (by omega)] at q) hws.x8
   first|(have q:=hff.1 h55; rw [q.1,q.2]; done)|(have q:=hff.2 h55; rw [q.1,q.2]; done)
  rw [Bool.not_eq_true'] at h55
  refine WS fun _ hK26=>rS (SX (bp (xs:=[]) (cs:=(ae.cells (ae.mk 0 0))) rfl rfl (bq fI rfl)) rfl rfl)<|nk rfl cK rfl<|rS (AG rfl)<|RK hK26<|aE ?_
  refine hQ _ _ _ (bB (vs:=[(Value.agg (ae.cells (ae.mk 0 0)).toArray),(Value.int .i64 6)]) ⟨⟨_,rfl,.inl ⟨_,_,cp,cy (vs:=(ae.cells (ae.mk 0 0))) 1 rfl rfl,rfl,rfl⟩⟩,rfl,trivial⟩ fun w hs=>fq ?_ hs)
  show (Value.tuple [(Value.agg (ae.cells (ae.mk 0 0)).toArray),(Value.int .i64 6)].toArray)=(Value.tuple [(Value.agg (ae.cells (jE ws b)).toArray),(Value.int .i64 (ju ws b))].toArray)
  clear hs w hQ hN hK26 hK25 hK24 hK10 hK9 hK7 hK6 hK5 hK3 hK1
  have hff:=ux (by have q:=hl4_1; rwa [List.take_of_length_le (by omega)] at q) hws.x8
  first|(have q:=hff.1 h55; rw [q.1,q.2]; done)|(have q:=hff.2 h55; rw [q.1,q.2]; done)
 replace h11:=DT h11
 refine WK hK9<|aq fun _ hK12=>aG<|aq fun _ hK13=>WS fun _ hK14=>rS (MV rfl)<|rS (MV rfl) ?_
 obtain ⟨y,hy⟩: ∃ y_,ws[i]? =some y_:=⟨ws[i]'(by omega),List.getElem?_eq_getElem _⟩
 obtain ⟨ya,hya⟩: ∃ y_,wz[i]? =some y_:=⟨wz[i]'(by omega),List.getElem?_eq_getElem _⟩
 have hym:(List.zipWith bM.cells ws wz)[i]? =some (bM.cells y ya):=gM hy hya
 refine rS (IA i rfl (aI 2 rfl) wo (by decide) (by omega) (by omega))<|rS (ou (i*3) rfl (aI 2 rfl) (Nat.mul_pos (by omega) (by decide)) sr rfl)<|rS (iX i 0 (Value.slice ya.1.1 y.cY.length ya.1.2) rfl nZ (aI 2 rfl) hym rfl (by decide) rfl)<|rS (LN rfl l9)<|rS (MV rfl)<|rS (BI rfl gl)<|RK hK14 ?_
 refine bj rfl (fun h23=>?_) (fun h23=>?_)
 ·replace h23:=DT h23
  refine bE<|ai<|aH<|KK hK12<|ar<|rS (MV rfl)<|rS (BI rfl (aZ ⟨by omega,by omega⟩))<|rS (AG rfl)<|aP ?_
  have hb15:(Value.int .i64 (((i+1):Nat):Int))=(Value.int .i64 (((i:Nat):Int)+1)):=by exact congrArg (Value.int .i64) (by omega)
  refine aO (hJ8 ⟨((i+1),fd,o),⟨by omega,by dsimp only; rw [du hy]; first|exact o8 hl4_1 (by omega)|exact nS hl4_1 h41 hs hf he hfe|exact oS hl4_1 h41 hs hf he hfe⟩⟩ _ _ _ rfl (by first|omega|(simp; omega)) (an.cons rfl<|an.cons rfl<|an.cons rfl<|an.cons rfl<|an.cons rfl<|an.cons rfl<|aQ rfl hb15<|an.nil _) (fun w hs=>St.br [0,1,2,3] rfl rfl hs))
 replace h23:=DF h23
 refine WK hK13<|aq fun _ hK16=>er cG [0,1,2,3,4,5,6,7,8,9,10,11,12,13,14,15,16] [17,18] [false,false,false,false,false,false,false,false,false,false,false,false,false,false,false,false,false] [false,false] [(aT b4 47 (ae.cells o)),(aT b2 47 (ae.cells (ae.mk 0 0))),(rd wA ws.length 3 (List.zipWith bM.cells ws wz)).ro,(cZ (aL bM.dX ws wz)).ro] [] (by kernel_rfl) (fun w hs=>St.br [0,1,2,3] rfl rfl hs) (fun w hs=>St.br [] rfl rfl hs) ?_
 have hyl:=hws.lens y (List.mem_of_getElem? hy)
 obtain ⟨s,hs⟩: ∃ s,y.cY[b]? =some s:=⟨y.cY[b]'(by omega),List.getElem?_eq_getElem _⟩
 refine eS rfl (MV rfl)<|eS rfl (MV rfl)<|eS rfl (IA i rfl (aI 2 rfl) wo (by decide) (by omega) (by omega))<|eS rfl (ou ((i*3)+1) rfl (aI 2 rfl) (Nat.mul_pos (by omega) (by decide)) Ej rfl)<|eS rfl (iX i 1 (Value.slice ya.2.1.1 y.fE.length ya.2.1.2) rfl nZ (aI 2 rfl) hym rfl (by decide) rfl)<|eS rfl (MV rfl) ?_
 obtain ⟨f,hf⟩: ∃ y_,y.fE[b]? =some y_:=⟨y.fE[b]'(by omega),List.getElem?_eq_getElem _⟩
 have hfm:(y.fE.map iC)[b]? =some (iC f):=by rw [List.getElem?_map,hf]; rfl
 refine eS rfl (IA b rfl (show jS _ (rd ya.2.1.1 y.fE.length 1 (y.fE.map iC)).holds from (eM 3 rfl (dc hy hya (by simp [bM.dX])))) dY (by decide) (by omega) (by omega))<|eS rfl (iX b 0 (Value.int .i64 f) rfl bu (show jS _ (rd ya.2.1.1 y.fE.length 1 (y.fE.map iC)).holds from (eM 3 rfl (dc hy hya (by simp [bM.dX])))) hfm rfl (by decide) rfl)<|eS rfl (MV rfl)<|eS rfl (MV rfl)<|eS rfl (IA i rfl (aI 2 rfl) wo (by decide) (by omega) (by omega))<|eS rfl (ou ((i*3)+2) rfl (aI 2 rfl) (Nat.mul_pos (by omega) (by decide)) EU rfl)<|eS rfl (iX i 2 (Value.slice ya.2.2.1 y.jC.length ya.2.2.2) rfl nZ (aI 2 rfl) hym rfl (by decide) rfl)<|eS rfl (MV rfl) ?_
 obtain ⟨e,he⟩: ∃ y_,y.jC[b]? =some y_:=⟨y.jC[b]'(by omega),List.getElem?_eq_getElem _⟩
 have hem:(y.jC.map iC)[b]? =some (iC e):=by rw [List.getElem?_map,he]; rfl
 refine eS rfl (IA b rfl (show jS _ (rd ya.2.2.1 y.jC.length 1 (y.jC.map iC)).holds from (eM 3 rfl (dc hy hya (by simp [bM.dX])))) dY (by decide) (by omega) (by omega))<|eS rfl (iX b 0 (Value.int .i64 e) rfl bu (show jS _ (rd ya.2.2.1 y.jC.length 1 (y.jC.map iC)).holds from (eM 3 rfl (dc hy hya (by simp [bM.dX])))) hem rfl (by decide) rfl)<|eS rfl (SX (bp (xs:=[(0,.tmp 31),(1,.tmp 39)]) (cs:=(ae.cells (ae.mk f e))) rfl rfl (bq fI rfl)) rfl rfl)<|fw rfl<|cL rfl fun T17 hT17=>AL rfl dF fun b18=>RN hT17 [1,2,3,4] rfl rfl<|cL rfl fun T19 hT19=>fO rfl cK rfl<|RN hT19 [1,2,3,4] rfl rfl ?_
 refine g_ rfl<|KK hK16<|aq fun _ hK20=>WS fun _ hK21=>?_
 have hfe:=hws.le y (List.mem_of_getElem? hy) b f e (by omega) hf he
 refine rS (MV rfl)<|RK hK21 ?_
 refine bj rfl (fun h41=>?_) (fun h41=>?_)
 rotate_left 1
 ·refine WK hK20 ?_
  refine ar<|rS (LW 0 rfl cp rfl rfl)<|nk rfl cK rfl<|rS (AG rfl)<|aP<|aK<|KK hK12<|ar<|rS (MV rfl)<|rS (BI rfl (aZ ⟨by omega,by omega⟩)) ?_
  refine rS (AG rfl)<|aP ?_
  have hb23:(Value.int .i64 (((i+1):Nat):Int))=(Value.int .i64 (((i:Nat):Int)+1)):=by exact congrArg (Value.int .i64) (by omega)
  refine aO (hJ8 ⟨((i+1),true,(ae.mk f e)),⟨by omega,by dsimp only; rw [du hy]; first|exact o8 hl4_1 (by omega)|exact nS hl4_1 h41 hs hf he hfe|exact oS hl4_1 h41 hs hf he hfe⟩⟩ _ _ _ rfl (by first|omega|(simp; omega)) (an.cons rfl<|an.cons rfl<|an.cons rfl<|an.cons rfl<|an.cons rfl<|an.cons rfl<|aQ rfl hb23<|an.nil _) (fun w hs=>St.br [1,2,3,4] rfl rfl hs))
 refine ar<|rS (FA 0 rfl bU rfl)<|rS (L1 (Value.int .i64 f) 0 rfl bu rfl rfl)<|rS (FA 0 rfl bU rfl)<|rS (L1 (Value.int .i64 o.Lo) 1 rfl bu rfl rfl)<|rS (MN rfl)<|rS (FA 1 rfl cd rfl)<|rS (L1 (Value.int .i64 e) 0 rfl bu rfl rfl)<|rS (FA 1 rfl cd rfl)<|rS (L1 (Value.int .i64 o.Hi) 1 rfl bu rfl rfl) ?_
 refine rS (MX rfl)<|rS (SX (bp (xs:=[(0,.tmp 46),(1,.tmp 51)]) (cs:=(ae.cells (ae.mk (min f o.Lo) (max e o.Hi)))) rfl rfl (bq fI rfl)) rfl rfl)<|fO rfl cK rfl<|RK hK20<|ar<|rS (LW 0 rfl cp rfl rfl)<|nk rfl cK rfl<|rS (AG rfl)<|aP<|aK ?_
 refine KK hK12<|ar<|rS (MV rfl)<|rS (BI rfl (aZ ⟨by omega,by omega⟩))<|rS (AG rfl)<|aP ?_
 have hb22:(Value.int .i64 (((i+1):Nat):Int))=(Value.int .i64 (((i:Nat):Int)+1)):=by exact congrArg (Value.int .i64) (by omega)
 refine aO (hJ8 ⟨((i+1),true,(ae.mk (min f o.Lo) (max e o.Hi))),⟨by omega,by dsimp only; rw [du hy]; first|exact o8 hl4_1 (by omega)|exact nS hl4_1 h41 hs hf he hfe|exact oS hl4_1 h41 hs hf he hfe⟩⟩ _ _ _ rfl (by first|omega|(simp; omega)) (an.cons rfl<|an.cons rfl<|an.cons rfl<|an.cons rfl<|an.cons rfl<|an.cons rfl<|aQ rfl hb22<|an.nil _) (fun w hs=>St.br [1,2,3,4] rfl rfl hs))
end
section
open Go.RowKit
set_option linter.unusedVariables false
set_option maxRecDepth 100000 in
set_option maxHeartbeats 400000 in
theorem wh (l:aU) (kA:Option Addr) (kC:Nat) (az:List RA) (cA:Option Addr) (cC:Nat) (bA:Option Addr) (bC:Nat) (r:bK) (sgA:Option Addr) (sgC:Nat) (hin:dC l az) (hsl:r.ab.length≤1000000):
 rp Tryz.prog 11 [(Value.agg (aF.cells (aF.mk (au.mk (av.mk kA l.al.length kC)) l.bw (av.mk cA l.ag.length cC) (av.mk bA l.aa.length bC) l.aD l.aV l.aJ)).toArray),(Value.agg (aS.cells (aS.mk r.Start r.cI (av.mk sgA r.ab.length sgC))).toArray)] [(rd kA l.al.length 9 (l.al.map ah.cells)),(rd cA l.ag.length 2 (List.zipWith aj.cells l.ag az)),(cZ (aL aj.dX l.ag az)),(rd bA l.aa.length 4 (l.aa.map aY.cells)),(rd sgA r.ab.length 2 (r.ab.map aw.cells))] (fun (x:(Option Addr)×Nat)=>(Value.tuple [(Value.slice x.1 ((bR l r).length) x.2),(Value.int .i64 (cr l r 0))].toArray)) (fun (x:(Option Addr)×Nat)=>True) (fun (x:(Option Addr)×Nat)=>[(own x.1 x.2 3 1 ((bR l r).map iC))]):=by
 have htk:=hin.nm
 have hck:=hin.nv
 have has:=hin.m_
 have hbm:=hin.nd
 refine gp H3 Tryz.func11 rfl rfl fun w0 Q hQ hN=>?_
 try dsimp only
 refine WS fun _ hK1=>fy rfl fun b2=>fy rfl fun b3=>rS (AG rfl)<|rS (AG rfl)<|RK hK1<|WS fun _ hK4=>rS (LW 1 rfl eO rfl rfl)<|rS (LW 0 rfl iw rfl rfl)<|cX (pT l kA kC az cA cC bA bC r sgA sgC hin hsl) (ax 2 rfl rfl<|ax 3 rfl rfl<|ax 4 rfl rfl<|ax 5 rfl rfl<|ax 6 rfl rfl<|ay) rfl fun y5 hy6=>?_
 obtain ⟨ok11,ec7,a8,c9,oz10⟩:=y5
 cases ok11
 ·obtain ⟨hec,he⟩:=hy6.2 rfl
  try dsimp only at hec he
  subst hec
  try dsimp only [cond_true,cond_false,List.cons_append,List.nil_append]
  refine rS (MV rfl)<|rS (EX rfl)<|rS (EX rfl)<|rS (AG rfl)<|rS (AG rfl)<|RK hK4<|aq fun _ hK12=>WS fun _ hK13=>rS (MV rfl)<|rS (BI rfl dB) ?_
  refine RK hK13 ?_
  refine bj rfl (fun h19=>?_) (fun h19=>?_)
  rotate_left 1
  ·replace h19:=XF h19
   exact absurd h19 he
  replace h19:=XT h19
  refine WS fun _ hK14=>ia 3 1 ?_
  rw [show (own none 0 3 1 ([]:List (List Value)))=own none 0 3 1 ((bR l r).map iC) from by rw [iS he]; rfl]
  refine rS (MV rfl)<|rS (AG rfl)<|rS (AG rfl)<|RK hK14<|aE ?_
  refine hQ _ _ _ (bB (vs:=[(Value.slice none 0 0),(Value.int .i64 (cr l r 0))]) ⟨rfl,rfl,trivial⟩ fun w hs=>fB (none,0) [0] ?_ ?_ rfl rfl rfl hs)
  ·first|rfl|(rw [he]; rfl)|(rw [iS he]; rfl)
  ·trivial
 obtain ⟨he,hoz⟩:=hy6.1 rfl
 try dsimp only [cond_true,cond_false,List.cons_append,List.nil_append]
 try dsimp only at he hoz
 obtain ⟨hle,hro,_,hnn⟩:=dW he
 obtain ⟨htr,hok⟩:=di hle
 have hhd:=hok.head
 unfold cS at hhd
 have hws:=rW hle hro
 have hwn:=hws.num
 have hrl:=hro.len
 have hrt:=hro.time
 refine rS (MV rfl)<|rS (EX rfl)<|rS (EX rfl)<|rS (AG rfl)<|rS (AG rfl)<|RK hK4<|aq fun _ hK15=>WS fun _ hK16=>rS (MV rfl)<|rS (SX (fK (r:= .bool false) rfl rfl rfl dB) rfl rfl) ?_
 refine RK hK16<|bV rfl<|WK hK15<|WS fun _ hK17=>rS (AG rfl)<|RK hK17<|aq fun _ hK18=>WS fun _ hK19=>rS (AG rfl)<|RK hK19 ?_
 refine aG<|fU 3 1 ?_
 have hinit:(0≤l.aa.length+1):=by exact Nat.zero_le _
 refine cq (ι:={z:Nat×(Option Addr)×Nat // (z.1≤l.aa.length+1)}) (fun z=>[(2,(Value.pointer (some ⟨b2,0,none⟩))),(3,(Value.pointer (some ⟨b3,0,none⟩))),(6,(Value.slice a8 ((cu l r).length) c9)),(8,(Value.slice z.1.2.1 ((eJ (aW l r) z.1.1).length) z.1.2.2)),(9,(Value.int .i64 ((z.1.1:Nat):Int)))]) (fun z=>[(own z.1.2.1 z.1.2.2 3 1 ((eJ (aW l r) z.1.1).map iC)),(own a8 c9 85 3 (List.zipWith bM.cells (cu l r) oz10)),(a5 (aL bM.owns (cu l r) oz10)),(aT b3 31 (aS.cells (aS.mk r.Start r.cI (av.mk sgA r.ab.length sgC)))),(aT b2 28 (aF.cells (aF.mk (au.mk (av.mk kA l.al.length kC)) l.bw (av.mk cA l.ag.length cC) (av.mk bA l.aa.length bC) l.aD l.aV l.aJ))),(rd kA l.al.length 9 (l.al.map ah.cells)).ro,(rd cA l.ag.length 2 (List.zipWith aj.cells l.ag az)).ro,(cZ (aL aj.dX l.ag az)).ro,(rd bA l.aa.length 4 (l.aa.map aY.cells)).ro,(rd sgA r.ab.length 2 (r.ab.map aw.cells)).ro]) (fun z=>l.aa.length+1-z.1.1) ⟨(0,none,0),hinit⟩ (an.cons rfl<|an.cons rfl<|an.cons rfl<|an.cons rfl<|an.cons rfl<|an.nil _) (fun w hs=>St.br [0,1,2,3,4,5,6,7,8,9] rfl rfl hs) ?_
 clear hinit
 rintro ⟨⟨n,a,c⟩,hl6_0⟩ J20 hJ20
 try dsimp only at hl6_0
 try dsimp only
 refine aq fun _ hK21=>WS fun _ hK22=>rS (MV rfl)<|rS (FA 3 rfl dy rfl)<|rS (L1 (Value.slice bA l.aa.length bC) 4 rfl g3 rfl rfl)<|rS (LN rfl jL)<|rS (BI rfl gl)<|RK hK22 ?_
 refine bj rfl (fun h23=>?_) (fun h23=>?_)
 rotate_left 1
 ·replace h23:=DF h23
  refine bE<|ai<|ai<|aH<|KK hK18<|WS fun _ hK44=>rS (MV rfl) ?_
  rw [show (eJ (aW l r) n)=(bR l r) from by (rw [fT he]; unfold eb; rw [im,show n=l.aa.length+1 by omega])]
  refine rS (AG rfl)<|rS (AG rfl)<|RK hK44<|aE ?_
  refine hQ _ _ _ (bB (vs:=[(Value.slice a ((bR l r).length) c),(Value.int .i64 0)]) ⟨rfl,rfl,trivial⟩ fun w hs=>fB (a,c) [0] ?_ ?_ rfl rfl rfl hs)
  ·first|rfl|(rw [he]; rfl)|(rw [iS he]; rfl)
  ·trivial
 replace h23:=DT h23
 refine WK hK21<|aq fun _ hK24=>aG<|WS fun _ hK25=>rS (AG rfl)<|RK hK25<|aq fun _ hK26=>WS fun _ hK27=>rS (AG rfl)<|RK hK27 ?_
 refine aG ?_
 have hinit:(0≤(cu l r).length):=by exact Nat.zero_le _
 have hb28:(Value.bool (EJ ((cu l r).take 0) n))=(Value.bool false):=by rfl
 refine cq (ι:={z:Nat // (z≤(cu l r).length)}) (fun z=>[(2,(Value.pointer (some ⟨b2,0,none⟩))),(3,(Value.pointer (some ⟨b3,0,none⟩))),(6,(Value.slice a8 ((cu l r).length) c9)),(8,(Value.slice a ((eJ (aW l r) n).length) c)),(9,(Value.int .i64 ((n:Nat):Int))),(10,(Value.bool (EJ ((cu l r).take z.1) n))),(11,(Value.int .i64 ((z.1:Nat):Int)))]) (fun z=>[(own a c 3 1 ((eJ (aW l r) n).map iC)),(own a8 c9 85 3 (List.zipWith bM.cells (cu l r) oz10)),(a5 (aL bM.owns (cu l r) oz10)),(aT b3 31 (aS.cells (aS.mk r.Start r.cI (av.mk sgA r.ab.length sgC)))),(aT b2 28 (aF.cells (aF.mk (au.mk (av.mk kA l.al.length kC)) l.bw (av.mk cA l.ag.length cC) (av.mk bA l.aa.length bC) l.aD l.aV l.aJ))),(rd kA l.al.length 9 (l.al.map ah.cells)).ro,(rd cA l.ag.length 2 (List.zipWith aj.cells l.ag az)).ro,(cZ (aL aj.dX l.ag az)).ro,(rd bA l.aa.length 4 (l.aa.map aY.cells)).ro,(rd sgA r.ab.length 2 (r.ab.map aw.cells)).ro]) (fun z=>(cu l r).length-z.1) ⟨0,hinit⟩ (an.cons rfl<|an.cons rfl<|an.cons rfl<|an.cons rfl<|an.cons rfl<|aQ rfl hb28<|an.cons rfl<|an.nil _) (fun w hs=>St.br [0,1,2,3,4,5,6,7,8,9] rfl rfl hs) ?_
 clear hinit
 rintro ⟨i,hl10_0⟩ J29 hJ29
 try dsimp only
 refine aq fun _ hK30=>WS fun _ hK31=>rS (MV rfl)<|rS (MV rfl)<|rS (LN rfl Aj)<|rS (BI rfl cv)<|RK hK31 ?_
 refine bj rfl (fun h32=>?_) (fun h32=>?_)
 rotate_left 1
 ·replace h32:=DF h32
  refine bE<|ai<|ai<|aH<|KK hK26<|WS fun _ hK38=>rS (MV rfl)<|RK hK38 ?_
  refine bj rfl (fun hfl=>?_) (fun hfl=>?_)
  rotate_left 1
  ·refine cM ?_
   refine aK<|KK hK24<|ar<|rS (MV rfl)<|rS (BI rfl (aZ ⟨by omega,by omega⟩))<|rS (AG rfl)<|aP ?_
   rw [show (eJ (aW l r) n)=(eJ (aW l r) (n+1)) from (uu (by have q:=hfl; rw [List.take_of_length_le (by omega)] at q; rw [← pM hle hro (by omega)]; exact q)).symm]
   have hb43:(Value.int .i64 (((n+1):Nat):Int))=(Value.int .i64 (((n:Nat):Int)+1)):=by exact congrArg (Value.int .i64) (by omega)
   refine aO (hJ20 ⟨((n+1),a,c),(by first|omega|(simp only []; omega))⟩ _ _ _ rfl (by first|omega|(simp; omega)) (an.cons rfl<|an.cons rfl<|an.cons rfl<|an.cons rfl<|aQ rfl hb43<|an.nil _) (fun w hs=>St.br [0,1,2,3,4,5,6,7,8,9] rfl rfl hs))
  refine ar<|rS (MV rfl) ?_
  have hfv:gN (aW l r) (fwd (aW l r) n)=true:=by have q:=hfl; rw [List.take_of_length_le (by omega)] at q; rw [← pM hle hro (by omega)]; exact q
  refine rS (MV rfl)<|fp (xs:=[.tmp 47]) (cs:=[(Value.int .i64 ((n:Nat):Int))]) rfl dY lK rfl rfl rfl rfl (by simp [Value.cells]) rfl rfl fun b39=>dR (es2:=(List.map iC (eJ (aW l r) (n+1)))) (m':=(eJ (aW l r) (n+1)).length) 1 rfl rfl rfl o9 rfl rfl (by simp) (bf (es:=List.map iC [((n:Nat):Int)]) 0 rfl rfl (by simp [bY]) rfl) (jF _) (by have:=lz (w:=aW l r) (k:=n); omega) (by have:=lz (w:=aW l r) (k:=n); simp only [maxLen]; omega) (by rw [rP hfv]; simp) (by simp) rfl fun a40 c41=>?_
  try dsimp only
  refine rS (AG rfl)<|aP<|aK<|KK hK24<|ar<|rS (MV rfl)<|rS (BI rfl (aZ ⟨by omega,by omega⟩))<|rS (AG rfl)<|aP ?_
  have hb42:(Value.int .i64 (((n+1):Nat):Int))=(Value.int .i64 (((n:Nat):Int)+1)):=by exact congrArg (Value.int .i64) (by omega)
  refine aO (hJ20 ⟨((n+1),a40,c41),(by first|omega|(simp only []; omega))⟩ _ _ _ rfl (by first|omega|(simp; omega)) (an.cons rfl<|an.cons rfl<|an.cons rfl<|an.cons rfl<|aQ rfl hb42<|an.nil _) (fun w hs=>St.br [1,2,3,4,5,6,7,8,9,10] rfl rfl hs))
 replace h32:=DT h32
 refine WK hK30<|aq fun _ hK33=>aG<|ar<|rS (MV rfl) ?_
 obtain ⟨y,hy⟩: ∃ y_,(cu l r)[i]? =some y_:=⟨(cu l r)[i]'(by omega),List.getElem?_eq_getElem _⟩
 refine rS (MV rfl) ?_
 refine bH (t:=35) rfl (fun hg35=>?_) (fun hg35=>?_)
 ·refine rS (OX rfl) ?_
  refine rS (OX rfl)<|rS (OX rfl)<|rS (OX rfl)<|rS (OX rfl)<|rS (OX rfl)<|rS (OX rfl)<|rS (OX rfl)<|rS (PK rfl)<|rS (AG rfl)<|aP ?_
  refine aK<|KK hK33<|ar<|rS (MV rfl)<|rS (BI rfl (aZ ⟨by omega,by omega⟩))<|rS (AG rfl)<|aP ?_
  have hb34:(Value.bool (EJ ((cu l r).take (i+1)) n))=(Value.bool true):=by first|(rw [du hy,pd,hg35,Bool.true_or]; done)|(rw [du hy,pd,hg35,Bool.false_or]; exact congrArg Value.bool (decide_eq_decide.2 (by omega)))
  have hb35:(Value.int .i64 (((i+1):Nat):Int))=(Value.int .i64 (((i:Nat):Int)+1)):=by exact congrArg (Value.int .i64) (by omega)
  refine aO (hJ29 ⟨(i+1),(by first|omega|(simp only []; omega))⟩ _ _ _ rfl (by first|omega|(simp; omega)) (an.cons rfl<|an.cons rfl<|an.cons rfl<|an.cons rfl<|an.cons rfl<|aQ rfl hb34<|aQ rfl hb35<|an.nil _) (fun w hs=>St.br [0,1,2,3,4,5,6,7,8,9] rfl rfl hs))
 refine rS (MV rfl)<|rS (MV rfl) ?_
 obtain ⟨y,hy⟩: ∃ y_,(cu l r)[i]? =some y_:=⟨(cu l r)[i]'(by omega),List.getElem?_eq_getElem _⟩
 obtain ⟨ya,hya⟩: ∃ y_,oz10[i]? =some y_:=⟨oz10[i]'(by omega),List.getElem?_eq_getElem _⟩
 have hym:(List.zipWith bM.cells (cu l r) oz10)[i]? =some (bM.cells y ya):=gM hy hya
 refine rS (IA i rfl (aC (n:=(cu l r).length) 1 rfl (fj hoz)) wo (by decide) (by omega) (by omega))<|rS (ou (i*3) rfl (aC (n:=(cu l r).length) 1 rfl (fj hoz)) (Nat.mul_pos (by omega) (by decide)) sr rfl)<|rS (iX i 0 (Value.slice ya.1.1 y.cY.length ya.1.2) rfl nZ (aC (n:=(cu l r).length) 1 rfl (fj hoz)) hym rfl (by decide) rfl)<|rS (LN rfl l9)<|rS (MV rfl)<|rS (BI rfl g0)<|rS (PK rfl)<|rS (AG rfl)<|aP<|aK ?_
 refine KK hK33<|ar<|rS (MV rfl)<|rS (BI rfl (aZ ⟨by omega,by omega⟩))<|rS (AG rfl)<|aP ?_
 have hb36:(Value.bool (EJ ((cu l r).take (i+1)) n))=(Value.bool (decide (((y.cY.length:Nat):Int)=((n:Nat):Int)))):=by first|(rw [du hy,pd,hg35,Bool.true_or]; done)|(rw [du hy,pd,hg35,Bool.false_or]; exact congrArg Value.bool (decide_eq_decide.2 (by omega)))
 have hb37:(Value.int .i64 (((i+1):Nat):Int))=(Value.int .i64 (((i:Nat):Int)+1)):=by exact congrArg (Value.int .i64) (by omega)
 refine aO (hJ29 ⟨(i+1),(by first|omega|(simp only []; omega))⟩ _ _ _ rfl (by first|omega|(simp; omega)) (an.cons rfl<|an.cons rfl<|an.cons rfl<|an.cons rfl<|an.cons rfl<|aQ rfl hb36<|aQ rfl hb37<|an.nil _) (fun w hs=>St.br [0,1,2,3,4,5,6,7,8,9] rfl rfl hs))
set_option maxRecDepth 100000 in
set_option maxHeartbeats 400000 in
theorem E2 (la:List Int) (laA:Option Addr) (laC:Nat) (n:Int) (hlen:la.length≤1000000):
 eH Tryz.prog 46 [(Value.slice laA la.length laC),(Value.int .i64 n)] [(rd laA la.length 1 (la.map iC))] (Value.bool (decide (n∈la))):=by
 refine bL HO Tryz.func46 rfl rfl fun w0 Q hQ hN=>?_
 try dsimp only
 refine WS fun _ hK1=>rS (AG rfl)<|RK hK1<|aq fun _ hK2=>WS fun _ hK3=>rS (AG rfl)<|RK hK3<|aG ?_
 have hinit:(0≤la.length)∧(∀ (j:Nat) y,j<0→la[j]? =some y→y≠n):=by exact ⟨Nat.zero_le _,fun j y hj=>absurd hj (Nat.not_lt_zero _)⟩
 refine cq (ι:={z:Nat // (z≤la.length)∧(∀ (j:Nat) y,j<z→la[j]? =some y→y≠n)}) (fun z=>[(0,(Value.slice laA la.length laC)),(1,(Value.int .i64 n)),(5,(Value.int .i64 ((z.1:Nat):Int)))]) (fun z=>[(rd laA la.length 1 (la.map iC)).ro]) (fun z=>la.length-z.1) ⟨0,hinit⟩ (an.cons rfl<|an.cons rfl<|an.cons rfl<|an.nil _) (fun w hs=>St.br [0] rfl rfl hs) ?_
 clear hinit
 rintro ⟨i,⟨hl2_0,hl2_1⟩⟩ J4 hJ4
 try dsimp only
 refine aq fun _ hK5=>WS fun _ hK6=>rS (MV rfl)<|rS (MV rfl)<|rS (LN rfl l9)<|rS (BI rfl cv)<|RK hK6 ?_
 refine bj rfl (fun h7=>?_) (fun h7=>?_)
 rotate_left 1
 ·replace h7:=DF h7
  refine bE<|ai<|ai<|aH<|KK hK2<|WS fun _ hK12=>rS (AG rfl)<|RK hK12<|aE<|Q1 hQ rfl rfl rfl ?_
  first|exact congrArg Value.bool (decide_eq_true (by rw [← h17]; exact List.mem_of_getElem? hx)).symm|exact congrArg Value.bool (decide_eq_false fun q=>dL (P:=fun y=>y≠n) (by omega) hl2_1 n q rfl).symm
 replace h7:=DT h7
 refine WK hK5<|aq fun _ hK8=>aG<|WS fun _ hK9=>rS (MV rfl)<|rS (MV rfl) ?_
 obtain ⟨x,hx⟩: ∃ y_,la[i]? =some y_:=⟨la[i]'(by omega),List.getElem?_eq_getElem _⟩
 have hxm:(la.map iC)[i]? =some (iC x):=by rw [List.getElem?_map,hx]; rfl
 refine rS (IA i rfl (aI 0 rfl) dY (by decide) (by omega) (by omega))<|rS (iX i 0 (Value.int .i64 x) rfl bu (aI 0 rfl) hxm rfl (by decide) rfl)<|rS (MV rfl)<|rS (BI rfl g0)<|RK hK9 ?_
 refine bj rfl (fun h17=>?_) (fun h17=>?_)
 ·replace h17:=DT h17
  refine WS fun _ hK10=>rS (AG rfl)<|RK hK10<|aE<|Q1 hQ rfl rfl rfl ?_
  first|exact congrArg Value.bool (decide_eq_true (by rw [← h17]; exact List.mem_of_getElem? hx)).symm|exact congrArg Value.bool (decide_eq_false fun q=>dL (P:=fun y=>y≠n) (by omega) hl2_1 n q rfl).symm
 replace h17:=DF h17
 refine cM<|aK<|KK hK8<|ar<|rS (MV rfl)<|rS (BI rfl (aZ ⟨by omega,by omega⟩))<|rS (AG rfl)<|aP ?_
 have hb11:(Value.int .i64 (((i+1):Nat):Int))=(Value.int .i64 (((i:Nat):Int)+1)):=by exact congrArg (Value.int .i64) (by omega)
 refine aO (hJ4 ⟨(i+1),⟨by omega,jw hl2_1 hx h17⟩⟩ _ _ _ rfl (by first|omega|(simp; omega)) (an.cons rfl<|an.cons rfl<|aQ rfl hb11<|an.nil _) (fun w hs=>St.br [0] rfl rfl hs))
set_option maxRecDepth 100000 in
set_option maxHeartbeats 400000 in
theorem Al (l:aU) (kA:Option Addr) (kC:Nat) (az:List RA) (cA:Option Addr) (cC:Nat) (bA:Option Addr) (bC:Nat) (r:bK) (sgA:Option Addr) (sgC:Nat) (hin:dC l az) (hsl:r.ab.length≤1000000):
 rp Tryz.prog 20 [(Value.agg (aF.cells (aF.mk (au.mk (av.mk kA l.al.length kC)) l.bw (av.mk cA l.ag.length cC) (av.mk bA l.aa.length bC) l.aD l.aV l.aJ)).toArray),(Value.agg (aS.cells (aS.mk r.Start r.cI (av.mk sgA r.ab.length sgC))).toArray)] [(rd kA l.al.length 9 (l.al.map ah.cells)),(rd cA l.ag.length 2 (List.zipWith aj.cells l.ag az)),(cZ (aL aj.dX l.ag az)),(rd bA l.aa.length 4 (l.aa.map aY.cells)),(rd sgA r.ab.length 2 (r.ab.map aw.cells))] (fun (x:(Option Addr)×Nat)=>(Value.tuple [(Value.slice x.1 ((ik l r).length) x.2),(Value.int .i64 (cr l r 0))].toArray)) (fun (x:(Option Addr)×Nat)=>True) (fun (x:(Option Addr)×Nat)=>[(own x.1 x.2 3 1 ((ik l r).map iC))]):=by
 have htk:=hin.nm
 have hck:=hin.nv
 have has:=hin.m_
 have hbm:=hin.nd
 refine gp Jn Tryz.func20 rfl rfl fun w0 Q hQ hN=>?_
 try dsimp only
 refine WS fun _ hK1=>fy rfl fun b2=>fy rfl fun b3=>rS (AG rfl)<|rS (AG rfl)<|RK hK1<|WS fun _ hK4=>rS (LW 1 rfl eO rfl rfl)<|rS (LW 0 rfl iw rfl rfl)<|cX (pT l kA kC az cA cC bA bC r sgA sgC hin hsl) (ax 2 rfl rfl<|ax 3 rfl rfl<|ax 4 rfl rfl<|ax 5 rfl rfl<|ax 6 rfl rfl<|ay) rfl fun y5 hy6=>?_
 obtain ⟨ok11,ec7,a8,c9,oz10⟩:=y5
 cases ok11
 ·obtain ⟨hec,he⟩:=hy6.2 rfl
  try dsimp only at hec he
  subst hec
  try dsimp only [cond_true,cond_false,List.cons_append,List.nil_append]
  refine rS (MV rfl)<|rS (EX rfl)<|rS (EX rfl)<|rS (AG rfl)<|rS (AG rfl)<|RK hK4<|aq fun _ hK12=>WS fun _ hK13=>rS (MV rfl)<|rS (BI rfl dB) ?_
  refine RK hK13 ?_
  refine bj rfl (fun h19=>?_) (fun h19=>?_)
  rotate_left 1
  ·replace h19:=XF h19
   exact absurd h19 he
  replace h19:=XT h19
  refine WS fun _ hK14=>ia 3 1 ?_
  rw [show (own none 0 3 1 ([]:List (List Value)))=own none 0 3 1 ((ik l r).map iC) from by rw [jY he]; rfl]
  refine rS (MV rfl)<|rS (AG rfl)<|rS (AG rfl)<|RK hK14<|aE ?_
  refine hQ _ _ _ (bB (vs:=[(Value.slice none 0 0),(Value.int .i64 (cr l r 0))]) ⟨rfl,rfl,trivial⟩ fun w hs=>fB (none,0) [0] ?_ ?_ rfl rfl rfl hs)
  ·first|rfl|(rw [he]; rfl)|(rw [jY he]; rfl)
  ·trivial
 obtain ⟨he,hoz⟩:=hy6.1 rfl
 try dsimp only [cond_true,cond_false,List.cons_append,List.nil_append]
 try dsimp only at he hoz
 obtain ⟨hle,hro,_,hnn⟩:=dW he
 obtain ⟨htr,hok⟩:=di hle
 have hhd:=hok.head
 unfold cS at hhd
 have hws:=rW hle hro
 have hwn:=hws.num
 have hrl:=hro.len
 have hrt:=hro.time
 refine rS (MV rfl)<|rS (EX rfl)<|rS (EX rfl)<|rS (AG rfl)<|rS (AG rfl)<|RK hK4<|aq fun _ hK15=>WS fun _ hK16=>rS (MV rfl)<|rS (SX (fK (r:= .bool false) rfl rfl rfl dB) rfl rfl) ?_
 refine RK hK16<|bV rfl<|WK hK15<|WS fun _ hK17=>rS (AG rfl)<|RK hK17<|aq fun _ hK18=>WS fun _ hK19=>rS (AG rfl)<|RK hK19 ?_
 refine aG<|fU 3 1 ?_
 have hinit:(0≤r.ab.length):=by exact Nat.zero_le _
 refine cq (ι:={z:Nat×(Option Addr)×Nat // (z.1≤r.ab.length)}) (fun z=>[(2,(Value.pointer (some ⟨b2,0,none⟩))),(3,(Value.pointer (some ⟨b3,0,none⟩))),(6,(Value.slice a8 ((cu l r).length) c9)),(8,(Value.slice z.1.2.1 ((fH (cu l r) z.1.1).length) z.1.2.2)),(9,(Value.int .i64 ((z.1.1:Nat):Int)))]) (fun z=>[(own z.1.2.1 z.1.2.2 3 1 ((fH (cu l r) z.1.1).map iC)),(own a8 c9 85 3 (List.zipWith bM.cells (cu l r) oz10)),(a5 (aL bM.owns (cu l r) oz10)),(aT b3 31 (aS.cells (aS.mk r.Start r.cI (av.mk sgA r.ab.length sgC)))),(aT b2 28 (aF.cells (aF.mk (au.mk (av.mk kA l.al.length kC)) l.bw (av.mk cA l.ag.length cC) (av.mk bA l.aa.length bC) l.aD l.aV l.aJ))),(rd kA l.al.length 9 (l.al.map ah.cells)).ro,(rd cA l.ag.length 2 (List.zipWith aj.cells l.ag az)).ro,(cZ (aL aj.dX l.ag az)).ro,(rd bA l.aa.length 4 (l.aa.map aY.cells)).ro,(rd sgA r.ab.length 2 (r.ab.map aw.cells)).ro]) (fun z=>r.ab.length-z.1.1) ⟨(0,none,0),hinit⟩ (an.cons rfl<|an.cons rfl<|an.cons rfl<|an.cons rfl<|an.cons rfl<|an.nil _) (fun w hs=>St.br [0,1,2,3,4,5,6,7,8,9] rfl rfl hs) ?_
 clear hinit
 rintro ⟨⟨n,a,c⟩,hl6_0⟩ J20 hJ20
 try dsimp only at hl6_0
 try dsimp only
 refine aq fun _ hK21=>WS fun _ hK22=>rS (MV rfl)<|rS (FA 2 rfl gd rfl)<|rS (L1 (Value.slice sgA r.ab.length sgC) 3 rfl lh rfl rfl)<|rS (LN rfl nB)<|rS (BI rfl cv)<|RK hK22 ?_
 refine bj rfl (fun h23=>?_) (fun h23=>?_)
 rotate_left 1
 ·replace h23:=DF h23
  refine bE<|ai<|ai<|aH<|KK hK18<|WS fun _ hK44=>rS (MV rfl) ?_
  rw [show (fH (cu l r) n)=(ik l r) from by (rw [ql he,← zT hle hro,show n=r.ab.length by omega])]
  refine rS (AG rfl)<|rS (AG rfl)<|RK hK44<|aE ?_
  refine hQ _ _ _ (bB (vs:=[(Value.slice a ((ik l r).length) c),(Value.int .i64 0)]) ⟨rfl,rfl,trivial⟩ fun w hs=>fB (a,c) [0] ?_ ?_ rfl rfl rfl hs)
  ·first|rfl|(rw [he]; rfl)|(rw [jY he]; rfl)
  ·trivial
 replace h23:=DT h23
 refine WK hK21<|aq fun _ hK24=>aG<|WS fun _ hK25=>rS (AG rfl)<|RK hK25<|aq fun _ hK26=>WS fun _ hK27=>rS (AG rfl)<|RK hK27 ?_
 refine aG ?_
 have hinit:(0≤(cu l r).length):=by exact Nat.zero_le _
 have hb28:(Value.bool (kG ((cu l r).take 0) ((n:Nat):Int)))=(Value.bool true):=by rfl
 refine cq (ι:={z:Nat // (z≤(cu l r).length)}) (fun z=>[(2,(Value.pointer (some ⟨b2,0,none⟩))),(3,(Value.pointer (some ⟨b3,0,none⟩))),(6,(Value.slice a8 ((cu l r).length) c9)),(8,(Value.slice a ((fH (cu l r) n).length) c)),(9,(Value.int .i64 ((n:Nat):Int))),(10,(Value.bool (kG ((cu l r).take z.1) ((n:Nat):Int)))),(11,(Value.int .i64 ((z.1:Nat):Int)))]) (fun z=>[(own a c 3 1 ((fH (cu l r) n).map iC)),(own a8 c9 85 3 (List.zipWith bM.cells (cu l r) oz10)),(a5 (aL bM.owns (cu l r) oz10)),(aT b3 31 (aS.cells (aS.mk r.Start r.cI (av.mk sgA r.ab.length sgC)))),(aT b2 28 (aF.cells (aF.mk (au.mk (av.mk kA l.al.length kC)) l.bw (av.mk cA l.ag.length cC) (av.mk bA l.aa.length bC) l.aD l.aV l.aJ))),(rd kA l.al.length 9 (l.al.map ah.cells)).ro,(rd cA l.ag.length 2 (List.zipWith aj.cells l.ag az)).ro,(cZ (aL aj.dX l.ag az)).ro,(rd bA l.aa.length 4 (l.aa.map aY.cells)).ro,(rd sgA r.ab.length 2 (r.ab.map aw.cells)).ro]) (fun z=>(cu l r).length-z.1) ⟨0,hinit⟩ (an.cons rfl<|an.cons rfl<|an.cons rfl<|an.cons rfl<|an.cons rfl<|aQ rfl hb28<|an.cons rfl<|an.nil _) (fun w hs=>St.br [0,1,2,3,4,5,6,7,8,9] rfl rfl hs) ?_
 clear hinit
 rintro ⟨i,hl10_0⟩ J29 hJ29
 try dsimp only
 refine aq fun _ hK30=>WS fun _ hK31=>rS (MV rfl)<|rS (MV rfl)<|rS (LN rfl Aj)<|rS (BI rfl cv)<|RK hK31 ?_
 refine bj rfl (fun h32=>?_) (fun h32=>?_)
 rotate_left 1
 ·replace h32:=DF h32
  refine bE<|ai<|ai<|aH<|KK hK26<|WS fun _ hK38=>rS (MV rfl)<|RK hK38 ?_
  refine bj rfl (fun hfl=>?_) (fun hfl=>?_)
  rotate_left 1
  ·refine cM ?_
   refine aK<|KK hK24<|ar<|rS (MV rfl)<|rS (BI rfl (aZ ⟨by omega,by omega⟩))<|rS (AG rfl)<|aP ?_
   rw [show (fH (cu l r) n)=(fH (cu l r) (n+1)) from (wR (by have q:=hfl; rwa [List.take_of_length_le (by omega)] at q)).symm]
   have hb43:(Value.int .i64 (((n+1):Nat):Int))=(Value.int .i64 (((n:Nat):Int)+1)):=by exact congrArg (Value.int .i64) (by omega)
   refine aO (hJ20 ⟨((n+1),a,c),(by first|omega|(simp only []; omega))⟩ _ _ _ rfl (by first|omega|(simp; omega)) (an.cons rfl<|an.cons rfl<|an.cons rfl<|an.cons rfl<|aQ rfl hb43<|an.nil _) (fun w hs=>St.br [0,1,2,3,4,5,6,7,8,9] rfl rfl hs))
  refine ar<|rS (MV rfl) ?_
  have hfv:(kG (cu l r) ((n:Nat):Int))=true:=by have q:=hfl; rwa [List.take_of_length_le (by omega)] at q
  refine rS (MV rfl)<|fp (xs:=[.tmp 47]) (cs:=[(Value.int .i64 ((n:Nat):Int))]) rfl dY lK rfl rfl rfl rfl (by simp [Value.cells]) rfl rfl fun b39=>dR (es2:=(List.map iC (fH (cu l r) (n+1)))) (m':=(fH (cu l r) (n+1)).length) 1 rfl rfl rfl o9 rfl rfl (by simp) (bf (es:=List.map iC [((n:Nat):Int)]) 0 rfl rfl (by simp [bY]) rfl) (jF _) (by have:=qS (ws:=(cu l r)) (n:=n); omega) (by have:=qS (ws:=(cu l r)) (n:=n); simp only [maxLen]; omega) (by rw [vi hfv]; simp) (by simp) rfl fun a40 c41=>?_
  try dsimp only
  refine rS (AG rfl)<|aP<|aK<|KK hK24<|ar<|rS (MV rfl)<|rS (BI rfl (aZ ⟨by omega,by omega⟩))<|rS (AG rfl)<|aP ?_
  have hb42:(Value.int .i64 (((n+1):Nat):Int))=(Value.int .i64 (((n:Nat):Int)+1)):=by exact congrArg (Value.int .i64) (by omega)
  refine aO (hJ20 ⟨((n+1),a40,c41),(by first|omega|(simp only []; omega))⟩ _ _ _ rfl (by first|omega|(simp; omega)) (an.cons rfl<|an.cons rfl<|an.cons rfl<|an.cons rfl<|aQ rfl hb42<|an.nil _) (fun w hs=>St.br [1,2,3,4,5,6,7,8,9,10] rfl rfl hs))
 replace h32:=DT h32
 refine WK hK30<|aq fun _ hK33=>aG<|ar<|rS (MV rfl) ?_
 obtain ⟨y,hy⟩: ∃ y_,(cu l r)[i]? =some y_:=⟨(cu l r)[i]'(by omega),List.getElem?_eq_getElem _⟩
 refine rS (MV rfl) ?_
 refine bH (t:=35) rfl (fun hg35=>?_) (fun hg35=>?_)
 rotate_left 1
 ·refine rS (OX rfl) ?_
  refine rS (OX rfl)<|rS (OX rfl)<|rS (OX rfl)<|rS (OX rfl)<|rS (OX rfl)<|rS (OX rfl)<|rS (OX rfl)<|rS (PK rfl)<|rS (AG rfl)<|aP ?_
  refine aK<|KK hK33<|ar<|rS (MV rfl)<|rS (BI rfl (aZ ⟨by omega,by omega⟩))<|rS (AG rfl)<|aP ?_
  have hb36:(Value.bool (kG ((cu l r).take (i+1)) ((n:Nat):Int)))=(Value.bool false):=by first|(rw [du hy,lN,hg35,Bool.true_and]; done)|(rw [du hy,lN,hg35,Bool.false_and]; done)
  have hb37:(Value.int .i64 (((i+1):Nat):Int))=(Value.int .i64 (((i:Nat):Int)+1)):=by exact congrArg (Value.int .i64) (by omega)
  refine aO (hJ29 ⟨(i+1),(by first|omega|(simp only []; omega))⟩ _ _ _ rfl (by first|omega|(simp; omega)) (an.cons rfl<|an.cons rfl<|an.cons rfl<|an.cons rfl<|an.cons rfl<|aQ rfl hb36<|aQ rfl hb37<|an.nil _) (fun w hs=>St.br [0,1,2,3,4,5,6,7,8,9] rfl rfl hs))
 refine rS (MV rfl)<|rS (MV rfl) ?_
 obtain ⟨y,hy⟩: ∃ y_,(cu l r)[i]? =some y_:=⟨(cu l r)[i]'(by omega),List.getElem?_eq_getElem _⟩
 obtain ⟨ya,hya⟩: ∃ y_,oz10[i]? =some y_:=⟨oz10[i]'(by omega),List.getElem?_eq_getElem _⟩
 have hym:(List.zipWith bM.cells (cu l r) oz10)[i]? =some (bM.cells y ya):=gM hy hya
 refine rS (IA i rfl (aC (n:=(cu l r).length) 1 rfl (fj hoz)) wo (by decide) (by omega) (by omega))<|rS (ou (i*3) rfl (aC (n:=(cu l r).length) 1 rfl (fj hoz)) (Nat.mul_pos (by omega) (by decide)) sr rfl)<|rS (iX i 0 (Value.slice ya.1.1 y.cY.length ya.1.2) rfl nZ (aC (n:=(cu l r).length) 1 rfl (fj hoz)) hym rfl (by decide) rfl)<|rS (MV rfl)<|rS (CL (E2 y.cY ya.1.1 ya.1.2 ((n:Nat):Int) (by have q:=hws.lens y (List.mem_of_getElem? hy); omega)) (aM (show jS _ (rd ya.1.1 y.cY.length 1 (y.cY.map iC)).holds from (fun w hw=>(dT 2 rfl pN) w hw _ (dc hy hya (by simp [bM.dX]))))<|ay) rfl)<|rS (NT rfl)<|rS (PK rfl)<|rS (AG rfl)<|aP<|aK ?_
 refine KK hK33<|ar<|rS (MV rfl)<|rS (BI rfl (aZ ⟨by omega,by omega⟩))<|rS (AG rfl)<|aP ?_
 have hb34:(Value.bool (kG ((cu l r).take (i+1)) ((n:Nat):Int)))=(Value.bool (!(decide (((n:Nat):Int)∈y.cY)))):=by first|(rw [du hy,lN,hg35,Bool.true_and]; done)|(rw [du hy,lN,hg35,Bool.false_and]; done)
 have hb35:(Value.int .i64 (((i+1):Nat):Int))=(Value.int .i64 (((i:Nat):Int)+1)):=by exact congrArg (Value.int .i64) (by omega)
 refine aO (hJ29 ⟨(i+1),(by first|omega|(simp only []; omega))⟩ _ _ _ rfl (by first|omega|(simp; omega)) (an.cons rfl<|an.cons rfl<|an.cons rfl<|an.cons rfl<|an.cons rfl<|aQ rfl hb34<|aQ rfl hb35<|an.nil _) (fun w hs=>St.br [0,1,2,3,4,5,6,7,8,9] rfl rfl hs))
set_option maxRecDepth 100000 in
set_option maxHeartbeats 400000 in
theorem yD (l:aU) (kA:Option Addr) (kC:Nat) (az:List RA) (cA:Option Addr) (cC:Nat) (bA:Option Addr) (bC:Nat) (r:bK) (sgA:Option Addr) (sgC:Nat) (hin:dC l az) (hsl:r.ab.length≤1000000):
 rp Tryz.prog 22 [(Value.agg (aF.cells (aF.mk (au.mk (av.mk kA l.al.length kC)) l.bw (av.mk cA l.ag.length cC) (av.mk bA l.aa.length bC) l.aD l.aV l.aJ)).toArray),(Value.agg (aS.cells (aS.mk r.Start r.cI (av.mk sgA r.ab.length sgC))).toArray)] [(rd kA l.al.length 9 (l.al.map ah.cells)),(rd cA l.ag.length 2 (List.zipWith aj.cells l.ag az)),(cZ (aL aj.dX l.ag az)),(rd bA l.aa.length 4 (l.aa.map aY.cells)),(rd sgA r.ab.length 2 (r.ab.map aw.cells))] (fun (x:(Option Addr)×Nat)=>(Value.tuple [(Value.slice x.1 ((fr l r).length) x.2),(Value.int .i64 (cr l r 0))].toArray)) (fun (x:(Option Addr)×Nat)=>True) (fun (x:(Option Addr)×Nat)=>[(own x.1 x.2 3 1 ((fr l r).map iC))]):=by
 have htk:=hin.nm
 have hck:=hin.nv
 have has:=hin.m_
 have hbm:=hin.nd
 refine gp IZ Tryz.func22 rfl rfl fun w0 Q hQ hN=>?_
 try dsimp only
 refine WS fun _ hK1=>fy rfl fun b2=>fy rfl fun b3=>rS (AG rfl)<|rS (AG rfl)<|RK hK1<|WS fun _ hK4=>rS (LW 1 rfl eO rfl rfl)<|rS (LW 0 rfl iw rfl rfl)<|cX (pT l kA kC az cA cC bA bC r sgA sgC hin hsl) (ax 2 rfl rfl<|ax 3 rfl rfl<|ax 4 rfl rfl<|ax 5 rfl rfl<|ax 6 rfl rfl<|ay) rfl fun y5 hy6=>?_
 obtain ⟨ok11,ec7,a8,c9,oz10⟩:=y5
 cases ok11
 ·obtain ⟨hec,he⟩:=hy6.2 rfl
  try dsimp only at hec he
  subst hec
  try dsimp only [cond_true,cond_false,List.cons_append,List.nil_append]
  refine rS (MV rfl)<|rS (EX rfl)<|rS (EX rfl)<|rS (AG rfl)<|rS (AG rfl)<|RK hK4<|aq fun _ hK12=>WS fun _ hK13=>rS (MV rfl)<|rS (BI rfl dB) ?_
  refine RK hK13 ?_
  refine bj rfl (fun h19=>?_) (fun h19=>?_)
  rotate_left 1
  ·replace h19:=XF h19
   exact absurd h19 he
  replace h19:=XT h19
  refine WS fun _ hK14=>ia 3 1 ?_
  rw [show (own none 0 3 1 ([]:List (List Value)))=own none 0 3 1 ((fr l r).map iC) from by rw [hG he]; rfl]
  refine rS (MV rfl)<|rS (AG rfl)<|rS (AG rfl)<|RK hK14<|aE ?_
  refine hQ _ _ _ (bB (vs:=[(Value.slice none 0 0),(Value.int .i64 (cr l r 0))]) ⟨rfl,rfl,trivial⟩ fun w hs=>fB (none,0) [0] ?_ ?_ rfl rfl rfl hs)
  ·first|rfl|(rw [he]; rfl)|(rw [hG he]; rfl)
  ·trivial
 obtain ⟨he,hoz⟩:=hy6.1 rfl
 try dsimp only [cond_true,cond_false,List.cons_append,List.nil_append]
 try dsimp only at he hoz
 obtain ⟨hle,hro,_,hnn⟩:=dW he
 obtain ⟨htr,hok⟩:=di hle
 have hhd:=hok.head
 unfold cS at hhd
 have hws:=rW hle hro
 have hwn:=hws.num
 have hrl:=hro.len
 have hrt:=hro.time
 refine rS (MV rfl)<|rS (EX rfl)<|rS (EX rfl)<|rS (AG rfl)<|rS (AG rfl)<|RK hK4<|aq fun _ hK15=>WS fun _ hK16=>rS (MV rfl)<|rS (SX (fK (r:= .bool false) rfl rfl rfl dB) rfl rfl) ?_
 refine RK hK16<|bV rfl<|WK hK15<|WS fun _ hK17=>rS (AG rfl)<|RK hK17<|aq fun _ hK18=>WS fun _ hK19=>rS (AG rfl)<|RK hK19 ?_
 refine aG<|fU 3 1 ?_
 have hinit:(0≤l.aa.length):=by exact Nat.zero_le _
 refine cq (ι:={z:Nat×(Option Addr)×Nat // (z.1≤l.aa.length)}) (fun z=>[(2,(Value.pointer (some ⟨b2,0,none⟩))),(3,(Value.pointer (some ⟨b3,0,none⟩))),(6,(Value.slice a8 ((cu l r).length) c9)),(8,(Value.slice z.1.2.1 ((hM (cu l r) z.1.1).length) z.1.2.2)),(9,(Value.int .i64 ((z.1.1:Nat):Int)))]) (fun z=>[(own z.1.2.1 z.1.2.2 3 1 ((hM (cu l r) z.1.1).map iC)),(own a8 c9 85 3 (List.zipWith bM.cells (cu l r) oz10)),(a5 (aL bM.owns (cu l r) oz10)),(aT b3 31 (aS.cells (aS.mk r.Start r.cI (av.mk sgA r.ab.length sgC)))),(aT b2 28 (aF.cells (aF.mk (au.mk (av.mk kA l.al.length kC)) l.bw (av.mk cA l.ag.length cC) (av.mk bA l.aa.length bC) l.aD l.aV l.aJ))),(rd kA l.al.length 9 (l.al.map ah.cells)).ro,(rd cA l.ag.length 2 (List.zipWith aj.cells l.ag az)).ro,(cZ (aL aj.dX l.ag az)).ro,(rd bA l.aa.length 4 (l.aa.map aY.cells)).ro,(rd sgA r.ab.length 2 (r.ab.map aw.cells)).ro]) (fun z=>l.aa.length-z.1.1) ⟨(0,none,0),hinit⟩ (an.cons rfl<|an.cons rfl<|an.cons rfl<|an.cons rfl<|an.cons rfl<|an.nil _) (fun w hs=>St.br [0,1,2,3,4,5,6,7,8,9] rfl rfl hs) ?_
 clear hinit
 rintro ⟨⟨n,a,c⟩,hl6_0⟩ J20 hJ20
 try dsimp only at hl6_0
 try dsimp only
 refine aq fun _ hK21=>WS fun _ hK22=>rS (MV rfl)<|rS (FA 3 rfl dy rfl)<|rS (L1 (Value.slice bA l.aa.length bC) 4 rfl g3 rfl rfl)<|rS (LN rfl jL)<|rS (BI rfl cv)<|RK hK22 ?_
 refine bj rfl (fun h23=>?_) (fun h23=>?_)
 rotate_left 1
 ·replace h23:=DF h23
  refine bE<|ai<|ai<|aH<|KK hK18<|WS fun _ hK47=>rS (MV rfl) ?_
  rw [show (hM (cu l r) n)=(fr l r) from by (rw [← xu he,show n=l.aa.length by omega])]
  refine rS (AG rfl)<|rS (AG rfl)<|RK hK47<|aE ?_
  refine hQ _ _ _ (bB (vs:=[(Value.slice a ((fr l r).length) c),(Value.int .i64 0)]) ⟨rfl,rfl,trivial⟩ fun w hs=>fB (a,c) [0] ?_ ?_ rfl rfl rfl hs)
  ·first|rfl|(rw [he]; rfl)|(rw [hG he]; rfl)
  ·trivial
 replace h23:=DT h23
 refine WK hK21<|aq fun _ hK24=>aG<|WS fun _ hK25=>rS (AG rfl)<|RK hK25<|aq fun _ hK26=>WS fun _ hK27=>rS (AG rfl)<|RK hK27 ?_
 refine aG ?_
 have hinit:(0≤(cu l r).length):=by exact Nat.zero_le _
 have hb28:(Value.bool (iq ((cu l r).take 0) n))=(Value.bool true):=by rfl
 refine cq (ι:={z:Nat // (z≤(cu l r).length)}) (fun z=>[(2,(Value.pointer (some ⟨b2,0,none⟩))),(3,(Value.pointer (some ⟨b3,0,none⟩))),(6,(Value.slice a8 ((cu l r).length) c9)),(8,(Value.slice a ((hM (cu l r) n).length) c)),(9,(Value.int .i64 ((n:Nat):Int))),(10,(Value.bool (iq ((cu l r).take z.1) n))),(11,(Value.int .i64 ((z.1:Nat):Int)))]) (fun z=>[(own a c 3 1 ((hM (cu l r) n).map iC)),(own a8 c9 85 3 (List.zipWith bM.cells (cu l r) oz10)),(a5 (aL bM.owns (cu l r) oz10)),(aT b3 31 (aS.cells (aS.mk r.Start r.cI (av.mk sgA r.ab.length sgC)))),(aT b2 28 (aF.cells (aF.mk (au.mk (av.mk kA l.al.length kC)) l.bw (av.mk cA l.ag.length cC) (av.mk bA l.aa.length bC) l.aD l.aV l.aJ))),(rd kA l.al.length 9 (l.al.map ah.cells)).ro,(rd cA l.ag.length 2 (List.zipWith aj.cells l.ag az)).ro,(cZ (aL aj.dX l.ag az)).ro,(rd bA l.aa.length 4 (l.aa.map aY.cells)).ro,(rd sgA r.ab.length 2 (r.ab.map aw.cells)).ro]) (fun z=>(cu l r).length-z.1) ⟨0,hinit⟩ (an.cons rfl<|an.cons rfl<|an.cons rfl<|an.cons rfl<|an.cons rfl<|aQ rfl hb28<|an.cons rfl<|an.nil _) (fun w hs=>St.br [0,1,2,3,4,5,6,7,8,9] rfl rfl hs) ?_
 clear hinit
 rintro ⟨i,hl10_0⟩ J29 hJ29
 try dsimp only
 refine aq fun _ hK30=>WS fun _ hK31=>rS (MV rfl)<|rS (MV rfl)<|rS (LN rfl Aj)<|rS (BI rfl cv)<|RK hK31 ?_
 refine bj rfl (fun h32=>?_) (fun h32=>?_)
 rotate_left 1
 ·replace h32:=DF h32
  refine bE<|ai<|ai<|aH<|KK hK26<|WS fun _ hK41=>rS (MV rfl)<|RK hK41 ?_
  refine bj rfl (fun hfl=>?_) (fun hfl=>?_)
  rotate_left 1
  ·refine cM ?_
   refine aK<|KK hK24<|ar<|rS (MV rfl)<|rS (BI rfl (aZ ⟨by omega,by omega⟩))<|rS (AG rfl)<|aP ?_
   rw [show (hM (cu l r) n)=(hM (cu l r) (n+1)) from (yO (by have q:=hfl; rwa [List.take_of_length_le (by omega)] at q)).symm]
   have hb46:(Value.int .i64 (((n+1):Nat):Int))=(Value.int .i64 (((n:Nat):Int)+1)):=by exact congrArg (Value.int .i64) (by omega)
   refine aO (hJ20 ⟨((n+1),a,c),(by first|omega|(simp only []; omega))⟩ _ _ _ rfl (by first|omega|(simp; omega)) (an.cons rfl<|an.cons rfl<|an.cons rfl<|an.cons rfl<|aQ rfl hb46<|an.nil _) (fun w hs=>St.br [0,1,2,3,4,5,6,7,8,9] rfl rfl hs))
  refine ar<|rS (MV rfl) ?_
  have hfv:(iq (cu l r) n)=true:=by have q:=hfl; rwa [List.take_of_length_le (by omega)] at q
  refine rS (MV rfl)<|fp (xs:=[.tmp 58]) (cs:=[(Value.int .i64 ((n:Nat):Int))]) rfl dY lK rfl rfl rfl rfl (by simp [Value.cells]) rfl rfl fun b42=>dR (es2:=(List.map iC (hM (cu l r) (n+1)))) (m':=(hM (cu l r) (n+1)).length) 1 rfl rfl rfl o9 rfl rfl (by simp) (bf (es:=List.map iC [((n:Nat):Int)]) 0 rfl rfl (by simp [bY]) rfl) (jF _) (by have:=sL (ws:=(cu l r)) (n:=n); omega) (by have:=sL (ws:=(cu l r)) (n:=n); simp only [maxLen]; omega) (by rw [w4 hfv]; simp) (by simp) rfl fun a43 c44=>?_
  try dsimp only
  refine rS (AG rfl)<|aP<|aK<|KK hK24<|ar<|rS (MV rfl)<|rS (BI rfl (aZ ⟨by omega,by omega⟩))<|rS (AG rfl)<|aP ?_
  have hb45:(Value.int .i64 (((n+1):Nat):Int))=(Value.int .i64 (((n:Nat):Int)+1)):=by exact congrArg (Value.int .i64) (by omega)
  refine aO (hJ20 ⟨((n+1),a43,c44),(by first|omega|(simp only []; omega))⟩ _ _ _ rfl (by first|omega|(simp; omega)) (an.cons rfl<|an.cons rfl<|an.cons rfl<|an.cons rfl<|aQ rfl hb45<|an.nil _) (fun w hs=>St.br [1,2,3,4,5,6,7,8,9,10] rfl rfl hs))
 replace h32:=DT h32
 refine WK hK30<|aq fun _ hK33=>aG<|ar<|rS (MV rfl) ?_
 obtain ⟨y,hy⟩: ∃ y_,(cu l r)[i]? =some y_:=⟨(cu l r)[i]'(by omega),List.getElem?_eq_getElem _⟩
 refine rS (MV rfl) ?_
 refine bH (t:=35) rfl (fun hg35=>?_) (fun hg35=>?_)
 rotate_left 1
 ·refine rS (OX rfl) ?_
  refine rS (OX rfl)<|rS (OX rfl)<|rS (OX rfl)<|rS (OX rfl)<|rS (OX rfl)<|rS (OX rfl)<|rS (OX rfl)<|rS (PK rfl)<|rS (MV rfl)<|rS (OX rfl) ?_
  refine rS (OX rfl)<|rS (OX rfl)<|rS (OX rfl)<|rS (OX rfl)<|rS (OX rfl)<|rS (OX rfl)<|rS (OX rfl)<|rS (OX rfl)<|rS (PK rfl)<|rS (AG rfl) ?_
  refine aP<|aK<|KK hK33<|ar<|rS (MV rfl)<|rS (BI rfl (aZ ⟨by omega,by omega⟩))<|rS (AG rfl)<|aP ?_
  have hb39:(Value.bool (iq ((cu l r).take (i+1)) n))=(Value.bool false):=by first|(rw [du hy,fJ,hg35,Bool.false_and]; done)|(rw [du hy,fJ,hg35,Bool.true_and]; exact congrArg Value.bool (decide_eq_decide.2 ⟨fun ⟨z,hz,h0⟩=>by rw [hxr] at hz; cases hz; exact h0,fun h0=>⟨xr,hxr,h0⟩⟩))|(rw [du hy,fJ,hg35,Bool.true_and]; exact congrArg Value.bool (decide_eq_false fun ⟨z,hz,_⟩=>by have q:=(List.getElem?_eq_some_iff.1 hz).1; omega))
  have hb40:(Value.int .i64 (((i+1):Nat):Int))=(Value.int .i64 (((i:Nat):Int)+1)):=by exact congrArg (Value.int .i64) (by omega)
  refine aO (hJ29 ⟨(i+1),(by first|omega|(simp only []; omega))⟩ _ _ _ rfl (by first|omega|(simp; omega)) (an.cons rfl<|an.cons rfl<|an.cons rfl<|an.cons rfl<|an.cons rfl<|aQ rfl hb39<|aQ rfl hb40<|an.nil _) (fun w hs=>St.br [0,1,2,3,4,5,6,7,8,9] rfl rfl hs))
 refine rS (MV rfl)<|rS (MV rfl) ?_
 obtain ⟨y,hy⟩: ∃ y_,(cu l r)[i]? =some y_:=⟨(cu l r)[i]'(by omega),List.getElem?_eq_getElem _⟩
 obtain ⟨ya,hya⟩: ∃ y_,oz10[i]? =some y_:=⟨oz10[i]'(by omega),List.getElem?_eq_getElem _⟩
 have hym:(List.zipWith bM.cells (cu l r) oz10)[i]? =some (bM.cells y ya):=gM hy hya
 refine rS (IA i rfl (aC (n:=(cu l r).length) 1 rfl (fj hoz)) wo (by decide) (by omega) (by omega))<|rS (ou (i*3) rfl (aC (n:=(cu l r).length) 1 rfl (fj hoz)) (Nat.mul_pos (by omega) (by decide)) sr rfl)<|rS (iX i 0 (Value.slice ya.1.1 y.cY.length ya.1.2) rfl nZ (aC (n:=(cu l r).length) 1 rfl (fj hoz)) hym rfl (by decide) rfl)<|rS (LN rfl l9)<|rS (MV rfl)<|rS (BI rfl fY)<|rS (PK rfl)<|rS (MV rfl) ?_
 refine bH (t:=45) rfl (fun h34=>?_) (fun h34=>?_)
 rotate_left 1
 ·replace h34:=DF h34
  refine rS (OX rfl)<|rS (OX rfl)<|rS (OX rfl)<|rS (OX rfl)<|rS (OX rfl)<|rS (OX rfl)<|rS (OX rfl)<|rS (OX rfl)<|rS (OX rfl)<|rS (PK rfl) ?_
  refine rS (AG rfl)<|aP<|aK<|KK hK33<|ar<|rS (MV rfl)<|rS (BI rfl (aZ ⟨by omega,by omega⟩))<|rS (AG rfl)<|aP ?_
  have hb37:(Value.bool (iq ((cu l r).take (i+1)) n))=(Value.bool false):=by first|(rw [du hy,fJ,hg35,Bool.false_and]; done)|(rw [du hy,fJ,hg35,Bool.true_and]; exact congrArg Value.bool (decide_eq_decide.2 ⟨fun ⟨z,hz,h0⟩=>by rw [hxr] at hz; cases hz; exact h0,fun h0=>⟨xr,hxr,h0⟩⟩))|(rw [du hy,fJ,hg35,Bool.true_and]; exact congrArg Value.bool (decide_eq_false fun ⟨z,hz,_⟩=>by have q:=(List.getElem?_eq_some_iff.1 hz).1; omega))
  have hb38:(Value.int .i64 (((i+1):Nat):Int))=(Value.int .i64 (((i:Nat):Int)+1)):=by exact congrArg (Value.int .i64) (by omega)
  refine aO (hJ29 ⟨(i+1),(by first|omega|(simp only []; omega))⟩ _ _ _ rfl (by first|omega|(simp; omega)) (an.cons rfl<|an.cons rfl<|an.cons rfl<|an.cons rfl<|an.cons rfl<|aQ rfl hb37<|aQ rfl hb38<|an.nil _) (fun w hs=>St.br [0,1,2,3,4,5,6,7,8,9] rfl rfl hs))
 replace h34:=DT h34
 refine rS (MV rfl)<|rS (MV rfl)<|rS (IA i rfl (aC (n:=(cu l r).length) 1 rfl (fj hoz)) wo (by decide) (by omega) (by omega))<|rS (ou (i*3) rfl (aC (n:=(cu l r).length) 1 rfl (fj hoz)) (Nat.mul_pos (by omega) (by decide)) sr rfl)<|rS (iX i 0 (Value.slice ya.1.1 y.cY.length ya.1.2) rfl nZ (aC (n:=(cu l r).length) 1 rfl (fj hoz)) hym rfl (by decide) rfl)<|rS (MV rfl) ?_
 obtain ⟨xr,hxr⟩: ∃ y_,y.cY[n]? =some y_:=⟨y.cY[n]'(by omega),List.getElem?_eq_getElem _⟩
 have hxrm:(y.cY.map iC)[n]? =some (iC xr):=by rw [List.getElem?_map,hxr]; rfl
 refine rS (IA n rfl (show jS _ (rd ya.1.1 y.cY.length 1 (y.cY.map iC)).holds from (fun w hw=>(dT 2 rfl pN) w hw _ (dc hy hya (by simp [bM.dX])))) dY (by decide) (by omega) (by omega))<|rS (iX n 0 (Value.int .i64 xr) rfl bu (show jS _ (rd ya.1.1 y.cY.length 1 (y.cY.map iC)).holds from (fun w hw=>(dT 2 rfl pN) w hw _ (dc hy hya (by simp [bM.dX])))) hxrm rfl (by decide) rfl)<|rS (BI rfl cv)<|rS (PK rfl)<|rS (AG rfl)<|aP<|aK<|KK hK33<|ar<|rS (MV rfl) ?_
 refine rS (BI rfl (aZ ⟨by omega,by omega⟩))<|rS (AG rfl)<|aP ?_
 have hb35:(Value.bool (iq ((cu l r).take (i+1)) n))=(Value.bool (decide (xr<0))):=by first|(rw [du hy,fJ,hg35,Bool.false_and]; done)|(rw [du hy,fJ,hg35,Bool.true_and]; exact congrArg Value.bool (decide_eq_decide.2 ⟨fun ⟨z,hz,h0⟩=>by rw [hxr] at hz; cases hz; exact h0,fun h0=>⟨xr,hxr,h0⟩⟩))|(rw [du hy,fJ,hg35,Bool.true_and]; exact congrArg Value.bool (decide_eq_false fun ⟨z,hz,_⟩=>by have q:=(List.getElem?_eq_some_iff.1 hz).1; omega))
 have hb36:(Value.int .i64 (((i+1):Nat):Int))=(Value.int .i64 (((i:Nat):Int)+1)):=by exact congrArg (Value.int .i64) (by omega)
 refine aO (hJ29 ⟨(i+1),(by first|omega|(simp only []; omega))⟩ _ _ _ rfl (by first|omega|(simp; omega)) (an.cons rfl<|an.cons rfl<|an.cons rfl<|an.cons rfl<|an.cons rfl<|aQ rfl hb35<|aQ rfl hb36<|an.nil _) (fun w hs=>St.br [0,1,2,3,4,5,6,7,8,9] rfl rfl hs))
end
section
open Go.RowKit
set_option linter.unusedVariables false
set_option maxRecDepth 100000 in
set_option maxHeartbeats 400000 in
theorem Ag (l:aU) (kA:Option Addr) (kC:Nat) (az:List RA) (cA:Option Addr) (cC:Nat) (bA:Option Addr) (bC:Nat) (r:bK) (sgA:Option Addr) (sgC:Nat) (hin:dC l az) (hsl:r.ab.length≤1000000):
 eH Tryz.prog 13 [(Value.agg (aF.cells (aF.mk (au.mk (av.mk kA l.al.length kC)) l.bw (av.mk cA l.ag.length cC) (av.mk bA l.aa.length bC) l.aD l.aV l.aJ)).toArray),(Value.agg (aS.cells (aS.mk r.Start r.cI (av.mk sgA r.ab.length sgC))).toArray)] [(rd kA l.al.length 9 (l.al.map ah.cells)),(rd cA l.ag.length 2 (List.zipWith aj.cells l.ag az)),(cZ (aL aj.dX l.ag az)),(rd bA l.aa.length 4 (l.aa.map aY.cells)),(rd sgA r.ab.length 2 (r.ab.map aw.cells))] (Value.tuple [(Value.int .u8 (cH l r)),(Value.int .i64 (cr l r 0))].toArray):=by
 have htk:=hin.nm
 have hck:=hin.nv
 have has:=hin.m_
 have hbm:=hin.nd
 refine bL I2 Tryz.func13 rfl rfl fun w0 Q hQ hN=>?_
 try dsimp only
 refine WS fun _ hK1=>fy rfl fun b2=>fy rfl fun b3=>rS (AG rfl)<|rS (AG rfl)<|RK hK1<|WS fun _ hK4=>rS (LW 1 rfl eO rfl rfl)<|rS (LW 0 rfl iw rfl rfl)<|cX (wh l kA kC az cA cC bA bC r sgA sgC hin hsl) (ax 2 rfl rfl<|ax 3 rfl rfl<|ax 4 rfl rfl<|ax 5 rfl rfl<|ax 6 rfl rfl<|ay) rfl fun y5 hy6=>?_
 obtain ⟨a7,c8⟩:=y5
 try dsimp only
 refine rS (MV rfl)<|rS (EX rfl)<|rS (EX rfl)<|rS (AG rfl)<|rS (AG rfl)<|RK hK4<|aq fun _ hK9=>aG<|WS fun _ hK10=>rS (MV rfl) ?_
 refine rS (BI rfl dB)<|rS (AG rfl)<|RK hK10 ?_
 refine bj rfl (fun h14=>?_) (fun h14=>?_)
 ·replace h14:=XT h14
  refine WS fun _ hK11=>rS (MV rfl)<|rS (AG rfl)<|rS (AG rfl)<|RK hK11<|aE<|Q2 hQ rfl rfl rfl rfl ?_
  first|(rw [show cH l r=0 from if_neg h14]; done)|(rw [h14,show cH l r=2 from by unfold cH; rw [if_pos h14,if_pos (by omega)]]; done)|(rw [h14,show cH l r=0 from by unfold cH; rw [if_pos h14,if_neg (by omega),if_pos (by omega)]]; done)|(rw [h14,show cH l r=1 from by unfold cH; rw [if_pos h14,if_neg (by omega),if_neg (by omega)]]; done)
 replace h14:=XF h14
 refine aq fun _ hK12=>dm cG 7 (by kernel_rfl) ?_
 have hwl:=kf (l:=l) (r:=r)
 have hwp:=mN h14
 have hwe:=xQ h14
 refine dS (MV rfl) ?_
 obtain ⟨x0,hx0⟩: ∃ y_,(bR l r)[0]? =some y_:=⟨(bR l r)[0]'(by omega),List.getElem?_eq_getElem _⟩
 have hx0m:((bR l r).map iC)[0]? =some (iC x0):=by rw [List.getElem?_map,hx0]; rfl
 refine dS (IA 0 rfl (aC (n:=(bR l r).length) 0 rfl (by simp)) dY (by decide) rfl (by omega))<|dS (iX 0 0 (Value.int .i64 x0) rfl bu (aC (n:=(bR l r).length) 0 rfl (by simp)) hx0m rfl (by decide) rfl)<|dS (FA 4 rfl lV rfl)<|dS (L1 (Value.int .i64 l.aD) 2 rfl bu rfl rfl) ?_
 have e0:=Option.some.inj (hx0.symm.trans hwe.1)
 refine dS (BI rfl fY)<|dS (AG rfl)<|cP<|RK hK12 ?_
 refine bj rfl (fun h18=>?_) (fun h18=>?_)
 ·replace h18:=DT h18
  refine WS fun _ hK13=>rS (AG rfl)<|rS (AG rfl)<|RK hK13<|aE<|Q2 hQ rfl rfl rfl rfl ?_
  first|(rw [show cH l r=0 from if_neg h14]; done)|(rw [h14,show cH l r=2 from by unfold cH; rw [if_pos h14,if_pos (by omega)]]; done)|(rw [h14,show cH l r=0 from by unfold cH; rw [if_pos h14,if_neg (by omega),if_pos (by omega)]]; done)|(rw [h14,show cH l r=1 from by unfold cH; rw [if_pos h14,if_neg (by omega),if_neg (by omega)]]; done)
 replace h18:=DF h18
 refine aq fun _ hK14=>dm cG 10 (by kernel_rfl)<|dS (MV rfl)<|dS (MV rfl)<|dS (LN rfl l9)<|dS (BI rfl (da ⟨by omega,by omega⟩)) ?_
 obtain ⟨x1,hx1⟩: ∃ y_,(bR l r)[((bR l r).length-1)]? =some y_:=⟨(bR l r)[((bR l r).length-1)]'(by omega),List.getElem?_eq_getElem _⟩
 have hx1m:((bR l r).map iC)[((bR l r).length-1)]? =some (iC x1):=by rw [List.getElem?_map,hx1]; rfl
 refine dS (IA ((bR l r).length-1) rfl (aC (n:=(bR l r).length) 0 rfl (by simp)) dY (by decide) (by omega) (by omega))<|dS (iX ((bR l r).length-1) 0 (Value.int .i64 x1) rfl bu (aC (n:=(bR l r).length) 0 rfl (by simp)) hx1m rfl (by decide) rfl)<|dS (FA 4 rfl lV rfl)<|dS (L1 (Value.int .i64 l.aD) 2 rfl bu rfl rfl) ?_
 have e1:=Option.some.inj (hx1.symm.trans hwe.2)
 refine dS (BI rfl gl)<|dS (AG rfl)<|cP<|RK hK14 ?_
 refine bj rfl (fun h25=>?_) (fun h25=>?_)
 ·replace h25:=DT h25
  refine WS fun _ hK15=>rS (AG rfl)<|rS (AG rfl)<|RK hK15<|aE<|Q2 hQ rfl rfl rfl rfl ?_
  first|(rw [show cH l r=0 from if_neg h14]; done)|(rw [h14,show cH l r=2 from by unfold cH; rw [if_pos h14,if_pos (by omega)]]; done)|(rw [h14,show cH l r=0 from by unfold cH; rw [if_pos h14,if_neg (by omega),if_pos (by omega)]]; done)|(rw [h14,show cH l r=1 from by unfold cH; rw [if_pos h14,if_neg (by omega),if_neg (by omega)]]; done)
 replace h25:=DF h25
 refine cM<|aK<|KK hK9<|WS fun _ hK16=>rS (AG rfl)<|rS (AG rfl)<|RK hK16<|aE<|Q2 hQ rfl rfl rfl rfl ?_
 first|(rw [show cH l r=0 from if_neg h14]; done)|(rw [h14,show cH l r=2 from by unfold cH; rw [if_pos h14,if_pos (by omega)]]; done)|(rw [h14,show cH l r=0 from by unfold cH; rw [if_pos h14,if_neg (by omega),if_pos (by omega)]]; done)|(rw [h14,show cH l r=1 from by unfold cH; rw [if_pos h14,if_neg (by omega),if_neg (by omega)]]; done)
set_option maxRecDepth 100000 in
set_option maxHeartbeats 400000 in
theorem yY (l:aU) (kA:Option Addr) (kC:Nat) (az:List RA) (cA:Option Addr) (cC:Nat) (bA:Option Addr) (bC:Nat) (r:bK) (sgA:Option Addr) (sgC:Nat) (bq_:Int) (hin:dC l az) (hsl:r.ab.length≤1000000):
 eH Tryz.prog 16 [(Value.agg (aF.cells (aF.mk (au.mk (av.mk kA l.al.length kC)) l.bw (av.mk cA l.ag.length cC) (av.mk bA l.aa.length bC) l.aD l.aV l.aJ)).toArray),(Value.agg (aS.cells (aS.mk r.Start r.cI (av.mk sgA r.ab.length sgC))).toArray),(Value.int .i64 bq_)] [(rd kA l.al.length 9 (l.al.map ah.cells)),(rd cA l.ag.length 2 (List.zipWith aj.cells l.ag az)),(cZ (aL aj.dX l.ag az)),(rd bA l.aa.length 4 (l.aa.map aY.cells)),(rd sgA r.ab.length 2 (r.ab.map aw.cells))] (Value.tuple [(Value.agg (ae.cells (ct l r bq_)).toArray),(Value.int .i64 (dg l r bq_))].toArray):=by
 have htk:=hin.nm
 have hck:=hin.nv
 have has:=hin.m_
 have hbm:=hin.nd
 refine bL IF Tryz.func16 rfl rfl fun w0 Q hQ hN=>?_
 try dsimp only
 refine WS fun _ hK1=>fy rfl fun b2=>fy rfl fun b3=>AL rfl dF fun b4=>rS (AG rfl)<|RK hK1<|aq fun _ hK5=>WS fun _ hK6=>rS (LW 2 rfl eO rfl rfl)<|rS (CL (wm l kA kC az cA cC bA bC hin) (ax 3 rfl rfl<|ax 4 rfl rfl<|ax 5 rfl rfl<|ax 6 rfl rfl<|ay) rfl) ?_
 refine rS (AG rfl)<|RK hK6<|WS fun _ hK7=>rS (MV rfl)<|rS (BI rfl dB)<|RK hK7 ?_
 refine bj rfl (fun h14=>?_) (fun h14=>?_)
 ·replace h14:=XT h14
  refine WS fun _ hK8=>rS (SX (bp (xs:=[]) (cs:=(ae.cells (ae.mk 0 0))) rfl rfl (bq fI rfl)) rfl rfl)<|rS (MV rfl)<|fO rfl cK rfl<|rS (AG rfl)<|RK hK8<|aE ?_
  refine hQ _ _ _ (bB (vs:=[(Value.agg (ae.cells (ae.mk 0 0)).toArray),(Value.int .i64 (dk l))]) ⟨⟨_,rfl,.inl ⟨_,_,cp,cy (vs:=(ae.cells (ae.mk 0 0))) 0 rfl rfl,rfl,rfl⟩⟩,rfl,trivial⟩ fun w hs=>fq ?_ hs)
  show (Value.tuple [(Value.agg (ae.cells (ae.mk 0 0)).toArray),(Value.int .i64 (dk l))].toArray)=(Value.tuple [(Value.agg (ae.cells (ct l r bq_)).toArray),(Value.int .i64 (dg l r bq_))].toArray)
  clear hs w hQ hN hK8 hK7 hK6 hK5 hK1
  first|(have e:=bZ (r:=r) (me:=dU l bq_) h14; have q:=cR (b:=bq_) (fun z=>h14 (e.symm.trans z)); rw [q.1,q.2,e]<;>rfl)|(have e:=bk (me:=dU l bq_) h14 h19; have q:=cR (b:=bq_) (fun z=>absurd (e.symm.trans z) (by decide)); rw [q.1,q.2,e]<;>rfl)|(have hbe:dU l bq_=2:=if_neg h27; have e:=dE (me:=dU l bq_) h14 h19 (by rw [hbe]; decide); have q:=cR (b:=bq_) (fun z=>absurd (e.symm.trans z) (by rw [hbe]; decide)); rw [q.1,q.2,e,hbe]<;>rfl)|(have hbe:dU l bq_=0:=k4 h27; have q:=cR (b:=bq_) (r:=r) (by rw [hbe]; exact he); rw [q.1,q.2,hbe]<;>rfl)|(have q:=my he (b:=b) (by omega); rw [← hbq] at q; rw [q.1,q.2]<;>rfl)
 replace h14:=XF h14
 refine WK hK5<|aq fun _ hK9=>WS fun _ hK10=>rS (LW 2 rfl eO rfl rfl)<|rS (LW 1 rfl iw rfl rfl)<|rS (CL (x5 l kA kC az cA cC bA bC r sgA sgC hin hsl) (ax 3 rfl rfl<|ax 4 rfl rfl<|ax 5 rfl rfl<|ax 6 rfl rfl<|ax 7 rfl rfl<|ay) rfl)<|rS (NT rfl)<|RK hK10 ?_
 refine bj rfl (fun h19=>?_) (fun h19=>?_)
 ·replace h19:=XT h19
  refine WS fun _ hK11=>rS (SX (bp (xs:=[]) (cs:=(ae.cells (ae.mk 0 0))) rfl rfl (bq fI rfl)) rfl rfl)<|fO rfl cK rfl<|rS (AG rfl)<|RK hK11<|aE ?_
  refine hQ _ _ _ (bB (vs:=[(Value.agg (ae.cells (ae.mk 0 0)).toArray),(Value.int .i64 51)]) ⟨⟨_,rfl,.inl ⟨_,_,cp,cy (vs:=(ae.cells (ae.mk 0 0))) 0 rfl rfl,rfl,rfl⟩⟩,rfl,trivial⟩ fun w hs=>fq ?_ hs)
  show (Value.tuple [(Value.agg (ae.cells (ae.mk 0 0)).toArray),(Value.int .i64 51)].toArray)=(Value.tuple [(Value.agg (ae.cells (ct l r bq_)).toArray),(Value.int .i64 (dg l r bq_))].toArray)
  clear hs w hQ hN hK11 hK10 hK9 hK7 hK6 hK5 hK1
  first|(have e:=bZ (r:=r) (me:=dU l bq_) h14; have q:=cR (b:=bq_) (fun z=>h14 (e.symm.trans z)); rw [q.1,q.2,e]<;>rfl)|(have e:=bk (me:=dU l bq_) h14 h19; have q:=cR (b:=bq_) (fun z=>absurd (e.symm.trans z) (by decide)); rw [q.1,q.2,e]<;>rfl)|(have hbe:dU l bq_=2:=if_neg h27; have e:=dE (me:=dU l bq_) h14 h19 (by rw [hbe]; decide); have q:=cR (b:=bq_) (fun z=>absurd (e.symm.trans z) (by rw [hbe]; decide)); rw [q.1,q.2,e,hbe]<;>rfl)|(have hbe:dU l bq_=0:=k4 h27; have q:=cR (b:=bq_) (r:=r) (by rw [hbe]; exact he); rw [q.1,q.2,hbe]<;>rfl)|(have q:=my he (b:=b) (by omega); rw [← hbq] at q; rw [q.1,q.2]<;>rfl)
 replace h19:=XF h19
 refine WK hK9<|aq fun _ hK12=>WS fun _ hK13=>rS (MV rfl)<|rS (FA 3 rfl dy rfl)<|rS (L1 (Value.slice bA l.aa.length bC) 2 rfl g3 rfl rfl)<|rS (LN rfl jL)<|rS (BI rfl (da ⟨by omega,by omega⟩))<|rS (CL (gh bq_ 0 (((l.aa.length:Nat):Int)-1)) (ay) rfl)<|rS (NT rfl) ?_
 refine RK hK13 ?_
 refine bj rfl (fun h27=>?_) (fun h27=>?_)
 ·replace h27:=XT h27
  refine WS fun _ hK14=>rS (SX (bp (xs:=[]) (cs:=(ae.cells (ae.mk 0 0))) rfl rfl (bq fI rfl)) rfl rfl)<|fO rfl cK rfl<|rS (AG rfl)<|RK hK14<|aE ?_
  refine hQ _ _ _ (bB (vs:=[(Value.agg (ae.cells (ae.mk 0 0)).toArray),(Value.int .i64 2)]) ⟨⟨_,rfl,.inl ⟨_,_,cp,cy (vs:=(ae.cells (ae.mk 0 0))) 0 rfl rfl,rfl,rfl⟩⟩,rfl,trivial⟩ fun w hs=>fq ?_ hs)
  show (Value.tuple [(Value.agg (ae.cells (ae.mk 0 0)).toArray),(Value.int .i64 2)].toArray)=(Value.tuple [(Value.agg (ae.cells (ct l r bq_)).toArray),(Value.int .i64 (dg l r bq_))].toArray)
  clear hs w hQ hN hK14 hK13 hK12 hK10 hK9 hK7 hK6 hK5 hK1
  first|(have e:=bZ (r:=r) (me:=dU l bq_) h14; have q:=cR (b:=bq_) (fun z=>h14 (e.symm.trans z)); rw [q.1,q.2,e]<;>rfl)|(have e:=bk (me:=dU l bq_) h14 h19; have q:=cR (b:=bq_) (fun z=>absurd (e.symm.trans z) (by decide)); rw [q.1,q.2,e]<;>rfl)|(have hbe:dU l bq_=2:=if_neg h27; have e:=dE (me:=dU l bq_) h14 h19 (by rw [hbe]; decide); have q:=cR (b:=bq_) (fun z=>absurd (e.symm.trans z) (by rw [hbe]; decide)); rw [q.1,q.2,e,hbe]<;>rfl)|(have hbe:dU l bq_=0:=k4 h27; have q:=cR (b:=bq_) (r:=r) (by rw [hbe]; exact he); rw [q.1,q.2,hbe]<;>rfl)|(have q:=my he (b:=b) (by omega); rw [← hbq] at q; rw [q.1,q.2]<;>rfl)
 replace h27:=XF h27
 refine WK hK12<|WS fun _ hK15=>rS (LW 2 rfl eO rfl rfl)<|rS (LW 1 rfl iw rfl rfl)<|cX (pT l kA kC az cA cC bA bC r sgA sgC hin hsl) (ax 3 rfl rfl<|ax 4 rfl rfl<|ax 5 rfl rfl<|ax 6 rfl rfl<|ax 7 rfl rfl<|ay) rfl fun y16 hy17=>?_
 obtain ⟨ok22,ec18,a19,c20,oz21⟩:=y16
 cases ok22
 ·obtain ⟨hec,he⟩:=hy17.2 rfl
  try dsimp only at hec he
  subst hec
  try dsimp only [cond_true,cond_false,List.cons_append,List.nil_append]
  refine rS (MV rfl)<|rS (EX rfl)<|rS (EX rfl)<|rS (AG rfl)<|rS (AG rfl)<|RK hK15<|aq fun _ hK23=>WS fun _ hK24=>rS (MV rfl)<|rS (BI rfl dB) ?_
  refine RK hK24 ?_
  refine bj rfl (fun h37=>?_) (fun h37=>?_)
  rotate_left 1
  ·replace h37:=XF h37
   exact absurd h37 he
  replace h37:=XT h37
  refine WS fun _ hK25=>rS (SX (bp (xs:=[]) (cs:=(ae.cells (ae.mk 0 0))) rfl rfl (bq fI rfl)) rfl rfl)<|rS (MV rfl)<|fO rfl cK rfl<|rS (AG rfl)<|RK hK25<|aE ?_
  refine hQ _ _ _ (bB (vs:=[(Value.agg (ae.cells (ae.mk 0 0)).toArray),(Value.int .i64 (cr l r 0))]) ⟨⟨_,rfl,.inl ⟨_,_,cp,cy (vs:=(ae.cells (ae.mk 0 0))) 0 rfl rfl,rfl,rfl⟩⟩,rfl,trivial⟩ fun w hs=>fq ?_ hs)
  show (Value.tuple [(Value.agg (ae.cells (ae.mk 0 0)).toArray),(Value.int .i64 (cr l r 0))].toArray)=(Value.tuple [(Value.agg (ae.cells (ct l r bq_)).toArray),(Value.int .i64 (dg l r bq_))].toArray)
  clear hs w hQ hN hK25 hK24 hK23 hK15 hK13 hK12 hK10 hK9 hK7 hK6 hK5 hK1
  first|(have e:=bZ (r:=r) (me:=dU l bq_) h14; have q:=cR (b:=bq_) (fun z=>h14 (e.symm.trans z)); rw [q.1,q.2,e]<;>rfl)|(have e:=bk (me:=dU l bq_) h14 h19; have q:=cR (b:=bq_) (fun z=>absurd (e.symm.trans z) (by decide)); rw [q.1,q.2,e]<;>rfl)|(have hbe:dU l bq_=2:=if_neg h27; have e:=dE (me:=dU l bq_) h14 h19 (by rw [hbe]; decide); have q:=cR (b:=bq_) (fun z=>absurd (e.symm.trans z) (by rw [hbe]; decide)); rw [q.1,q.2,e,hbe]<;>rfl)|(have hbe:dU l bq_=0:=k4 h27; have q:=cR (b:=bq_) (r:=r) (by rw [hbe]; exact he); rw [q.1,q.2,hbe]<;>rfl)|(have q:=my he (b:=b) (by omega); rw [← hbq] at q; rw [q.1,q.2]<;>rfl)
 obtain ⟨he,hoz⟩:=hy17.1 rfl
 try dsimp only [cond_true,cond_false,List.cons_append,List.nil_append]
 try dsimp only at he hoz
 obtain ⟨hle,hro,_,hnn⟩:=dW he
 obtain ⟨htr,hok⟩:=di hle
 have hhd:=hok.head
 unfold cS at hhd
 have hws:=rW hle hro
 have hwn:=hws.num
 have hrl:=hro.len
 have hrt:=hro.time
 refine rS (MV rfl)<|rS (EX rfl)<|rS (EX rfl)<|rS (AG rfl)<|rS (AG rfl)<|RK hK15<|aq fun _ hK26=>WS fun _ hK27=>rS (MV rfl)<|rS (SX (fK (r:= .bool false) rfl rfl rfl dB) rfl rfl) ?_
 refine RK hK27<|bV rfl<|WK hK26<|aq fun _ hK28=>?_
 obtain ⟨b,hbq⟩: ∃ b:Nat,bq_=((b:Nat):Int):=⟨bq_.toNat,by omega⟩
 rw [hbq]
 refine ar<|rS (MV rfl)<|rS (MV rfl)<|rS (CL (uk (cu l r) oz21 a19 c20 b (by exact hws) (by exact hoz) (by omega)) (aM (aC (n:=(cu l r).length) 0 rfl (fj hoz))<|aM (dT 1 rfl pN)<|ay) rfl)<|rS (EX rfl)<|rS (EX rfl)<|rM rfl cK rfl<|rS (AG rfl)<|RK hK28<|aE ?_
 refine hQ _ _ _ (bB (vs:=[(Value.agg (ae.cells (jE (cu l r) b)).toArray),(Value.int .i64 (ju (cu l r) b))]) ⟨⟨_,rfl,.inl ⟨_,_,cp,cy (vs:=(ae.cells (jE (cu l r) b))) 2 rfl rfl,rfl,rfl⟩⟩,rfl,trivial⟩ fun w hs=>fq ?_ hs)
 show (Value.tuple [(Value.agg (ae.cells (jE (cu l r) b)).toArray),(Value.int .i64 (ju (cu l r) b))].toArray)=(Value.tuple [(Value.agg (ae.cells (ct l r bq_)).toArray),(Value.int .i64 (dg l r bq_))].toArray)
 clear hs w hQ hN hK28 hK27 hK26 hK15 hK13 hK12 hK10 hK9 hK7 hK6 hK5 hK1
 first|(have e:=bZ (r:=r) (me:=dU l bq_) h14; have q:=cR (b:=bq_) (fun z=>h14 (e.symm.trans z)); rw [q.1,q.2,e]<;>rfl)|(have e:=bk (me:=dU l bq_) h14 h19; have q:=cR (b:=bq_) (fun z=>absurd (e.symm.trans z) (by decide)); rw [q.1,q.2,e]<;>rfl)|(have hbe:dU l bq_=2:=if_neg h27; have e:=dE (me:=dU l bq_) h14 h19 (by rw [hbe]; decide); have q:=cR (b:=bq_) (fun z=>absurd (e.symm.trans z) (by rw [hbe]; decide)); rw [q.1,q.2,e,hbe]<;>rfl)|(have hbe:dU l bq_=0:=k4 h27; have q:=cR (b:=bq_) (r:=r) (by rw [hbe]; exact he); rw [q.1,q.2,hbe]<;>rfl)|(have q:=my he (b:=b) (by omega); rw [← hbq] at q; rw [q.1,q.2]<;>rfl)
set_option maxRecDepth 100000 in
set_option maxHeartbeats 400000 in
theorem EB (l:aU) (kA:Option Addr) (kC:Nat) (az:List RA) (cA:Option Addr) (cC:Nat) (bA:Option Addr) (bC:Nat) (r:bK) (sgA:Option Addr) (sgC:Nat) (hin:dC l az) (hsl:r.ab.length≤1000000):
 eH Tryz.prog 18 [(Value.agg (aF.cells (aF.mk (au.mk (av.mk kA l.al.length kC)) l.bw (av.mk cA l.ag.length cC) (av.mk bA l.aa.length bC) l.aD l.aV l.aJ)).toArray),(Value.agg (aS.cells (aS.mk r.Start r.cI (av.mk sgA r.ab.length sgC))).toArray)] [(rd kA l.al.length 9 (l.al.map ah.cells)),(rd cA l.ag.length 2 (List.zipWith aj.cells l.ag az)),(cZ (aL aj.dX l.ag az)),(rd bA l.aa.length 4 (l.aa.map aY.cells)),(rd sgA r.ab.length 2 (r.ab.map aw.cells))] (Value.tuple [(Value.agg (ae.cells (tp l r)).toArray),(Value.int .i64 (dg l r l.aD))].toArray):=by
 have htk:=hin.nm
 have hck:=hin.nv
 have has:=hin.m_
 have hbm:=hin.nd
 refine bL Ia Tryz.func18 rfl rfl fun w0 Q hQ hN=>?_
 try dsimp only
 refine WS fun _ hK1=>fy rfl fun b2=>fy rfl fun b3=>AL rfl dF fun b4=>rS (AG rfl)<|RK hK1<|WS fun _ hK5=>rS (LW 2 rfl eO rfl rfl)<|rS (LW 1 rfl iw rfl rfl)<|cX (pT l kA kC az cA cC bA bC r sgA sgC hin hsl) (ax 3 rfl rfl<|ax 4 rfl rfl<|ax 5 rfl rfl<|ax 6 rfl rfl<|ax 7 rfl rfl<|ay) rfl fun y6 hy7=>?_
 obtain ⟨ok12,ec8,a9,c10,oz11⟩:=y6
 cases ok12
 ·obtain ⟨hec,he⟩:=hy7.2 rfl
  try dsimp only at hec he
  subst hec
  try dsimp only [cond_true,cond_false,List.cons_append,List.nil_append]
  refine rS (MV rfl)<|rS (EX rfl)<|rS (EX rfl)<|rS (AG rfl)<|rS (AG rfl)<|RK hK5<|aq fun _ hK13=>WS fun _ hK14=>rS (MV rfl)<|rS (BI rfl dB) ?_
  refine RK hK14 ?_
  refine bj rfl (fun h16=>?_) (fun h16=>?_)
  rotate_left 1
  ·replace h16:=XF h16
   exact absurd h16 he
  replace h16:=XT h16
  refine WS fun _ hK15=>rS (SX (bp (xs:=[]) (cs:=(ae.cells (ae.mk 0 0))) rfl rfl (bq fI rfl)) rfl rfl)<|rS (MV rfl)<|fO rfl cK rfl<|rS (AG rfl)<|RK hK15<|aE ?_
  refine hQ _ _ _ (bB (vs:=[(Value.agg (ae.cells (ae.mk 0 0)).toArray),(Value.int .i64 (cr l r 0))]) ⟨⟨_,rfl,.inl ⟨_,_,cp,cy (vs:=(ae.cells (ae.mk 0 0))) 0 rfl rfl,rfl,rfl⟩⟩,rfl,trivial⟩ fun w hs=>fq ?_ hs)
  show (Value.tuple [(Value.agg (ae.cells (ae.mk 0 0)).toArray),(Value.int .i64 (cr l r 0))].toArray)=(Value.tuple [(Value.agg (ae.cells (tp l r)).toArray),(Value.int .i64 (dg l r l.aD))].toArray)
  clear hs w hQ hN hK15 hK14 hK13 hK5 hK1
  first|(rw [nR (fun z=>he ((jA he).symm.trans z)),jA he]<;>rfl)|(rw [nR (fun z=>h27 (hpq.1.trans z)),← hpq.1]<;>rfl)|(rw [sX hpz,hpz])
 obtain ⟨he,hoz⟩:=hy7.1 rfl
 try dsimp only [cond_true,cond_false,List.cons_append,List.nil_append]
 try dsimp only at he hoz
 obtain ⟨hle,hro,_,hnn⟩:=dW he
 obtain ⟨htr,hok⟩:=di hle
 have hhd:=hok.head
 unfold cS at hhd
 have hws:=rW hle hro
 have hwn:=hws.num
 have hrl:=hro.len
 have hrt:=hro.time
 refine rS (MV rfl)<|rS (EX rfl)<|rS (EX rfl)<|rS (AG rfl)<|rS (AG rfl)<|RK hK5<|aq fun _ hK16=>WS fun _ hK17=>rS (MV rfl)<|rS (SX (fK (r:= .bool false) rfl rfl rfl dB) rfl rfl) ?_
 refine RK hK17<|bV rfl<|WK hK16<|aq fun _ hK18=>?_
 obtain ⟨b,hfn⟩: ∃ b:Nat,l.aD=((b:Nat):Int):=⟨l.aD.toNat,by omega⟩
 have hpq:=my he (b:=b) (by omega)
 rw [← hfn] at hpq
 rw [hfn]
 refine ar<|rS (MV rfl)<|rS (FA 4 rfl lV rfl)<|rS (L1 (Value.int .i64 ((b:Nat):Int)) 4 rfl bu rfl rfl)<|rS (CL (uk (cu l r) oz11 a9 c10 b (by exact hws) (by exact hoz) (by omega)) (aM (aC (n:=(cu l r).length) 0 rfl (fj hoz))<|aM (dT 1 rfl pN)<|ay) rfl)<|rS (MV rfl)<|rS (EX rfl)<|rS (EX rfl)<|AL rfl dF fun b19=>fO rfl cK rfl ?_
 refine rS (AG rfl)<|RK hK18<|aq fun _ hK20=>WS fun _ hK21=>rS (MV rfl)<|rS (BI rfl dB)<|RK hK21 ?_
 refine bj rfl (fun h27=>?_) (fun h27=>?_)
 ·replace h27:=XT h27
  refine WS fun _ hK22=>rS (SX (bp (xs:=[]) (cs:=(ae.cells (ae.mk 0 0))) rfl rfl (bq fI rfl)) rfl rfl)<|rS (MV rfl)<|Ev rfl cK rfl<|rS (AG rfl)<|RK hK22<|aE ?_
  refine hQ _ _ _ (bB (vs:=[(Value.agg (ae.cells (ae.mk 0 0)).toArray),(Value.int .i64 (ju (cu l r) b))]) ⟨⟨_,rfl,.inl ⟨_,_,cp,cy (vs:=(ae.cells (ae.mk 0 0))) 3 rfl rfl,rfl,rfl⟩⟩,rfl,trivial⟩ fun w hs=>fq ?_ hs)
  show (Value.tuple [(Value.agg (ae.cells (ae.mk 0 0)).toArray),(Value.int .i64 (ju (cu l r) b))].toArray)=(Value.tuple [(Value.agg (ae.cells (tp l r)).toArray),(Value.int .i64 (dg l r l.aD))].toArray)
  clear hs w hQ hN hK22 hK21 hK20 hK18 hK17 hK16 hK5 hK1
  first|(rw [nR (fun z=>he ((jA he).symm.trans z)),jA he]<;>rfl)|(rw [nR (fun z=>h27 (hpq.1.trans z)),← hpq.1]<;>rfl)|(rw [sX hpz,hpz])
 replace h27:=XF h27
 refine WK hK20<|aq fun _ hK23=>?_
 have hpz:dg l r l.aD=0:=hpq.1.symm.trans h27
 have hpb:=wi hpz
 rw [hpq.2]
 refine ar<|rS (FA 0 rfl bU rfl)<|rS (L1 (Value.int .i64 ((ct l r l.aD).Lo)) 0 rfl bu rfl rfl)<|rS (FA 0 rfl jr rfl)<|rS (L1 (Value.int .i64 r.Start) 4 rfl bu rfl rfl)<|rS (BI rfl (da ⟨by omega,by omega⟩))<|rS (FA 1 rfl cd rfl)<|rS (L1 (Value.int .i64 ((ct l r l.aD).Hi)) 0 rfl bu rfl rfl)<|rS (FA 0 rfl jr rfl)<|rS (L1 (Value.int .i64 r.Start) 4 rfl bu rfl rfl) ?_
 refine rS (BI rfl (da ⟨by omega,by omega⟩))<|rS (SX (bp (xs:=[(0,.tmp 34),(1,.tmp 39)]) (cs:=(ae.cells (ae.mk (((ct l r l.aD).Lo)-r.Start) (((ct l r l.aD).Hi)-r.Start)))) rfl rfl (bq fI rfl)) rfl rfl)<|Ev rfl cK rfl<|rS (AG rfl)<|RK hK23<|aE ?_
 refine hQ _ _ _ (bB (vs:=[(Value.agg (ae.cells (ae.mk (((ct l r l.aD).Lo)-r.Start) (((ct l r l.aD).Hi)-r.Start))).toArray),(Value.int .i64 0)]) ⟨⟨_,rfl,.inl ⟨_,_,cp,cy (vs:=(ae.cells (ae.mk (((ct l r l.aD).Lo)-r.Start) (((ct l r l.aD).Hi)-r.Start)))) 3 rfl rfl,rfl,rfl⟩⟩,rfl,trivial⟩ fun w hs=>fq ?_ hs)
 show (Value.tuple [(Value.agg (ae.cells (ae.mk (((ct l r l.aD).Lo)-r.Start) (((ct l r l.aD).Hi)-r.Start))).toArray),(Value.int .i64 0)].toArray)=(Value.tuple [(Value.agg (ae.cells (tp l r)).toArray),(Value.int .i64 (dg l r l.aD))].toArray)
 clear hs w hQ hN hK23 hK21 hK20 hK18 hK17 hK16 hK5 hK1
 first|(rw [nR (fun z=>he ((jA he).symm.trans z)),jA he]<;>rfl)|(rw [nR (fun z=>h27 (hpq.1.trans z)),← hpq.1]<;>rfl)|(rw [sX hpz,hpz])
set_option maxRecDepth 100000 in
set_option maxHeartbeats 400000 in
theorem wX (la:List aw) (laA:Option Addr) (laC:Nat) (lb:List aw) (lbA:Option Addr) (lbC:Nat) (h1:la.length≤1000000) (h2:lb.length≤1000000):
 eH Tryz.prog 24 [(Value.slice laA la.length laC),(Value.slice lbA lb.length lbC)] [(rd laA la.length 2 (la.map aw.cells)),(rd lbA lb.length 2 (lb.map aw.cells))] (Value.bool (decide (la=lb))):=by
 refine bL Hm Tryz.func24 rfl rfl fun w0 Q hQ hN=>?_
 try dsimp only
 refine WS fun _ hK1=>rS (AG rfl)<|RK hK1<|aq fun _ hK2=>WS fun _ hK3=>rS (MV rfl)<|rS (LN rfl nB)<|rS (MV rfl)<|rS (LN rfl nB)<|rS (BI rfl dB) ?_
 refine RK hK3 ?_
 refine bj rfl (fun hl=>?_) (fun hl=>?_)
 ·replace hl:=XT hl
  refine WS fun _ hK4=>rS (AG rfl)<|RK hK4<|aE<|Q1 hQ rfl rfl rfl ?_
  first|exact congrArg Value.bool (decide_eq_false (jK hx hy h)).symm|exact congrArg Value.bool (decide_eq_true (cB (by omega) hl4_1 (by omega))).symm|exact congrArg Value.bool (decide_eq_false (fun e=>by subst e; omega)).symm
 replace hl:=XF hl
 refine WK hK2<|aq fun _ hK5=>WS fun _ hK6=>rS (AG rfl)<|RK hK6<|aG ?_
 have hinit:(0≤la.length)∧(la.take 0=lb.take 0):=by simp
 refine cq (ι:={z:Nat // (z≤la.length)∧(la.take z=lb.take z)}) (fun z=>[(0,(Value.slice laA la.length laC)),(1,(Value.slice lbA lb.length lbC)),(5,(Value.int .i64 ((z.1:Nat):Int)))]) (fun z=>[(rd laA la.length 2 (la.map aw.cells)).ro,(rd lbA lb.length 2 (lb.map aw.cells)).ro]) (fun z=>la.length-z.1) ⟨0,hinit⟩ (an.cons rfl<|an.cons rfl<|an.cons rfl<|an.nil _) (fun w hs=>St.br [0,1] rfl rfl hs) ?_
 clear hinit
 rintro ⟨i,⟨hl4_0,hl4_1⟩⟩ J7 hJ7
 try dsimp only
 refine aq fun _ hK8=>WS fun _ hK9=>rS (MV rfl)<|rS (MV rfl)<|rS (LN rfl nB)<|rS (BI rfl cv)<|RK hK9 ?_
 refine bj rfl (fun h10=>?_) (fun h10=>?_)
 rotate_left 1
 ·replace h10:=DF h10
  refine bE<|ai<|ai<|aH<|KK hK5<|WS fun _ hK15=>rS (AG rfl)<|RK hK15<|aE<|Q1 hQ rfl rfl rfl ?_
  first|exact congrArg Value.bool (decide_eq_false (jK hx hy h)).symm|exact congrArg Value.bool (decide_eq_true (cB (by omega) hl4_1 (by omega))).symm|exact congrArg Value.bool (decide_eq_false (fun e=>by subst e; omega)).symm
 replace h10:=DT h10
 refine WK hK8<|aq fun _ hK11=>aG<|aq fun _ hK12=>dm cG 9 (by kernel_rfl)<|dS (MV rfl)<|dS (MV rfl) ?_
 obtain ⟨x,hx⟩: ∃ y_,la[i]? =some y_:=⟨la[i]'(by omega),List.getElem?_eq_getElem _⟩
 have hxm:(la.map aw.cells)[i]? =some (aw.cells x):=by rw [List.getElem?_map,hx]; rfl
 refine dS (IA i rfl (aI 0 rfl) sU (by decide) (by omega) (by omega))<|dS (lF i 0 (aw.cells x) rfl mO (aI 0 rfl) hxm rfl (by decide) rfl rfl)<|dS (MV rfl)<|dS (MV rfl) ?_
 obtain ⟨y,hy⟩: ∃ y_,lb[i]? =some y_:=⟨lb[i]'(by omega),List.getElem?_eq_getElem _⟩
 have hym:(lb.map aw.cells)[i]? =some (aw.cells y):=by rw [List.getElem?_map,hy]; rfl
 refine dS (IA i rfl (aI 1 rfl) sU (by decide) (by omega) (by omega))<|dS (lF i 0 (aw.cells y) rfl mO (aI 1 rfl) hym rfl (by decide) rfl rfl)<|dS (BI rfl (Fy _ _ x y))<|cP<|RK hK12 ?_
 refine bj rfl (fun h=>?_) (fun h=>?_)
 ·replace h:=XT h
  refine WS fun _ hK13=>rS (AG rfl)<|RK hK13<|aE<|Q1 hQ rfl rfl rfl ?_
  first|exact congrArg Value.bool (decide_eq_false (jK hx hy h)).symm|exact congrArg Value.bool (decide_eq_true (cB (by omega) hl4_1 (by omega))).symm|exact congrArg Value.bool (decide_eq_false (fun e=>by subst e; omega)).symm
 replace h:=XF h
 refine cM<|aK<|KK hK11<|ar<|rS (MV rfl)<|rS (BI rfl (aZ ⟨by omega,by omega⟩))<|rS (AG rfl)<|aP ?_
 have hb14:(Value.int .i64 (((i+1):Nat):Int))=(Value.int .i64 (((i:Nat):Int)+1)):=by exact congrArg (Value.int .i64) (by omega)
 refine aO (hJ7 ⟨(i+1),⟨by omega,jy hl4_1 hx hy h⟩⟩ _ _ _ rfl (by first|omega|(simp; omega)) (an.cons rfl<|an.cons rfl<|aQ rfl hb14<|an.nil _) (fun w hs=>St.br [0,1] rfl rfl hs))
end
section
open Go.RowKit
set_option linter.unusedVariables false
set_option maxRecDepth 100000 in
set_option maxHeartbeats 4000000 in
theorem vg (l:aU) (kA:Option Addr) (kC:Nat) (az:List RA) (cA:Option Addr) (cC:Nat) (bA:Option Addr) (bC:Nat) (r:bK) (sgA:Option Addr) (sgC:Nat) (one:Int) (hraw:pw l az) (hrr:r.ab.length≤9223372036854775807):
 eH Tryz.prog 3 [(Value.agg (aF.cells (aF.mk (au.mk (av.mk kA l.al.length kC)) l.bw (av.mk cA l.ag.length cC) (av.mk bA l.aa.length bC) l.aD l.aV l.aJ)).toArray),(Value.agg (aS.cells (aS.mk r.Start r.cI (av.mk sgA r.ab.length sgC))).toArray),(Value.int .i64 one)] [(rd kA l.al.length 9 (l.al.map ah.cells)),(rd cA l.ag.length 2 (List.zipWith aj.cells l.ag az)),(cZ (aL aj.dX l.ag az)),(rd bA l.aa.length 4 (l.aa.map aY.cells)),(rd sgA r.ab.length 2 (r.ab.map aw.cells))] (Value.bool true):=by
 refine bL Jy Tryz.func3 rfl rfl fun w0 Q hQ hN=>?_
 try dsimp only
 refine WS fun _ hK1=>fy rfl fun b2=>fy rfl fun b3=>rS (AG rfl)<|RK hK1<|aq fun _ hK4=>WS fun _ hK5=>rS (LW 1 rfl eO rfl rfl)<|rS (CL (Bf l kA kC az cA cC bA bC hraw) (ax 2 rfl rfl<|ax 3 rfl rfl<|ax 4 rfl rfl<|ax 5 rfl rfl<|ay) rfl)<|rS (MV rfl) ?_
 refine bH (t:=31) rfl (fun h31=>?_) (fun h31=>?_)
 ·replace h31:=DT h31
  refine rS (OX rfl)<|rS (OX rfl)<|rS (OX rfl)<|rS (OX rfl)<|rS (PK rfl)<|RK hK5<|aX rfl<|WS fun _ hK6=>rS (AG rfl)<|RK hK6 ?_
  refine aE<|Q1 hQ rfl rfl rfl ?_
  first|rfl|exact congrArg Value.bool (decide_eq_true rfl)
 replace h31:=DF h31
 refine rS (FA 2 rfl gd rfl)<|rS (L1 (Value.slice sgA r.ab.length sgC) 0 rfl lh rfl rfl)<|rS (LN rfl nB)<|rS (BI rfl fY)<|rS (PK rfl)<|RK hK5 ?_
 refine bj rfl (fun h36=>?_) (fun h36=>?_)
 ·replace h36:=DT h36
  refine WS fun _ hK7=>rS (AG rfl)<|RK hK7<|aE<|Q1 hQ rfl rfl rfl ?_
  first|rfl|exact congrArg Value.bool (decide_eq_true rfl)
 replace h36:=DF h36
 refine WK hK4 ?_
 have hin:=hraw.small h31
 have hrl15:r.ab.length≤15:=by omega
 have hbm:=hin.nd
 refine mT (ι:={z:Nat×(Option Addr)×Nat×(Option Addr)×Nat×(List RA)×(Option Addr)×Nat×Nat×(Option Addr)×Nat // (z.2.2.2.2.2.1.length=l.ag.length)∧(sl l.ag z.2.2.2.2.2.1)}) (fun z=>[(2,(Value.int .i64 one)),(3,(Value.pointer (some ⟨b2,0,none⟩))),(4,(Value.pointer (some ⟨b3,0,none⟩))),(7,(Value.pointer (some ⟨z.1.1,0,none⟩))),(8,(Value.pointer (some ⟨z.1.2.2.2.2.2.2.2.2.1,0,none⟩)))]) (fun z=>[(own z.1.2.1 z.1.2.2.1 141 9 (l.al.map ah.cells)),(own z.1.2.2.2.1 z.1.2.2.2.2.1 63 2 (List.zipWith aj.cells l.ag z.1.2.2.2.2.2.1)),(a5 (aL aj.owns l.ag z.1.2.2.2.2.2.1)),(own z.1.2.2.2.2.2.2.1 z.1.2.2.2.2.2.2.2.1 101 4 (l.aa.map aY.cells)),(own z.1.2.2.2.2.2.2.2.2.2.1 z.1.2.2.2.2.2.2.2.2.2.2 67 2 (r.ab.map aw.cells)),(aT z.1.1 28 (aF.cells (aF.mk (au.mk (av.mk z.1.2.1 l.al.length z.1.2.2.1)) l.bw (av.mk z.1.2.2.2.1 l.ag.length z.1.2.2.2.2.1) (av.mk z.1.2.2.2.2.2.2.1 l.aa.length z.1.2.2.2.2.2.2.2.1) l.aD l.aV l.aJ))),(aT z.1.2.2.2.2.2.2.2.2.1 31 (aS.cells (aS.mk r.Start r.cI (av.mk z.1.2.2.2.2.2.2.2.2.2.1 r.ab.length z.1.2.2.2.2.2.2.2.2.2.2)))),(aT b3 31 (aS.cells (aS.mk r.Start r.cI (av.mk sgA r.ab.length sgC)))),(aT b2 28 (aF.cells (aF.mk (au.mk (av.mk kA l.al.length kC)) l.bw (av.mk cA l.ag.length cC) (av.mk bA l.aa.length bC) l.aD l.aV l.aJ))),(rd kA l.al.length 9 (l.al.map ah.cells)).ro,(rd cA l.ag.length 2 (List.zipWith aj.cells l.ag az)).ro,(cZ (aL aj.dX l.ag az)).ro,(rd bA l.aa.length 4 (l.aa.map aY.cells)).ro,(rd sgA r.ab.length 2 (r.ab.map aw.cells)).ro]) ?_ fun K8 hK8=>?_
 ·rintro ⟨⟨ga,a1,c1,a2,c2,bz,a3,c3,gb,a4,c4⟩,⟨hjK8_0,hjK8_1⟩⟩
  try dsimp only at hjK8_0 hjK8_1
  try dsimp only
  have hbz:=hjK8_0
  have hcp:=hjK8_1
  have hin2:=hin.HP hbz hcp
  refine WS fun _ hK9=>rS (LW 5 rfl eO rfl rfl)<|rS (LW 6 rfl iw rfl rfl)<|cX (yh l a1 c1 bz a2 c2 a3 c3 r a4 c4 (by first|assumption|omega|(simp; done)|(simp; omega)) (by first|assumption|omega|(simp; done)|(simp; omega))) (aM (aC (n:=l.al.length) 0 rfl (by simp))<|aM (aC (n:=l.ag.length) 1 rfl (iO hbz))<|aM (dT 2 rfl lv)<|aM (aC (n:=l.aa.length) 3 rfl (by simp))<|aM (aC (n:=r.ab.length) 4 rfl (by simp))<|ay) rfl fun y10 hy11=>?_
  obtain ⟨a12,c13⟩:=y10
  try dsimp only
  refine rS (MV rfl)<|rS (EX rfl)<|rS (EX rfl)<|rS (AG rfl)<|rS (AG rfl)<|RK hK9<|WS fun _ hK14=>rS (LW 9 rfl eO rfl rfl)<|rS (LW 8 rfl iw rfl rfl)<|cX (wh l kA kC az cA cC bA bC r sgA sgC (by first|assumption|omega|(simp; done)|(simp; omega)) (by first|assumption|omega|(simp; done)|(simp; omega))) (ax 10 rfl rfl<|ax 11 rfl rfl<|ax 12 rfl rfl<|ax 13 rfl rfl<|ax 14 rfl rfl<|ay) rfl fun y15 hy16=>?_
  obtain ⟨a17,c18⟩:=y15
  try dsimp only
  refine rS (MV rfl)<|rS (EX rfl)<|rS (EX rfl)<|rS (AG rfl)<|rS (AG rfl)<|RK hK14<|WS fun _ hK19=>rS (LW 7 rfl eO rfl rfl)<|rS (LW 8 rfl iw rfl rfl)<|rS (CL (BY l a1 c1 bz a2 c2 a3 c3 r a4 c4 (by first|assumption|omega|(simp; done)|(simp; omega)) (by first|assumption|omega|(simp; done)|(simp; omega))) (aM (aC (n:=l.al.length) 2 rfl (by simp))<|aM (aC (n:=l.ag.length) 3 rfl (iO hbz))<|aM (dT 4 rfl lv)<|aM (aC (n:=l.aa.length) 5 rfl (by simp))<|aM (aC (n:=r.ab.length) 6 rfl (by simp))<|ay) rfl) ?_
  refine rS (MV rfl)<|rS (EX rfl)<|rS (EX rfl)<|rS (AG rfl)<|rS (AG rfl)<|RK hK19<|WS fun _ hK20=>rS (LW 10 rfl eO rfl rfl)<|rS (LW 9 rfl iw rfl rfl)<|rS (CL (Ag l kA kC az cA cC bA bC r sgA sgC (by first|assumption|omega|(simp; done)|(simp; omega)) (by first|assumption|omega|(simp; done)|(simp; omega))) (ax 11 rfl rfl<|ax 12 rfl rfl<|ax 13 rfl rfl<|ax 14 rfl rfl<|ax 15 rfl rfl<|ay) rfl) ?_
  refine rS (MV rfl)<|rS (EX rfl)<|rS (EX rfl)<|rS (AG rfl)<|rS (AG rfl)<|RK hK20<|aq fun _ hK21=>WS fun _ hK22=>rS (MV rfl)<|rS (MV rfl) ?_
  refine rS (CL (pb (bR l r) a12 c13 (bR l r) a17 c18 (by exact Nat.le_trans kf (by decide)) (by exact Nat.le_trans kf (by decide))) (aM (aC (n:=(bR l r).length) 1 rfl (by simp))<|aM (aC (n:=(bR l r).length) 0 rfl (by simp))<|ay) rfl)<|rS (NT rfl)<|rS (MV rfl) ?_
  refine bH (t:=69) rfl (fun h69=>?_) (fun h69=>?_)
  ·replace h69:=XT h69
   exact absurd rfl h69
  replace h69:=XF h69
  refine rS (MV rfl)<|rS (MV rfl)<|rS (BI rfl dB)<|rS (PK rfl)<|rS (MV rfl) ?_
  refine bH (t:=74) rfl (fun h74=>?_) (fun h74=>?_)
  ·replace h74:=XT h74
   exact absurd rfl h74
  replace h74:=XF h74
  refine rS (MV rfl)<|rS (MV rfl)<|rS (BI rfl dB)<|rS (PK rfl)<|rS (MV rfl) ?_
  refine bH (t:=79) rfl (fun h79=>?_) (fun h79=>?_)
  ·replace h79:=XT h79
   exact absurd rfl h79
  replace h79:=XF h79
  refine rS (MV rfl)<|rS (MV rfl)<|rS (BI rfl dB)<|rS (PK rfl)<|RK hK22 ?_
  refine bj rfl (fun h83=>?_) (fun h83=>?_)
  ·replace h83:=XT h83
   exact absurd rfl h83
  replace h83:=XF h83
  refine WK hK21<|WS fun _ hK23=>rS (LW 7 rfl eO rfl rfl)<|rS (LW 8 rfl iw rfl rfl)<|rS (MV rfl)<|rS (CL (vX l a1 c1 bz a2 c2 a3 c3 r a4 c4 one (by first|assumption|omega|(simp; done)|(simp; omega)) (by first|assumption|omega|(simp; done)|(simp; omega))) (aM (aC (n:=l.al.length) 2 rfl (by simp))<|aM (aC (n:=l.ag.length) 3 rfl (iO hbz))<|aM (dT 4 rfl lv)<|aM (aC (n:=l.aa.length) 5 rfl (by simp))<|aM (aC (n:=r.ab.length) 6 rfl (by simp))<|ay) rfl)<|rS (MV rfl)<|rS (EX rfl)<|rS (EX rfl)<|AL rfl dF fun b24=>?_
  refine fO rfl cK rfl<|rS (AG rfl)<|RK hK23<|WS fun _ hK25=>rS (LW 11 rfl eO rfl rfl)<|rS (LW 10 rfl iw rfl rfl)<|rS (MV rfl)<|rS (CL (yY l kA kC az cA cC bA bC r sgA sgC one (by first|assumption|omega|(simp; done)|(simp; omega)) (by first|assumption|omega|(simp; done)|(simp; omega))) (ax 12 rfl rfl<|ax 13 rfl rfl<|ax 14 rfl rfl<|ax 15 rfl rfl<|ax 16 rfl rfl<|ay) rfl)<|rS (MV rfl)<|rS (EX rfl) ?_
  refine rS (EX rfl)<|AL rfl dF fun b26=>fO rfl cK rfl<|rS (AG rfl)<|RK hK25<|WS fun _ hK27=>rS (LW 9 rfl eO rfl rfl)<|rS (LW 10 rfl iw rfl rfl)<|rS (CL (FD l a1 c1 bz a2 c2 a3 c3 r a4 c4 (by first|assumption|omega|(simp; done)|(simp; omega)) (by first|assumption|omega|(simp; done)|(simp; omega))) (aM (aC (n:=l.al.length) 4 rfl (by simp))<|aM (aC (n:=l.ag.length) 5 rfl (iO hbz))<|aM (dT 6 rfl lv)<|aM (aC (n:=l.aa.length) 7 rfl (by simp))<|aM (aC (n:=r.ab.length) 8 rfl (by simp))<|ay) rfl)<|rS (MV rfl) ?_
  refine rS (EX rfl)<|rS (EX rfl)<|AL rfl dF fun b28=>fO rfl cK rfl<|rS (AG rfl)<|RK hK27<|WS fun _ hK29=>rS (LW 13 rfl eO rfl rfl)<|rS (LW 12 rfl iw rfl rfl)<|rS (CL (EB l kA kC az cA cC bA bC r sgA sgC (by first|assumption|omega|(simp; done)|(simp; omega)) (by first|assumption|omega|(simp; done)|(simp; omega))) (ax 14 rfl rfl<|ax 15 rfl rfl<|ax 16 rfl rfl<|ax 17 rfl rfl<|ax 18 rfl rfl<|ay) rfl) ?_
  refine rS (MV rfl)<|rS (EX rfl)<|rS (EX rfl)<|AL rfl dF fun b30=>fO rfl cK rfl<|rS (AG rfl)<|RK hK29<|WS fun _ hK31=>rS (LW 11 rfl eO rfl rfl)<|rS (LW 12 rfl iw rfl rfl) ?_
  refine cX (CE l a1 c1 bz a2 c2 a3 c3 r a4 c4 (by first|assumption|omega|(simp; done)|(simp; omega)) (by first|assumption|omega|(simp; done)|(simp; omega))) (aM (aC (n:=l.al.length) 6 rfl (by simp))<|aM (aC (n:=l.ag.length) 7 rfl (iO hbz))<|aM (dT 8 rfl lv)<|aM (aC (n:=l.aa.length) 9 rfl (by simp))<|aM (aC (n:=r.ab.length) 10 rfl (by simp))<|ay) rfl fun y32 hy33=>?_
  obtain ⟨a34,c35⟩:=y32
  try dsimp only
  refine rS (MV rfl)<|rS (EX rfl)<|rS (EX rfl)<|rS (AG rfl)<|rS (AG rfl)<|RK hK31<|WS fun _ hK36=>rS (LW 15 rfl eO rfl rfl)<|rS (LW 14 rfl iw rfl rfl)<|cX (Al l kA kC az cA cC bA bC r sgA sgC (by first|assumption|omega|(simp; done)|(simp; omega)) (by first|assumption|omega|(simp; done)|(simp; omega))) (ax 16 rfl rfl<|ax 17 rfl rfl<|ax 18 rfl rfl<|ax 19 rfl rfl<|ax 20 rfl rfl<|ay) rfl fun y37 hy38=>?_
  obtain ⟨a39,c40⟩:=y37
  try dsimp only
  refine rS (MV rfl)<|rS (EX rfl)<|rS (EX rfl)<|rS (AG rfl)<|rS (AG rfl)<|RK hK36<|WS fun _ hK41=>rS (LW 13 rfl eO rfl rfl)<|rS (LW 14 rfl iw rfl rfl)<|cX (Ax l a1 c1 bz a2 c2 a3 c3 r a4 c4 (by first|assumption|omega|(simp; done)|(simp; omega)) (by first|assumption|omega|(simp; done)|(simp; omega))) (aM (aC (n:=l.al.length) 8 rfl (by simp))<|aM (aC (n:=l.ag.length) 9 rfl (iO hbz))<|aM (dT 10 rfl lv)<|aM (aC (n:=l.aa.length) 11 rfl (by simp))<|aM (aC (n:=r.ab.length) 12 rfl (by simp))<|ay) rfl fun y42 hy43=>?_
  obtain ⟨a44,c45⟩:=y42
  try dsimp only
  refine rS (MV rfl)<|rS (EX rfl)<|rS (EX rfl)<|rS (AG rfl)<|rS (AG rfl)<|RK hK41<|WS fun _ hK46=>rS (LW 17 rfl eO rfl rfl)<|rS (LW 16 rfl iw rfl rfl)<|cX (yD l kA kC az cA cC bA bC r sgA sgC (by first|assumption|omega|(simp; done)|(simp; omega)) (by first|assumption|omega|(simp; done)|(simp; omega))) (ax 18 rfl rfl<|ax 19 rfl rfl<|ax 20 rfl rfl<|ax 21 rfl rfl<|ax 22 rfl rfl<|ay) rfl fun y47 hy48=>?_
  obtain ⟨a49,c50⟩:=y47
  try dsimp only
  refine rS (MV rfl)<|rS (EX rfl)<|rS (EX rfl)<|rS (AG rfl)<|rS (AG rfl)<|RK hK46<|WS fun _ hK51=>rS (LW 7 rfl cp rfl rfl)<|rS (LW 6 rfl cp rfl rfl)<|rS (BI rfl (yo _ _ (ct l r one) (ct l r one))) ?_
  refine rS (MV rfl) ?_
  refine bH (t:=137) rfl (fun h52=>?_) (fun h52=>?_)
  rotate_left 1
  ·replace h52:=DF h52
   exact absurd rfl h52
  replace h52:=DT h52
  refine rS (MV rfl)<|rS (MV rfl)<|rS (BI rfl g0)<|rS (PK rfl)<|rS (MV rfl) ?_
  refine bH (t:=142) rfl (fun h53=>?_) (fun h53=>?_)
  rotate_left 1
  ·replace h53:=DF h53
   exact absurd rfl h53
  replace h53:=DT h53
  refine rS (LW 5 rfl cp rfl rfl)<|rS (LW 4 rfl cp rfl rfl)<|rS (BI rfl (yo _ _ (tp l r) (tp l r)))<|rS (PK rfl)<|rS (MV rfl) ?_
  refine bH (t:=147) rfl (fun h54=>?_) (fun h54=>?_)
  rotate_left 1
  ·replace h54:=DF h54
   exact absurd rfl h54
  replace h54:=DT h54
  refine rS (MV rfl)<|rS (MV rfl)<|rS (BI rfl g0)<|rS (PK rfl)<|rS (MV rfl) ?_
  refine bH (t:=152) rfl (fun h55=>?_) (fun h55=>?_)
  rotate_left 1
  ·replace h55:=DF h55
   exact absurd rfl h55
  replace h55:=DT h55
  refine rS (MV rfl)<|rS (MV rfl)<|rS (CL (pb (ik l r) a34 c35 (ik l r) a39 c40 (by exact Nat.le_trans s_ (by omega)) (by exact Nat.le_trans s_ (by omega))) (aM (aC (n:=(ik l r).length) 3 rfl (by simp))<|aM (aC (n:=(ik l r).length) 2 rfl (by simp))<|ay) rfl)<|rS (PK rfl)<|rS (MV rfl) ?_
  refine bH (t:=157) rfl (fun h56=>?_) (fun h56=>?_)
  rotate_left 1
  ·replace h56:=DF h56
   exact absurd rfl h56
  replace h56:=DT h56
  refine rS (MV rfl)<|rS (MV rfl)<|rS (BI rfl g0)<|rS (PK rfl)<|rS (MV rfl) ?_
  refine bH (t:=162) rfl (fun h57=>?_) (fun h57=>?_)
  rotate_left 1
  ·replace h57:=DF h57
   exact absurd rfl h57
  replace h57:=DT h57
  refine rS (MV rfl)<|rS (MV rfl)<|rS (CL (pb (fr l r) a44 c45 (fr l r) a49 c50 (by exact Nat.le_trans qV (by omega)) (by exact Nat.le_trans qV (by omega))) (aM (aC (n:=(fr l r).length) 1 rfl (by simp))<|aM (aC (n:=(fr l r).length) 0 rfl (by simp))<|ay) rfl)<|rS (PK rfl)<|rS (MV rfl) ?_
  refine bH (t:=167) rfl (fun h58=>?_) (fun h58=>?_)
  rotate_left 1
  ·replace h58:=DF h58
   exact absurd rfl h58
  replace h58:=DT h58
  refine rS (MV rfl)<|rS (MV rfl)<|rS (BI rfl g0)<|rS (PK rfl)<|rS (MV rfl) ?_
  refine bH (t:=172) rfl (fun h59=>?_) (fun h59=>?_)
  rotate_left 1
  ·replace h59:=DF h59
   exact absurd rfl h59
  replace h59:=DT h59
  refine rS (LW 15 rfl eO rfl rfl)<|rS (LW 18 rfl eO rfl rfl)<|rS (CL (BZ l a1 c1 bz a2 c2 a3 c3 l kA kC az cA cC bA bC (by first|assumption|omega|(simp; done)|(simp; omega)) (by first|assumption|omega|(simp; done)|(simp; omega)) (by first|assumption|omega|(simp; done)|(simp; omega)) (by first|assumption|omega|(simp; done)|(simp; omega))) (aM (aC (n:=l.al.length) 10 rfl (by simp))<|aM (aC (n:=l.ag.length) 11 rfl (iO hbz))<|aM (dT 12 rfl lv)<|aM (aC (n:=l.aa.length) 13 rfl (by simp))<|ax 19 rfl rfl<|ax 20 rfl rfl<|ax 21 rfl rfl<|ax 22 rfl rfl<|ay) rfl)<|rS (PK rfl)<|rS (MV rfl) ?_
  refine bH (t:=177) rfl (fun h60=>?_) (fun h60=>?_)
  rotate_left 1
  ·replace h60:=DF h60
   exact absurd rfl h60
  replace h60:=DT h60
  refine rS (FA 0 rfl jr rfl)<|rS (L1 (Value.int .i64 r.Start) 16 rfl bu rfl rfl)<|rS (FA 0 rfl jr rfl)<|rS (L1 (Value.int .i64 r.Start) 17 rfl bu rfl rfl)<|rS (BI rfl g0)<|rS (PK rfl)<|rS (MV rfl) ?_
  refine bH (t:=184) rfl (fun h61=>?_) (fun h61=>?_)
  rotate_left 1
  ·replace h61:=DF h61
   exact absurd rfl h61
  replace h61:=DT h61
  refine rS (FA 1 rfl lY rfl)<|rS (L1 (Value.int .i64 r.cI) 16 rfl bu rfl rfl)<|rS (FA 1 rfl lY rfl)<|rS (L1 (Value.int .i64 r.cI) 17 rfl bu rfl rfl)<|rS (BI rfl g0)<|rS (PK rfl)<|rS (MV rfl) ?_
  refine bH (t:=191) rfl (fun h62=>?_) (fun h62=>?_)
  rotate_left 1
  ·replace h62:=DF h62
   exact absurd rfl h62
  replace h62:=DT h62
  refine rS (FA 2 rfl gd rfl)<|rS (L1 (Value.slice a4 r.ab.length c4) 16 rfl lh rfl rfl)<|rS (FA 2 rfl gd rfl)<|rS (L1 (Value.slice sgA r.ab.length sgC) 17 rfl lh rfl rfl)<|rS (CL (wX r.ab a4 c4 r.ab sgA sgC (by first|assumption|omega|(simp; done)|(simp; omega)) (by first|assumption|omega|(simp; done)|(simp; omega))) (aM (aC (n:=r.ab.length) 14 rfl (by simp))<|ax 23 rfl rfl<|ay) rfl)<|rS (PK rfl)<|rS (AG rfl)<|RK hK51<|aE<|Q1 hQ rfl rfl rfl ?_
  first|rfl|exact congrArg Value.bool (decide_eq_true rfl)
 refine lJ cG [0,2] [1,3,4,5,6,7] [false,false] [] [(aT b3 31 (aS.cells (aS.mk r.Start r.cI (av.mk sgA r.ab.length sgC)))),(aT b2 28 (aF.cells (aF.mk (au.mk (av.mk kA l.al.length kC)) l.bw (av.mk cA l.ag.length cC) (av.mk bA l.aa.length bC) l.aD l.aV l.aJ))),(rd kA l.al.length 9 (l.al.map ah.cells)).ro,(rd cA l.ag.length 2 (List.zipWith aj.cells l.ag az)).ro,(cZ (aL aj.dX l.ag az)).ro,(rd bA l.aa.length 4 (l.aa.map aY.cells)).ro,(rd sgA r.ab.length 2 (r.ab.map aw.cells)).ro] [] (by kernel_rfl) (fun w hs=>St.br [0,1,2,3,4,5,6] rfl rfl hs) (fun w hs=>St.br [] rfl rfl hs)<|eS rfl (LW 1 rfl eO rfl rfl)<|eS rfl (LW 0 rfl iw rfl rfl)<|fw rfl ?_
 refine hO [1,4,5] (by kernel_rfl) (dI ?_<|dI ?_<|dI ?_<|jM)
 rotate_left 1
 ·refine NO rfl rfl [1,3,5,6,7] fun T9 hT9=>?_
  refine AL rfl tG fun b10=>RD hT9 1 rfl ?_
  refine hO [1,5] (by kernel_rfl) (dI ?_<|dI ?_<|jM)
  rotate_left 1
  ·refine NO rfl rfl [1,3,6,7] fun T11 hT11=>?_
   refine AL rfl tL fun b12=>RD hT11 2 rfl<|N1 1<|NO rfl rfl [3,6,7] fun T13 hT13=>cX (pg l kA kC az cA cC bA bC (by exact hin) (by exact h31)) (ax 4 rfl rfl<|ax 5 rfl rfl<|ax 6 rfl rfl<|ax 7 rfl rfl<|ay) rfl fun y14 hy15=>?_
   obtain ⟨a116,c117,a218,c219,bz20,a321,c322⟩:=y14
   try dsimp only
   obtain ⟨hbz,hcp⟩:=hy15
   refine RD hT13 6 rfl<|N1 3<|NO rfl rfl [6,7] fun T23 hT23=>cX (jH r sgA sgC (by omega)) (ax 12 rfl rfl<|ay) rfl fun y24 hy25=>?_
   obtain ⟨a26,c27⟩:=y24
   try dsimp only
   refine RD hT23 7 rfl<|N1 6<|NO rfl rfl [7] fun T28 hT28=>E_ rfl qo rfl<|RD hT28 7 rfl<|N1 7<|NO rfl rfl [] fun T29 hT29=>Fb rfl qs rfl<|RD hT29 7 rfl ?_
   refine g8 (aO (e7 (jh rfl) (fun w hs=>St.br [1,2,3,4,0,6,5,7,8,9,10,11,12,13] rfl rfl hs) (hK8 ⟨(b10,a116,c117,a218,c219,bz20,a321,c322,b12,a26,c27),⟨hbz,hcp⟩⟩)))
  refine NO rfl rfl [3,5,6,7] fun T11 hT11=>cX (pg l kA kC az cA cC bA bC (by exact hin) (by exact h31)) (ax 3 rfl rfl<|ax 4 rfl rfl<|ax 5 rfl rfl<|ax 6 rfl rfl<|ay) rfl fun y12 hy13=>?_
  obtain ⟨a114,c115,a216,c217,bz18,a319,c320⟩:=y12
  try dsimp only
  obtain ⟨hbz,hcp⟩:=hy13
  refine RD hT11 5 rfl ?_
  refine hO [3,5] (by kernel_rfl) (dI ?_<|dI ?_<|jM)
  rotate_left 1
  ·refine NO rfl rfl [3,6,7] fun T21 hT21=>?_
   refine AL rfl tL fun b22=>RD hT21 6 rfl<|N1 3<|NO rfl rfl [6,7] fun T23 hT23=>cX (jH r sgA sgC (by omega)) (ax 12 rfl rfl<|ay) rfl fun y24 hy25=>?_
   obtain ⟨a26,c27⟩:=y24
   try dsimp only
   refine RD hT23 7 rfl<|N1 6<|NO rfl rfl [7] fun T28 hT28=>E_ rfl qo rfl<|RD hT28 7 rfl<|N1 7<|NO rfl rfl [] fun T29 hT29=>nk rfl qs rfl<|RD hT29 7 rfl ?_
   refine g8 (aO (e7 (jh rfl) (fun w hs=>St.br [2,3,4,5,0,6,1,7,8,9,10,11,12,13] rfl rfl hs) (hK8 ⟨(b10,a114,c115,a216,c217,bz18,a319,c320,b22,a26,c27),⟨hbz,hcp⟩⟩)))
  refine NO rfl rfl [5,6,7] fun T21 hT21=>cX (jH r sgA sgC (by omega)) (ax 11 rfl rfl<|ay) rfl fun y22 hy23=>?_
  obtain ⟨a24,c25⟩:=y22
  try dsimp only
  refine RD hT21 6 rfl<|N1 5<|NO rfl rfl [6,7] fun T26 hT26=>AL rfl tL fun b27=>RD hT26 7 rfl<|N1 6<|NO rfl rfl [7] fun T28 hT28=>E_ rfl qo rfl<|RD hT28 7 rfl<|N1 7 ?_
  refine NO rfl rfl [] fun T29 hT29=>fO rfl qs rfl<|RD hT29 7 rfl ?_
  refine g8 (aO (e7 (jh rfl) (fun w hs=>St.br [2,3,4,5,1,6,0,7,8,9,10,11,12,13] rfl rfl hs) (hK8 ⟨(b10,a114,c115,a216,c217,bz18,a319,c320,b27,a24,c25),⟨hbz,hcp⟩⟩)))
 ·refine NO rfl rfl [1,3,4,6,7] fun T9 hT9=>?_
  refine AL rfl tL fun b10=>RD hT9 1 rfl ?_
  refine hO [1,4] (by kernel_rfl) (dI ?_<|dI ?_<|jM)
  rotate_left 1
  ·refine NO rfl rfl [1,3,6,7] fun T11 hT11=>?_
   refine AL rfl tG fun b12=>RD hT11 2 rfl<|N1 1<|NO rfl rfl [3,6,7] fun T13 hT13=>cX (pg l kA kC az cA cC bA bC (by exact hin) (by exact h31)) (ax 4 rfl rfl<|ax 5 rfl rfl<|ax 6 rfl rfl<|ax 7 rfl rfl<|ay) rfl fun y14 hy15=>?_
   obtain ⟨a116,c117,a218,c219,bz20,a321,c322⟩:=y14
   try dsimp only
   obtain ⟨hbz,hcp⟩:=hy15
   refine RD hT13 6 rfl<|N1 3<|NO rfl rfl [6,7] fun T23 hT23=>cX (jH r sgA sgC (by omega)) (ax 12 rfl rfl<|ay) rfl fun y24 hy25=>?_
   obtain ⟨a26,c27⟩:=y24
   try dsimp only
   refine RD hT23 7 rfl<|N1 6<|NO rfl rfl [7] fun T28 hT28=>Fb rfl qo rfl<|RD hT28 7 rfl<|N1 7<|NO rfl rfl [] fun T29 hT29=>E_ rfl qs rfl<|RD hT29 7 rfl ?_
   refine g8 (aO (e7 (jh rfl) (fun w hs=>St.br [1,2,3,4,0,5,6,7,8,9,10,11,12,13] rfl rfl hs) (hK8 ⟨(b12,a116,c117,a218,c219,bz20,a321,c322,b10,a26,c27),⟨hbz,hcp⟩⟩)))
  refine NO rfl rfl [3,4,6,7] fun T11 hT11=>cX (pg l kA kC az cA cC bA bC (by exact hin) (by exact h31)) (ax 3 rfl rfl<|ax 4 rfl rfl<|ax 5 rfl rfl<|ax 6 rfl rfl<|ay) rfl fun y12 hy13=>?_
  obtain ⟨a114,c115,a216,c217,bz18,a319,c320⟩:=y12
  try dsimp only
  obtain ⟨hbz,hcp⟩:=hy13
  refine RD hT11 5 rfl ?_
  refine hO [3,4] (by kernel_rfl) (dI ?_<|dI ?_<|jM)
  rotate_left 1
  ·refine NO rfl rfl [3,6,7] fun T21 hT21=>?_
   refine AL rfl tG fun b22=>RD hT21 6 rfl<|N1 3<|NO rfl rfl [6,7] fun T23 hT23=>cX (jH r sgA sgC (by omega)) (ax 12 rfl rfl<|ay) rfl fun y24 hy25=>?_
   obtain ⟨a26,c27⟩:=y24
   try dsimp only
   refine RD hT23 7 rfl<|N1 6<|NO rfl rfl [7] fun T28 hT28=>nk rfl qo rfl<|RD hT28 7 rfl<|N1 7<|NO rfl rfl [] fun T29 hT29=>E_ rfl qs rfl<|RD hT29 7 rfl ?_
   refine g8 (aO (e7 (jh rfl) (fun w hs=>St.br [2,3,4,5,0,1,6,7,8,9,10,11,12,13] rfl rfl hs) (hK8 ⟨(b22,a114,c115,a216,c217,bz18,a319,c320,b10,a26,c27),⟨hbz,hcp⟩⟩)))
  refine NO rfl rfl [4,6,7] fun T21 hT21=>cX (jH r sgA sgC (by omega)) (ax 11 rfl rfl<|ay) rfl fun y22 hy23=>?_
  obtain ⟨a24,c25⟩:=y22
  try dsimp only
  refine RD hT21 6 rfl<|N1 4<|NO rfl rfl [6,7] fun T26 hT26=>AL rfl tG fun b27=>RD hT26 7 rfl<|N1 6<|NO rfl rfl [7] fun T28 hT28=>fO rfl qo rfl<|RD hT28 7 rfl<|N1 7 ?_
  refine NO rfl rfl [] fun T29 hT29=>E_ rfl qs rfl<|RD hT29 7 rfl ?_
  refine g8 (aO (e7 (jh rfl) (fun w hs=>St.br [2,3,4,5,1,0,6,7,8,9,10,11,12,13] rfl rfl hs) (hK8 ⟨(b27,a114,c115,a216,c217,bz18,a319,c320,b10,a24,c25),⟨hbz,hcp⟩⟩)))
 refine NO rfl rfl [3,4,5,6,7] fun T9 hT9=>cX (pg l kA kC az cA cC bA bC (by exact hin) (by exact h31)) (ax 2 rfl rfl<|ax 3 rfl rfl<|ax 4 rfl rfl<|ax 5 rfl rfl<|ay) rfl fun y10 hy11=>?_
 obtain ⟨a112,c113,a214,c215,bz16,a317,c318⟩:=y10
 try dsimp only
 obtain ⟨hbz,hcp⟩:=hy11
 refine RD hT9 4 rfl ?_
 refine hO [3,4,5] (by kernel_rfl) (dI ?_<|dI ?_<|dI ?_<|jM)
 rotate_left 2
 ·refine NO rfl rfl [3,4,6,7] fun T19 hT19=>?_
  refine AL rfl tL fun b20=>RD hT19 5 rfl ?_
  refine hO [3,4] (by kernel_rfl) (dI ?_<|dI ?_<|jM)
  rotate_left 1
  ·refine NO rfl rfl [3,6,7] fun T21 hT21=>?_
   refine AL rfl tG fun b22=>RD hT21 6 rfl<|N1 3<|NO rfl rfl [6,7] fun T23 hT23=>cX (jH r sgA sgC (by omega)) (ax 12 rfl rfl<|ay) rfl fun y24 hy25=>?_
   obtain ⟨a26,c27⟩:=y24
   try dsimp only
   refine RD hT23 7 rfl<|N1 6<|NO rfl rfl [7] fun T28 hT28=>nk rfl qo rfl<|RD hT28 7 rfl<|N1 7<|NO rfl rfl [] fun T29 hT29=>rM rfl qs rfl<|RD hT29 7 rfl ?_
   refine g8 (aO (e7 (jh rfl) (fun w hs=>St.br [3,4,5,6,0,1,2,7,8,9,10,11,12,13] rfl rfl hs) (hK8 ⟨(b22,a112,c113,a214,c215,bz16,a317,c318,b20,a26,c27),⟨hbz,hcp⟩⟩)))
  refine NO rfl rfl [4,6,7] fun T21 hT21=>cX (jH r sgA sgC (by omega)) (ax 11 rfl rfl<|ay) rfl fun y22 hy23=>?_
  obtain ⟨a24,c25⟩:=y22
  try dsimp only
  refine RD hT21 6 rfl<|N1 4<|NO rfl rfl [6,7] fun T26 hT26=>AL rfl tG fun b27=>RD hT26 7 rfl<|N1 6<|NO rfl rfl [7] fun T28 hT28=>fO rfl qo rfl<|RD hT28 7 rfl<|N1 7 ?_
  refine NO rfl rfl [] fun T29 hT29=>rM rfl qs rfl<|RD hT29 7 rfl ?_
  refine g8 (aO (e7 (jh rfl) (fun w hs=>St.br [3,4,5,6,1,0,2,7,8,9,10,11,12,13] rfl rfl hs) (hK8 ⟨(b27,a112,c113,a214,c215,bz16,a317,c318,b20,a24,c25),⟨hbz,hcp⟩⟩)))
 ·refine NO rfl rfl [4,5,6,7] fun T19 hT19=>?_
  refine cX (jH r sgA sgC (by omega)) (ax 10 rfl rfl<|ay) rfl fun y20 hy21=>?_
  obtain ⟨a22,c23⟩:=y20
  try dsimp only
  refine RD hT19 5 rfl ?_
  refine hO [4,5] (by kernel_rfl) (dI ?_<|dI ?_<|jM)
  rotate_left 1
  ·refine NO rfl rfl [4,6,7] fun T24 hT24=>?_
   refine AL rfl tL fun b25=>RD hT24 6 rfl<|N1 4<|NO rfl rfl [6,7] fun T26 hT26=>AL rfl tG fun b27=>RD hT26 7 rfl<|N1 6<|NO rfl rfl [7] fun T28 hT28=>fO rfl qo rfl<|RD hT28 7 rfl ?_
   refine N1 7<|NO rfl rfl [] fun T29 hT29=>nk rfl qs rfl<|RD hT29 7 rfl ?_
   refine g8 (aO (e7 (jh rfl) (fun w hs=>St.br [3,4,5,6,2,0,1,7,8,9,10,11,12,13] rfl rfl hs) (hK8 ⟨(b27,a112,c113,a214,c215,bz16,a317,c318,b25,a22,c23),⟨hbz,hcp⟩⟩)))
  refine NO rfl rfl [5,6,7] fun T24 hT24=>AL rfl tG fun b25=>RD hT24 6 rfl<|N1 5<|NO rfl rfl [6,7] fun T26 hT26=>AL rfl tL fun b27=>RD hT26 7 rfl<|N1 6<|NO rfl rfl [7] fun T28 hT28=>nk rfl qo rfl ?_
  refine RD hT28 7 rfl<|N1 7<|NO rfl rfl [] fun T29 hT29=>fO rfl qs rfl<|RD hT29 7 rfl ?_
  refine g8 (aO (e7 (jh rfl) (fun w hs=>St.br [3,4,5,6,2,1,0,7,8,9,10,11,12,13] rfl rfl hs) (hK8 ⟨(b25,a112,c113,a214,c215,bz16,a317,c318,b27,a22,c23),⟨hbz,hcp⟩⟩)))
 refine NO rfl rfl [3,5,6,7] fun T19 hT19=>AL rfl tG fun b20=>RD hT19 5 rfl ?_
 refine hO [3,5] (by kernel_rfl) (dI ?_<|dI ?_<|jM)
 rotate_left 1
 ·refine NO rfl rfl [3,6,7] fun T21 hT21=>?_
  refine AL rfl tL fun b22=>RD hT21 6 rfl<|N1 3<|NO rfl rfl [6,7] fun T23 hT23=>cX (jH r sgA sgC (by omega)) (ax 12 rfl rfl<|ay) rfl fun y24 hy25=>?_
  obtain ⟨a26,c27⟩:=y24
  try dsimp only
  refine RD hT23 7 rfl<|N1 6<|NO rfl rfl [7] fun T28 hT28=>rM rfl qo rfl<|RD hT28 7 rfl<|N1 7<|NO rfl rfl [] fun T29 hT29=>nk rfl qs rfl<|RD hT29 7 rfl ?_
  refine g8 (aO (e7 (jh rfl) (fun w hs=>St.br [3,4,5,6,0,2,1,7,8,9,10,11,12,13] rfl rfl hs) (hK8 ⟨(b20,a112,c113,a214,c215,bz16,a317,c318,b22,a26,c27),⟨hbz,hcp⟩⟩)))
 refine NO rfl rfl [5,6,7] fun T21 hT21=>cX (jH r sgA sgC (by omega)) (ax 11 rfl rfl<|ay) rfl fun y22 hy23=>?_
 obtain ⟨a24,c25⟩:=y22
 try dsimp only
 refine RD hT21 6 rfl<|N1 5<|NO rfl rfl [6,7] fun T26 hT26=>AL rfl tL fun b27=>RD hT26 7 rfl<|N1 6<|NO rfl rfl [7] fun T28 hT28=>rM rfl qo rfl<|RD hT28 7 rfl<|N1 7 ?_
 refine NO rfl rfl [] fun T29 hT29=>fO rfl qs rfl<|RD hT29 7 rfl ?_
 refine g8 (aO (e7 (jh rfl) (fun w hs=>St.br [3,4,5,6,1,2,0,7,8,9,10,11,12,13] rfl rfl hs) (hK8 ⟨(b20,a112,c113,a214,c215,bz16,a317,c318,b27,a24,c25),⟨hbz,hcp⟩⟩)))
end
section
open Go.RowKit
set_option linter.unusedVariables false
def oo {α:Type} (cells:α→List Value) (sz:Nat) (R:World→α→Prop) (w:World) (s:av):Prop:= ∃ l:List α,s.n=l.length∧(rd s.a l.length sz (l.map cells)).holds w∧(∀ x∈l,R w x)∧l.length≤maxLen∧s.n≤s.c
theorem qR {w:World} {R:World→bD→Prop}: ∀ {l:List bO},(∀ x∈l,oo bD.cells 3 R w x.aB)→ ∃ (ms:List aj) (az:List RA),l.map bO.cells=List.zipWith aj.cells ms az∧ms.length=l.length∧az.length=l.length∧(∀ X∈aL aj.dX ms az,X.holds w)∧
 (∀ (k:Nat) m (a:RA),ms[k]? =some m→az[k]? =some a→m.aB.length≤a.2∧m.aB.length≤9223372036854775807)∧ms.map (fun m=>m.bJ)=l.map (fun x=>x.bJ)∧ ∀ (k:Nat) m y,ms[k]? =some m→y∈m.aB→R w y
 |[],_=>⟨[],[],rfl,rfl,rfl,(fun X hX=>by cases hX),(fun k m a h=>by simp at h),rfl,(fun k m y h=>by simp at h)⟩
 |x::l,h=>by
  obtain ⟨ms,az,h1,h2,h3,h4,h5,h6,h7⟩:=qR (fun y hy=>h y (List.mem_cons_of_mem _ hy))
  obtain ⟨sy,e1,e2,e3,e4,e5⟩:=h x (by simp)
  have e4':sy.length≤9223372036854775807:=e4
  refine ⟨⟨x.bJ,sy⟩::ms,(x.aB.a,x.aB.c)::az,?_,by simp [h2],by simp [h3],fun X hX=>?_,fun k m a hm ha=>?_,by simp [h6],fun k m y hm hy=>?_⟩
  ·obtain ⟨dr,⟨a,n,c⟩⟩:=x
   simp only at e1
   subst e1
   simp only [List.map_cons,List.zipWith_cons_cons,h1]
   rfl
  ·rcases List.mem_append.1 hX with hX|hX
   ·simp only [aj.dX,List.mem_singleton] at hX
    subst hX; exact e2
   ·exact h4 X hX
  ·cases k with
   |zero=>
    simp only [List.getElem?_cons_zero,Option.some.injEq] at hm ha
    subst hm ha
    exact ⟨by simp only; omega,e4'⟩
   |succ k=>exact h5 k m a (by simpa using hm) (by simpa using ha)
  ·cases k with
   |zero=>
    simp only [List.getElem?_cons_zero,Option.some.injEq] at hm
    subst hm
    exact e3 y hy
   |succ k=>exact h7 k m y (by simpa using hm) hy
theorem yI {w:World} {s:aF} {R1:World→ah→Prop} {R2:World→bO→Prop} {R3:World→aY→Prop} {R4:World→bD→Prop} (h1:oo ah.cells 9 R1 w s.al.j0) (hs: ∀ x,R1 w x→0≤x.gi∧x.gi≤255) (h2:oo bO.cells 2 R2 w s.ag) (hc: ∀ x,R2 w x→oo bD.cells 3 R4 w x.aB) (h3:oo aY.cells 4 R3 w s.aa):
 ∃ (l:aU) (az:List RA) (kA:Option Addr) (kC:Nat) (cA:Option Addr) (cC:Nat) (bA:Option Addr) (bC:Nat),s=aF.mk (au.mk (av.mk kA l.al.length kC)) l.bw (av.mk cA l.ag.length cC) (av.mk bA l.aa.length bC) l.aD l.aV l.aJ∧pw l az∧
  ((rd kA l.al.length 9 (l.al.map ah.cells)).holds w∧(rd cA l.ag.length 2 (List.zipWith aj.cells l.ag az)).holds w∧(cZ (aL aj.dX l.ag az)).holds w∧(rd bA l.aa.length 4 (l.aa.map aY.cells)).holds w)∧l.bw=s.bw∧l.aD=s.aD∧l.aV=s.aV∧l.aJ=s.aJ:=by
 obtain ⟨⟨⟨ka,kn,kc⟩⟩,fa,⟨ca,cn,cc⟩,⟨ba,bn,bc⟩,fi,fk,mi⟩:=s
 obtain ⟨ts,t1,t2,t3,t4,t5⟩:=h1
 obtain ⟨cs,c1,c2,c3,c4,c5⟩:=h2
 obtain ⟨bs,b1,b2,b3,b4,b5⟩:=h3
 simp only at t1 c1 b1
 subst t1 c1 b1
 obtain ⟨ms,az,m1,m2,m3,m4,m5,_⟩:=qR (fun x hx=>hc x (c3 x hx))
 have t4':ts.length≤9223372036854775807:=t4
 have c4':cs.length≤9223372036854775807:=c4
 have b4':bs.length≤9223372036854775807:=b4
 refine ⟨⟨ts,fa,ms,bs,fi,fk,mi⟩,az,ka,kc,ca,cc,ba,bc,by simp only [m2],⟨t4',fun x hx=>hs x (t3 x hx),by simp only; omega,by simp only; omega,b4',m5⟩,⟨t2,?_,m4,b2⟩,rfl,rfl,rfl,rfl⟩
 simp only at c2 ⊢
 rw [m2,← m1]; exact c2
end
section
open Go.RowKit
set_option linter.unusedVariables false
theorem zj {w:World} {s:aS} {R:World→aw→Prop} (h:oo aw.cells 2 R w s.ab):
 ∃ (r:bK) (gA:Option Addr) (gC:Nat),s=aS.mk r.Start r.cI (av.mk gA r.ab.length gC)∧r.ab.length≤9223372036854775807∧(rd gA r.ab.length 2 (r.ab.map aw.cells)).holds w:=by
 obtain ⟨st,nw,⟨a,n,c⟩⟩:=s
 obtain ⟨l,h1,h2,h3,h4,h5⟩:=h
 simp only at h1
 subst h1
 exact ⟨⟨st,nw,l⟩,a,c,rfl,h4,h2⟩
end
section
open Go.ChangeShapes Go.WideShapes Go.ChangeAt Go.RowKit
set_option linter.unusedVariables false
theorem IY:Tryz.prog.cellsOf 28=7:=by kernel_rfl
theorem Gl:Tryz.prog.cellsOf 24=1:=by kernel_rfl
theorem Hq:Tryz.prog.cellsOf 22=1:=by kernel_rfl
theorem DB:Tryz.prog.cellsOf 141=9:=by kernel_rfl
theorem wL:Tryz.prog.cellsOf 3=1:=by kernel_rfl
def wg (w:World) (n:Int):Prop:=nD n
theorem wM:rX Tryz.prog 3 Int iC wg:=EY qY
theorem zb:Tryz.prog.cellsOf 47=2:=by kernel_rfl
structure yC (w:World) (s:ae):Prop where
 Lo:wg w s.Lo
 Hi:wg w s.Hi
theorem IU:fL Tryz.prog 47=some [(3,0),(3,1)]:=by kernel_rfl
theorem Av:rX Tryz.prog 47 ae ae.cells yC:=fun {H} enc w base sp held fuel cs x h=>by
 obtain ⟨hl,hp⟩:=iZ IU h
 obtain ⟨n0,y0,h0⟩:=hp 0 3 0 rfl
 obtain ⟨s0,c0,r0⟩:=wM _ _ _ _ _ _ _ _ h0
 obtain ⟨n1,y1,h1⟩:=hp 1 3 1 rfl
 obtain ⟨s1,c1,r1⟩:=wM _ _ _ _ _ _ _ _ h1
 refine ⟨⟨s0,s1⟩,?_,⟨r0,r1⟩⟩
 have e1:=gK (hl.trans zb) (by rw [wL]) c1
 have e0:=dH c0 (m:=1) (by rw [wL]) e1
 exact e0
theorem JI:Tryz.prog.cellsOf 5=1:=by kernel_rfl
def Jt (w:World) (n:Int):Prop:=0≤n∧n≤255
theorem Jz:rX Tryz.prog 5 Int Au Jt:=FX Fg
structure AZ (w:World) (s:ah):Prop where
 Id:wg w s.Id
 g5:yC w s.g5
 iA:yC w s.iA
 cQ:yC w s.cQ
 gi:Jt w s.gi
 pX:wg w s.pX
theorem Gy:fL Tryz.prog 141=some [(3,0),(47,1),(47,3),(47,5),(5,7),(3,8)]:=by kernel_rfl
theorem Fz:rX Tryz.prog 141 ah ah.cells AZ:=fun {H} enc w base sp held fuel cs x h=>by
 obtain ⟨hl,hp⟩:=iZ Gy h
 obtain ⟨n0,y0,h0⟩:=hp 0 3 0 rfl
 obtain ⟨s0,c0,r0⟩:=wM _ _ _ _ _ _ _ _ h0
 obtain ⟨n1,y1,h1⟩:=hp 1 47 1 rfl
 obtain ⟨s1,c1,r1⟩:=Av _ _ _ _ _ _ _ _ h1
 obtain ⟨n2,y2,h2⟩:=hp 2 47 3 rfl
 obtain ⟨s2,c2,r2⟩:=Av _ _ _ _ _ _ _ _ h2
 obtain ⟨n3,y3,h3⟩:=hp 3 47 5 rfl
 obtain ⟨s3,c3,r3⟩:=Av _ _ _ _ _ _ _ _ h3
 obtain ⟨n4,y4,h4⟩:=hp 4 5 7 rfl
 obtain ⟨s4,c4,r4⟩:=Jz _ _ _ _ _ _ _ _ h4
 obtain ⟨n5,y5,h5⟩:=hp 5 3 8 rfl
 obtain ⟨s5,c5,r5⟩:=wM _ _ _ _ _ _ _ _ h5
 refine ⟨⟨s0,s1,s2,s3,s4,s5⟩,?_,⟨r0,r1,r2,r3,r4,r5⟩⟩
 have e5:=gK (hl.trans DB) (by rw [wL]) c5
 have e4:=dH c4 (m:=8) (by rw [JI]) e5
 have e3:=dH c3 (m:=7) (by rw [zb]) e4
 have e2:=dH c2 (m:=5) (by rw [zb]) e3
 have e1:=dH c1 (m:=3) (by rw [zb]) e2
 have e0:=dH c0 (m:=1) (by rw [wL]) e1
 exact e0
def GK (w:World) (s:av):Prop:= ∃ l:List ah,s.n=l.length∧(rd s.a l.length 9 (l.map ah.cells)).holds w∧(∀ x∈l,AZ w x)∧l.length≤maxLen∧s.n≤s.c
theorem Hf:rX Tryz.prog 22 av (fun s=>[Value.slice s.a s.n s.c]) GK:=nU qk DB Fz
structure Fj (w:World) (s:au):Prop where
 j0:GK w s.j0
theorem I8:fL Tryz.prog 24=some [(22,0)]:=by kernel_rfl
theorem I7:rX Tryz.prog 24 au au.cells Fj:=fun {H} enc w base sp held fuel cs x h=>by
 obtain ⟨hl,hp⟩:=iZ I8 h
 obtain ⟨n0,y0,h0⟩:=hp 0 22 0 rfl
 obtain ⟨s0,c0,r0⟩:=Hf _ _ _ _ _ _ _ _ h0
 refine ⟨⟨s0⟩,?_,⟨r0⟩⟩
 have e0:=gK (hl.trans Gl) (by rw [Hq]) c0
 exact e0
theorem Hx:Tryz.prog.cellsOf 25=1:=by kernel_rfl
theorem FC:Tryz.prog.cellsOf 63=2:=by kernel_rfl
theorem I9:Tryz.prog.cellsOf 61=1:=by kernel_rfl
theorem F6:Tryz.prog.cellsOf 65=3:=by kernel_rfl
structure EV (w:World) (s:bD):Prop where
 At:wg w s.At
 bQ:yC w s.bQ
theorem HU:fL Tryz.prog 65=some [(3,0),(47,1)]:=by kernel_rfl
theorem I6:rX Tryz.prog 65 bD bD.cells EV:=fun {H} enc w base sp held fuel cs x h=>by
 obtain ⟨hl,hp⟩:=iZ HU h
 obtain ⟨n0,y0,h0⟩:=hp 0 3 0 rfl
 obtain ⟨s0,c0,r0⟩:=wM _ _ _ _ _ _ _ _ h0
 obtain ⟨n1,y1,h1⟩:=hp 1 47 1 rfl
 obtain ⟨s1,c1,r1⟩:=Av _ _ _ _ _ _ _ _ h1
 refine ⟨⟨s0,s1⟩,?_,⟨r0,r1⟩⟩
 have e1:=gK (hl.trans F6) (by rw [zb]) c1
 have e0:=dH c0 (m:=1) (by rw [wL]) e1
 exact e0
def GG (w:World) (s:av):Prop:= ∃ l:List bD,s.n=l.length∧(rd s.a l.length 3 (l.map bD.cells)).holds w∧(∀ x∈l,EV w x)∧l.length≤maxLen∧s.n≤s.c
theorem HT:rX Tryz.prog 61 av (fun s=>[Value.slice s.a s.n s.c]) GG:=nU oM F6 I6
structure DU (w:World) (s:bO):Prop where
 bJ:wg w s.bJ
 aB:GG w s.aB
theorem HK:fL Tryz.prog 63=some [(3,0),(61,1)]:=by kernel_rfl
theorem Hj:rX Tryz.prog 63 bO bO.cells DU:=fun {H} enc w base sp held fuel cs x h=>by
 obtain ⟨hl,hp⟩:=iZ HK h
 obtain ⟨n0,y0,h0⟩:=hp 0 3 0 rfl
 obtain ⟨s0,c0,r0⟩:=wM _ _ _ _ _ _ _ _ h0
 obtain ⟨n1,y1,h1⟩:=hp 1 61 1 rfl
 obtain ⟨s1,c1,r1⟩:=HT _ _ _ _ _ _ _ _ h1
 refine ⟨⟨s0,s1⟩,?_,⟨r0,r1⟩⟩
 have e1:=gK (hl.trans FC) (by rw [I9]) c1
 have e0:=dH c0 (m:=1) (by rw [wL]) e1
 exact e0
def Gn (w:World) (s:av):Prop:= ∃ l:List bO,s.n=l.length∧(rd s.a l.length 2 (l.map bO.cells)).holds w∧(∀ x∈l,DU w x)∧l.length≤maxLen∧s.n≤s.c
theorem Io:rX Tryz.prog 25 av (fun s=>[Value.slice s.a s.n s.c]) Gn:=nU qy FC Hj
theorem Im:Tryz.prog.cellsOf 26=1:=by kernel_rfl
theorem Dr:Tryz.prog.cellsOf 101=4:=by kernel_rfl
theorem FZ:Tryz.prog.cellsOf 99=3:=by kernel_rfl
structure GV (w:World) (s:bS):Prop where
 ak:wg w s.ak
 ek:yC w s.ek
theorem HM:fL Tryz.prog 99=some [(3,0),(47,1)]:=by kernel_rfl
theorem Jb:rX Tryz.prog 99 bS bS.cells GV:=fun {H} enc w base sp held fuel cs x h=>by
 obtain ⟨hl,hp⟩:=iZ HM h
 obtain ⟨n0,y0,h0⟩:=hp 0 3 0 rfl
 obtain ⟨s0,c0,r0⟩:=wM _ _ _ _ _ _ _ _ h0
 obtain ⟨n1,y1,h1⟩:=hp 1 47 1 rfl
 obtain ⟨s1,c1,r1⟩:=Av _ _ _ _ _ _ _ _ h1
 refine ⟨⟨s0,s1⟩,?_,⟨r0,r1⟩⟩
 have e1:=gK (hl.trans FZ) (by rw [zb]) c1
 have e0:=dH c0 (m:=1) (by rw [wL]) e1
 exact e0
structure Bk (w:World) (s:aY):Prop where
 hU:GV w s.hU
 gk:wg w s.gk
theorem Gc:fL Tryz.prog 101=some [(99,0),(3,3)]:=by kernel_rfl
theorem Fu:rX Tryz.prog 101 aY aY.cells Bk:=fun {H} enc w base sp held fuel cs x h=>by
 obtain ⟨hl,hp⟩:=iZ Gc h
 obtain ⟨n0,y0,h0⟩:=hp 0 99 0 rfl
 obtain ⟨s0,c0,r0⟩:=Jb _ _ _ _ _ _ _ _ h0
 obtain ⟨n1,y1,h1⟩:=hp 1 3 3 rfl
 obtain ⟨s1,c1,r1⟩:=wM _ _ _ _ _ _ _ _ h1
 refine ⟨⟨s0,s1⟩,?_,⟨r0,r1⟩⟩
 have e1:=gK (hl.trans Dr) (by rw [wL]) c1
 have e0:=dH c0 (m:=3) (by rw [FZ]) e1
 exact e0
def Gz (w:World) (s:av):Prop:= ∃ l:List aY,s.n=l.length∧(rd s.a l.length 4 (l.map aY.cells)).holds w∧(∀ x∈l,Bk w x)∧l.length≤maxLen∧s.n≤s.c
theorem HC:rX Tryz.prog 26 av (fun s=>[Value.slice s.a s.n s.c]) Gz:=nU jL Dr Fu
structure IX (w:World) (s:aF):Prop where
 al:Fj w s.al
 bw:wg w s.bw
 ag:Gn w s.ag
 aa:Gz w s.aa
 aD:wg w s.aD
 aV:wg w s.aV
 aJ:wg w s.aJ
theorem FL:fL Tryz.prog 28=some [(24,0),(3,1),(25,2),(26,3),(3,4),(3,5),(3,6)]:=by kernel_rfl
theorem II:rX Tryz.prog 28 aF aF.cells IX:=fun {H} enc w base sp held fuel cs x h=>by
 obtain ⟨hl,hp⟩:=iZ FL h
 obtain ⟨n0,y0,h0⟩:=hp 0 24 0 rfl
 obtain ⟨s0,c0,r0⟩:=I7 _ _ _ _ _ _ _ _ h0
 obtain ⟨n1,y1,h1⟩:=hp 1 3 1 rfl
 obtain ⟨s1,c1,r1⟩:=wM _ _ _ _ _ _ _ _ h1
 obtain ⟨n2,y2,h2⟩:=hp 2 25 2 rfl
 obtain ⟨s2,c2,r2⟩:=Io _ _ _ _ _ _ _ _ h2
 obtain ⟨n3,y3,h3⟩:=hp 3 26 3 rfl
 obtain ⟨s3,c3,r3⟩:=HC _ _ _ _ _ _ _ _ h3
 obtain ⟨n4,y4,h4⟩:=hp 4 3 4 rfl
 obtain ⟨s4,c4,r4⟩:=wM _ _ _ _ _ _ _ _ h4
 obtain ⟨n5,y5,h5⟩:=hp 5 3 5 rfl
 obtain ⟨s5,c5,r5⟩:=wM _ _ _ _ _ _ _ _ h5
 obtain ⟨n6,y6,h6⟩:=hp 6 3 6 rfl
 obtain ⟨s6,c6,r6⟩:=wM _ _ _ _ _ _ _ _ h6
 refine ⟨⟨s0,s1,s2,s3,s4,s5,s6⟩,?_,⟨r0,r1,r2,r3,r4,r5,r6⟩⟩
 have e6:=gK (hl.trans IY) (by rw [wL]) c6
 have e5:=dH c5 (m:=6) (by rw [wL]) e6
 have e4:=dH c4 (m:=5) (by rw [wL]) e5
 have e3:=dH c3 (m:=4) (by rw [Im]) e4
 have e2:=dH c2 (m:=3) (by rw [Hx]) e3
 have e1:=dH c1 (m:=2) (by rw [wL]) e2
 have e0:=dH c0 (m:=1) (by rw [Gl]) e1
 exact e0
theorem Ji:Tryz.prog.cellsOf 31=3:=by kernel_rfl
theorem H8:Tryz.prog.cellsOf 29=1:=by kernel_rfl
theorem FB:Tryz.prog.cellsOf 67=2:=by kernel_rfl
structure E1 (w:World) (s:aw):Prop where
 cU:wg w s.cU
 Read:wg w s.Read
theorem Jj:fL Tryz.prog 67=some [(3,0),(3,1)]:=by kernel_rfl
theorem IH:rX Tryz.prog 67 aw aw.cells E1:=fun {H} enc w base sp held fuel cs x h=>by
 obtain ⟨hl,hp⟩:=iZ Jj h
 obtain ⟨n0,y0,h0⟩:=hp 0 3 0 rfl
 obtain ⟨s0,c0,r0⟩:=wM _ _ _ _ _ _ _ _ h0
 obtain ⟨n1,y1,h1⟩:=hp 1 3 1 rfl
 obtain ⟨s1,c1,r1⟩:=wM _ _ _ _ _ _ _ _ h1
 refine ⟨⟨s0,s1⟩,?_,⟨r0,r1⟩⟩
 have e1:=gK (hl.trans FB) (by rw [wL]) c1
 have e0:=dH c0 (m:=1) (by rw [wL]) e1
 exact e0
def FI (w:World) (s:av):Prop:= ∃ l:List aw,s.n=l.length∧(rd s.a l.length 2 (l.map aw.cells)).holds w∧(∀ x∈l,E1 w x)∧l.length≤maxLen∧s.n≤s.c
theorem Ij:rX Tryz.prog 29 av (fun s=>[Value.slice s.a s.n s.c]) FI:=nU nB FB IH
structure HW (w:World) (s:aS):Prop where
 Start:wg w s.Start
 cI:wg w s.cI
 ab:FI w s.ab
theorem GZ:fL Tryz.prog 31=some [(3,0),(3,1),(29,2)]:=by kernel_rfl
theorem H7:rX Tryz.prog 31 aS aS.cells HW:=fun {H} enc w base sp held fuel cs x h=>by
 obtain ⟨hl,hp⟩:=iZ GZ h
 obtain ⟨n0,y0,h0⟩:=hp 0 3 0 rfl
 obtain ⟨s0,c0,r0⟩:=wM _ _ _ _ _ _ _ _ h0
 obtain ⟨n1,y1,h1⟩:=hp 1 3 1 rfl
 obtain ⟨s1,c1,r1⟩:=wM _ _ _ _ _ _ _ _ h1
 obtain ⟨n2,y2,h2⟩:=hp 2 29 2 rfl
 obtain ⟨s2,c2,r2⟩:=Ij _ _ _ _ _ _ _ _ h2
 refine ⟨⟨s0,s1,s2⟩,?_,⟨r0,r1,r2⟩⟩
 have e2:=gK (hl.trans Ji) (by rw [H8]) c2
 have e1:=dH c1 (m:=2) (by rw [wL]) e2
 have e0:=dH c0 (m:=1) (by rw [wL]) e1
 exact e0
theorem tz:ownKnob Tryz.prog.godebug=none:=by kernel_rfl
theorem sW:laidOutB Tryz.prog=true:=by kernel_rfl
set_option maxRecDepth 100000 in
theorem qc (os:Os) (started:os.Started) (H:Type) (enc:TypeId×Value→H):
 ReturnsInHanded {} Tryz.checked os 3 .any (Rows.beamRidesSpec.pre6 enc Tryz.prog Tryz.f3 Rows.beamRidesRow.domain false) (Rows.beamRidesSpec.post enc Tryz.prog Tryz.f3 false true false false):=by
 refine returnsInHanded_of_change (C:=Tryz.checked) tz started (by kernel_rfl) Tryz.func3
  (ChangeSpec.witness6 (enc:=enc) (C:=Tryz.checked) false ⟨#[],#[.agg #[(Value.slice none 0 0),(Value.int .i64 0),(Value.slice none 0 0),(Value.slice none 0 0),(Value.int .i64 0),(Value.int .i64 0),(Value.int .i64 0)],.agg #[(Value.int .i64 0),(Value.int .i64 0),(Value.slice none 0 0)],Value.int .i64 0],[]⟩ 8 (by kernel_rfl) (by kernel_rfl) (by kernel_rfl) (by kernel_rfl)) ?_
 intro W base args ds gs before hval0 hW hcnd _
 have hval: ∀ (j:Nat) t v,Tryz.f3.params[j]? =some t→args[j]? =some v→Value.okWide Tryz.prog W .any base t v:=hval0
 have hW':=hW
 obtain ⟨p,q,hA0,hV,rfl,hfz,hnd⟩:=hW
 have hA:DataW.TrodAll enc Tryz.prog W 0 (fun _=>true) true Tryz.f3.params.toList args.toList ds p:=hA0
 have hA1:=hA
 rw [Tryz.params3] at hA hval
 obtain ⟨v0,vs0,d0,ds0,p0,q0,hargs,rfl,rfl,h0,r0⟩:=trodAll_cons hA
 obtain ⟨v1,vs1,d1,ds1,p1,q1,rfl,rfl,rfl,h1,r1⟩:=trodAll_cons r0
 obtain ⟨v2,vs2,d2,ds2,p2,q2,rfl,rfl,rfl,h2,r2⟩:=trodAll_cons r1
 obtain ⟨rfl,rfl,rfl⟩:=trodAll_nil r2
 obtain rfl:args= #[v0,v1,v2]:=by cases args; simp_all
 obtain ⟨rfl,rfl⟩:=trodVars_none hV
 obtain ⟨s0,rfl,R0⟩:=tr FL II (hval 0 28 v0 rfl rfl) h0
 obtain ⟨s1,rfl,R1⟩:=tr GZ H7 (hval 1 31 v1 rfl rfl) h1
 obtain ⟨s2,rfl,R2⟩:=B5 (k:= .i64) qY (hval 2 3 v2 rfl rfl) h2
 simp only [List.append_nil] at hW' hA1
 obtain ⟨l,az,kA,kC,cA,cC,bA,bC,rfl,hraw,hl4,_⟩:=yI (R1:=AZ) (R2:=DU) (R3:=Bk) (R4:=EV) R0.al.j0 (fun x hx=>hx.gi) R0.ag (fun x hx=>hx.aB) R0.aa
 obtain ⟨r,gA,gC,rfl,hrr,hrd⟩:=zj (R:=E1) R1.ab
 have hrun:=(vg l kA kC az cA cC bA bC r gA gC s2 hraw hrr).run W (by intro A hA; simp only [List.mem_cons,List.not_mem_nil,or_false] at hA; rcases hA with rfl|rfl|rfl|rfl|rfl; exact hl4.1; exact hl4.2.1; exact hl4.2.2.1; exact hl4.2.2.2; exact hrd)
 refine (hrun).mono fun e W' ⟨he,hk⟩=>?_
 subst he
 exact ⟨_,rfl,Bd sW hW' hA1 rfl rfl (by kernel_rfl) hk.below (by kernel_rfl) Jw⟩
/-- the statement -/
theorem beamRides_said:Rows.BeamRidesSaid:=
 OpenClaim.holds_of_wide 3 Tryz.f3 rfl rfl rfl rfl rfl rfl rfl ⟨rfl,rfl,rfl,rfl,rfl⟩ rfl rfl rfl rfl rfl (by kernel_rfl) Tryz.func3 (by kernel_rfl)
  (of_decide_eq_true (by kernel_rfl)) (by unfold Func.isWrapper; first|(rw [if_pos (by decide+kernel)]; kernel_rfl)|(rw [if_neg (by decide+kernel)]; exact ⟨rfl,rfl⟩))
  (fun os started H enc _=>qc os started H enc)
#print axioms beamRides_said
end
end Go.Proofs.YthiigjekcdjkkaaGreat
