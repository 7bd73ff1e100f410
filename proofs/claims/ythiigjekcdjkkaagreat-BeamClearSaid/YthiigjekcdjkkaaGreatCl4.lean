/-
 The statement beamClear_said, part 4 of 5: V5, V6, S1, Wh1, V4, V8, Wh2, MapD, S2, Wh3, A1.
 Conditions: none.
-/
import Derived.Test.YthiigjekcdjkkaaGreatCl1
import Derived.Test.YthiigjekcdjkkaaGreatCl2
import Derived.Test.YthiigjekcdjkkaaGreatCl3
namespace Go.Proofs.YthiigjekcdjkkaaGreat
section
open Go.RowKit
set_option linter.unusedVariables false
set_option maxRecDepth 100000 in
set_option maxHeartbeats 1600000 in
theorem tz (ln:aG) (ri:aN) (e:List Int) (tms:List TM) (e_A:Option Addr) (e_C:Nat) (tb:List Nat) (t_A:Option Addr) (t_C:Nat) (gw:Nat) (hw:xA (bL ln ri e tms)) (hn:ln.aa.n=e.length) (htb:tb.length=tms.length):
 CT Tryz.prog 61 [(Value.pointer (some ⟨gw,0,none⟩))] [(rd e_A e.length 1 (e.map iC)),(rd t_A tms.length 1 (List.zipWith cb tms tb)),(c_ (aP gJ tms tb))] (aU gw 117 (aK.cells (aK.mk ln ri (aA.mk e_A e.length e_C) (aA.mk t_A tms.length t_C) (aA.mk none 0 0) (aA.mk none 0 0)))) (fun (x:(List FM)×(List Nat)×(Option Addr)×Nat×(List FM)×(List Nat)×(Option Addr)×Nat)=>(Value.tuple [].toArray)) (fun (x:(List FM)×(List Nat)×(Option Addr)×Nat×(List FM)×(List Nat)×(Option Addr)×Nat)=>pE (bL ln ri e tms) x.1∧nN (bL ln ri e tms) x.2.2.2.2.1∧x.2.1.length=x.1.length∧x.2.2.2.2.2.1.length=x.2.2.2.2.1.length) (fun (x:(List FM)×(List Nat)×(Option Addr)×Nat×(List FM)×(List Nat)×(Option Addr)×Nat)=>(bw [(aU gw 117 (aK.cells (aK.mk ln ri (aA.mk e_A e.length e_C) (aA.mk t_A tms.length t_C) (aA.mk x.2.2.1 x.1.length x.2.2.2.1) (aA.mk x.2.2.2.2.2.2.1 x.2.2.2.2.1.length x.2.2.2.2.2.2.2)))),(own x.2.2.1 x.2.2.2.1 122 1 (List.zipWith cb x.1 x.2.1)),(bw (aP e8 x.1 x.2.1)),(own x.2.2.2.2.2.2.1 x.2.2.2.2.2.2.2 122 1 (List.zipWith cb x.2.2.2.2.1 x.2.2.2.2.2.1)),(bw (aP e8 x.2.2.2.2.1 x.2.2.2.2.2.1))])):=by
 have hw6:e.length≤6:=hw.n
 have hwt:tms.length=e.length:=hw.times
 refine sT FD Tryz.func61 rfl rfl fun w0 Q hQ hN=>?_
 try dsimp only
 refine WS fun _ hK1=>vY rfl rfl fun b2=>RK hK1<|WS fun _ hK3=>rS (jc 0 rfl iQ rfl)<|rS (SX (cl rfl rfl) rfl rfl)<|rS (FA 0 rfl pY rfl)<|rS (FA 3 rfl dQ rfl)<|rS (L1 (Value.slice ln.aa.a ln.aa.n ln.aa.c) 1 rfl hP rfl rfl)<|rS (LN rfl jz) ?_
 refine rS (AG rfl)<|RK hK3 ?_
 refine pj (ι:={z:(Option Addr)×(Option Addr) // True}) (fun z=>[(0,(Value.pointer (some ⟨gw,0,none⟩))),(1,(Value.pointer (some ⟨b2,0,none⟩))),(2,(Value.int .i64 ((ln.aa.n:Nat):Int)))]) (fun z=>[(own z.1.1 (ln.aa.n+1) 122 1 (List.map oC (List.replicate (ln.aa.n+1) (none:Option Nat)))),(own z.1.2 (ln.aa.n+1) 122 1 (List.map oC (List.replicate (ln.aa.n+1) (none:Option Nat)))),(aU b2 77 [(Value.pointer (some ⟨gw,0,none⟩))]),(aU gw 117 (aK.cells (aK.mk ln ri (aA.mk e_A e.length e_C) (aA.mk t_A tms.length t_C) (aA.mk z.1.1 (ln.aa.n+1) (ln.aa.n+1)) (aA.mk z.1.2 (ln.aa.n+1) (ln.aa.n+1))))),(rd e_A e.length 1 (e.map iC)).ro,(rd t_A tms.length 1 (List.zipWith cb tms tb)).ro,(c_ (aP gJ tms tb)).ro]) ?_ fun K4 hK4=>?_
 ·rintro ⟨⟨fA,bA⟩,_⟩
  try dsimp only
  refine zn 3 rfl rfl fun wz Sz hz=>?_
  have hl0:(List.replicate (ln.aa.n+1) (none:Option Nat)).length=(ln.aa.n+1):=List.length_replicate
  try dsimp only
  refine pj (ι:={z:Nat // True}) (fun z=>[(0,(Value.pointer (some ⟨gw,0,none⟩))),(1,(Value.pointer (some ⟨b2,0,none⟩))),(2,(Value.int .i64 ((ln.aa.n:Nat):Int)))]) (fun z=>[(bw (aP e8 [[((aq.mk 0 0),ri.Start)]] [z.1])),(aU gw 117 (aK.cells (aK.mk ln ri (aA.mk e_A e.length e_C) (aA.mk t_A tms.length t_C) (aA.mk fA (ln.aa.n+1) (ln.aa.n+1)) (aA.mk bA (ln.aa.n+1) (ln.aa.n+1))))).ro,(own fA (ln.aa.n+1) 122 1 (List.map oC (bX [z.1] (ln.aa.n+1)))),(own bA (ln.aa.n+1) 122 1 (List.map oC (List.replicate (ln.aa.n+1) (none:Option Nat)))),(aU b2 77 [(Value.pointer (some ⟨gw,0,none⟩))]),(rd e_A e.length 1 (e.map iC)).ro,(rd t_A tms.length 1 (List.zipWith cb tms tb)).ro,(c_ (aP gJ tms tb)).ro]) ?_ fun K5 hK5=>?_
  ·rintro ⟨ga,_⟩
   try dsimp only
   refine aw fun _ hK6=>WS fun _ hK7=>rS (MV rfl)<|rS (MV rfl)<|RK hK7<|aH<|pq ?_
   have hinit:(0≤ln.aa.n)∧(([[((aq.mk 0 0),ri.Start)]]).length=0+1)∧(([ga]).length=0+1)∧(l3 (bL ln ri e tms) ([[((aq.mk 0 0),ri.Start)]])):=by exact ⟨Nat.zero_le _,rfl,rfl,l3.first⟩
   refine mZ (ι:={z:Nat×(List FM)×(List Nat)×(List Nat) // (z.1≤ln.aa.n)∧(z.2.1.length=z.1+1)∧(z.2.2.1.length=z.1+1)∧(l3 (bL ln ri e tms) z.2.1)}) (fun z=>z.1.2.2.2.map iG) (fun z=>[(0,(Value.pointer (some ⟨gw,0,none⟩))),(1,(Value.pointer (some ⟨b2,0,none⟩))),(2,(Value.int .i64 ((ln.aa.n:Nat):Int))),(52,(Value.int .i64 ((ln.aa.n:Nat):Int))),(53,(Value.int .i64 ((z.1.1:Nat):Int)))]) (fun z=>[(bw (z.1.2.2.2.map fu)),(bw (aP e8 z.1.2.1 z.1.2.2.1)),(aU gw 117 (aK.cells (aK.mk ln ri (aA.mk e_A e.length e_C) (aA.mk t_A tms.length t_C) (aA.mk fA (ln.aa.n+1) (ln.aa.n+1)) (aA.mk bA (ln.aa.n+1) (ln.aa.n+1))))).ro,(own fA (ln.aa.n+1) 122 1 (List.map oC (bX z.1.2.2.1 (ln.aa.n+1)))),(own bA (ln.aa.n+1) 122 1 (List.map oC (List.replicate (ln.aa.n+1) (none:Option Nat)))),(aU b2 77 [(Value.pointer (some ⟨gw,0,none⟩))]),(rd e_A e.length 1 (e.map iC)).ro,(rd t_A tms.length 1 (List.zipWith cb tms tb)).ro,(c_ (aP gJ tms tb)).ro]) (fun z=>ln.aa.n-z.1.1) ⟨(0,[[((aq.mk 0 0),ri.Start)]],[ga],([]:List Nat)),hinit⟩ rfl (an.cons rfl<|an.cons rfl<|an.cons rfl<|an.cons rfl<|an.cons rfl<|an.nil _) (fun w hs=>St.bB [0,1,2,3,4,5,6,7,8] rfl rfl hs) ?_
   clear hinit
   rintro ⟨⟨b,fs,fb,rs5⟩,⟨hl5_0,hl5_1,hl5_2,hl5_3⟩⟩ J8 hJ8
   try dsimp only at hl5_0 hl5_1 hl5_2 hl5_3
   try dsimp only
   have hlf:(bX fb (ln.aa.n+1)).length=(ln.aa.n+1):=jQ (by omega)
   refine WS fun _ hK9=>rS (BI rfl cq)<|RK hK9<|aw fun _ hK10=>?_
   refine bp rfl (fun h11=>?_) (fun h11=>?_)
   ·replace h11:=DT h11
    refine WK hK10<|aw fun _ hK12=>aH<|WS fun _ hK13=>rS (MV rfl)<|AL rfl kb fun b14=>zH rfl uQ rfl rfl<|RK hK13<|aw fun _ hK15=>dA ct [0,1,2,3,4,5,7] [6,8] [false,false,false,false,false,false,true] [true,false] [(aU b14 3 [(Value.int .i64 ((b:Nat):Int))]),(bw (rs5.map fu)),(bw (aP e8 fs fb)),(aU gw 117 (aK.cells (aK.mk ln ri (aA.mk e_A e.length e_C) (aA.mk t_A tms.length t_C) (aA.mk fA (ln.aa.n+1) (ln.aa.n+1)) (aA.mk bA (ln.aa.n+1) (ln.aa.n+1))))).ro,(own bA (ln.aa.n+1) 122 1 (List.map oC (List.replicate (ln.aa.n+1) (none:Option Nat)))),(aU b2 77 [(Value.pointer (some ⟨gw,0,none⟩))]),(rd e_A e.length 1 (e.map iC)).ro,(rd t_A tms.length 1 (List.zipWith cb tms tb)).ro,(c_ (aP gJ tms tb)).ro] [(aU b14 3 [(Value.int .i64 ((b:Nat):Int))]),(bw (rs5.map fu)),(bw (aP e8 fs fb)),(aU gw 117 (aK.cells (aK.mk ln ri (aA.mk e_A e.length e_C) (aA.mk t_A tms.length t_C) (aA.mk fA (ln.aa.n+1) (ln.aa.n+1)) (aA.mk bA (ln.aa.n+1) (ln.aa.n+1))))).ro,(own fA (ln.aa.n+1) 122 1 (List.map oC (bX fb (ln.aa.n+1)))),(own bA (ln.aa.n+1) 122 1 (List.map oC (List.replicate (ln.aa.n+1) (none:Option Nat)))),(aU b2 77 [(Value.pointer (some ⟨gw,0,none⟩))]),(rd e_A e.length 1 (e.map iC)).ro,(rd t_A tms.length 1 (List.zipWith cb tms tb)).ro,(c_ (aP gJ tms tb)).ro] (by kernel_rfl) (fun w hs=>St.bB [0,1,2,3,5,6,7,8,9] rfl rfl hs) (fun w hs=>St.bB [0,1,2,3,4,5,6,7,8,9] rfl rfl hs) ?_
    refine eS rfl (jc 5 rfl iQ rfl)<|eS rfl (SX (cl rfl rfl) rfl rfl)<|eS rfl (FA 12 rfl jL rfl)<|eS rfl (l9 (Value.slice fA (ln.aa.n+1) (ln.aa.n+1)) 3 rfl j9 rfl rfl)<|eS rfl (jc 0 rfl bk rfl)<|eS rfl (BI rfl (a9 ⟨by omega,by omega⟩)) ?_
    obtain ⟨x16,hx17⟩: ∃ y_,(bX fb (ln.aa.n+1))[(b+1)]? =some y_:=⟨(bX fb (ln.aa.n+1))[(b+1)]'(by omega),List.getElem?_eq_getElem _⟩
    have hx17m:(List.map oC (bX fb (ln.aa.n+1)))[(b+1)]? =some (oC x16):=by rw [List.getElem?_map,hx17]; rfl
    refine fS rfl (IA (b+1) rfl (ak (n:=(ln.aa.n+1)) 4 rfl (by first|(simp; done)|(simp; omega))) kv (by decide) (by omega) (by omega))<|eJ rfl<|jM rfl fun T18 hT18=>k3 (kV:=cg) rfl rfl fun b19=>?_
    try dsimp only
    refine aX (hT18 _ _ (fun w hs=>St.bB [1,2,3,4,6,7,8,9,10] rfl rfl hs) (fun w hs=>St.bB [1,2,3,4,5,6,7,8,9,10] rfl rfl hs) ?_)
    refine cf rfl fun T20 hT20=>?_
    have hb21:((bX fb (ln.aa.n+1)).set (b+1) (some b19))=(bX (fb++[b19]) (ln.aa.n+1)):=by exact nd (by omega) (by omega)
    refine dy (k:=(b+1)) (o:=0) (vs:=[(Value.map (some b19))]) (es':=(List.map oC (bX (fb++[b19]) (ln.aa.n+1)))) (C':=[_,_,_,_,_,(own fA (ln.aa.n+1) 122 1 (List.map oC (bX (fb++[b19]) (ln.aa.n+1)))),_,_,_,_,_]) 5 rfl rfl rfl xI rfl rfl rfl rfl hx17m rfl (by decide) (by exact (List.map_set (f:=oC) (l:=(bX fb (ln.aa.n+1))) (i:=(b+1)) (a:=(some b19))).symm.trans (congrArg _ hb21)) rfl<|RN hT20 [1,2,3,4,6,7,8,9,10] rfl rfl<|fJ rfl<|KK hK15<|aw fun _ hK22=>?_
    have hlq23:(bX (fb++[b19]) (ln.aa.n+1)).length=(ln.aa.n+1):=jQ (by simp; omega)
    obtain ⟨mb,hmb⟩: ∃ y_,fs[b]? =some y_:=⟨fs[b]'(by omega),List.getElem?_eq_getElem _⟩
    obtain ⟨ga,hga⟩: ∃ y_,fb[b]? =some y_:=⟨fb[b]'(by omega),List.getElem?_eq_getElem _⟩
    refine sa 3 hmb hga rfl rfl rfl ?_
    try dsimp only
    refine dj ct 7 (by kernel_rfl)<|dS (jc 8 rfl iQ rfl)<|dS (SX (cl rfl rfl) rfl rfl)<|dS (FA 12 rfl jL rfl)<|dS (l9 (Value.slice fA (ln.aa.n+1) (ln.aa.n+1)) 5 rfl j9 rfl rfl)<|dS (jc 3 rfl bk rfl) ?_
    have hk24:(List.map oC (bX (fb++[b19]) (ln.aa.n+1)))[b]? =some (oC (some ga)):=l0 (js (zd hga))
    refine dS (IA b rfl (ak (n:=(ln.aa.n+1)) 6 rfl (by first|(simp; done)|(simp; omega))) kv (by decide) (by omega) (by omega))<|dS (ir b 0 (Value.map (some ga)) rfl lZ (ak (n:=(bX (fb++[b19]) (ln.aa.n+1)).length) 6 rfl (by simp)) hk24 rfl (by decide) rfl)<|cE<|o1 0 rfl rfl kY rfl rfl fun r25=>?_
    try dsimp only
    refine RK hK22<|aH ?_
    have hinit:(∀ p∈mb,p∈mb)∧(qk (bL ln ri e tms) b ([]:FM))∧(gS (bL ln ri e tms) b mb ([]:FM) mb):=by exact ⟨fun p hp=>hp,qk.start,gS.start⟩
    refine mZ (ι:={z:FM×FM×(List Nat) // (∀ p∈z.1,p∈mb)∧(qk (bL ln ri e tms) b z.2.1)∧(gS (bL ln ri e tms) b mb z.2.1 z.1)}) (fun z=>z.1.2.2.map iG) (fun z=>[(0,(Value.pointer (some ⟨gw,0,none⟩))),(1,(Value.pointer (some ⟨b2,0,none⟩))),(2,(Value.int .i64 ((ln.aa.n:Nat):Int))),(3,(Value.pointer (some ⟨b14,0,none⟩))),(52,(Value.int .i64 ((ln.aa.n:Nat):Int))),(53,(Value.int .i64 ((b:Nat):Int))),(71,(Value.pointer (some ⟨r25,0,none⟩)))]) (fun z=>[(pM cg r25 ga (bu iV mb) (bu iV z.1.1) none),(bw (eQ e8 fs fb b)),(jr cg b19 (bu iV z.1.2.1)),(aU b14 3 [(Value.int .i64 ((b:Nat):Int))]),(bw (z.1.2.2.map fu)),(aU gw 117 (aK.cells (aK.mk ln ri (aA.mk e_A e.length e_C) (aA.mk t_A tms.length t_C) (aA.mk fA (ln.aa.n+1) (ln.aa.n+1)) (aA.mk bA (ln.aa.n+1) (ln.aa.n+1))))).ro,(own fA (ln.aa.n+1) 122 1 (List.map oC (bX (fb++[b19]) (ln.aa.n+1)))),(own bA (ln.aa.n+1) 122 1 (List.map oC (List.replicate (ln.aa.n+1) (none:Option Nat)))),(aU b2 77 [(Value.pointer (some ⟨gw,0,none⟩))]),(rd e_A e.length 1 (e.map iC)).ro,(rd t_A tms.length 1 (List.zipWith cb tms tb)).ro,(c_ (aP gJ tms tb)).ro]) (fun z=>z.1.1.length) ⟨(mb,([]:FM),rs5),hinit⟩ rfl (an.cons rfl<|an.cons rfl<|an.cons rfl<|an.cons rfl<|an.cons rfl<|an.cons rfl<|an.cons rfl<|an.nil _) (fun w hs=>St.bB [0,1,2,3,4,5,6,7,8,9,10,11] rfl rfl hs) ?_
    clear hinit
    rintro ⟨⟨left,m,rs9⟩,⟨hl9_0,hl9_1,hl9_2⟩⟩ J26 hJ26
    try dsimp only at hl9_0 hl9_1 hl9_2
    try dsimp only
    refine WS fun _ hK27=>?_
    refine nE kU.inj (f:=iV) 0 rfl rfl rfl rfl (fun h72=>?_) (fun t v hm hnd=>?_)
    ·refine rS (EX rfl) ?_
     refine RK hK27<|aw fun _ hK28=>bH rfl<|bM<|ai<|ai<|aI<|aL<|KK hK12<|aC ?_
     refine rS (BI rfl (a9 ⟨by omega,by omega⟩))<|rS (MV rfl)<|aX<|mq (C':=[(jr cg ga (bu iV mb)),(bw (eQ e8 fs fb b)),(jr cg b19 (bu iV m)),(aU b14 3 [(Value.int .i64 ((b:Nat):Int))]),(bw (rs9.map fu)),(aU gw 117 (aK.cells (aK.mk ln ri (aA.mk e_A e.length e_C) (aA.mk t_A tms.length t_C) (aA.mk fA (ln.aa.n+1) (ln.aa.n+1)) (aA.mk bA (ln.aa.n+1) (ln.aa.n+1))))).ro,(own fA (ln.aa.n+1) 122 1 (List.map oC (bX (fb++[b19]) (ln.aa.n+1)))),(own bA (ln.aa.n+1) 122 1 (List.map oC (List.replicate (ln.aa.n+1) (none:Option Nat)))),(aU b2 77 [(Value.pointer (some ⟨gw,0,none⟩))]),(rd e_A e.length 1 (e.map iC)).ro,(rd t_A tms.length 1 (List.zipWith cb tms tb)).ro,(c_ (aP gJ tms tb)).ro]) 0 rfl xV rfl<|yS 1 0 hmb hga rfl rfl rfl ?_
     try dsimp only
     refine v7 (X':=aP e8 (fs++[m]) (fb++[b19])) 0 1 rfl rfl (ry (by omega) rfl) ?_
     try dsimp only
     have hb29:(Value.int .i64 (((b+1):Nat):Int))=(Value.int .i64 (((b:Nat):Int)+1)):=by exact congrArg (Value.int .i64) (by omega)
     refine aY (hJ8 ⟨((b+1),(fs++[m]),(fb++[b19]),rs9),⟨by omega,by simp; omega,by simp; omega,hl5_3.add hl5_1 hmb hl9_1 hl9_2 h72⟩⟩ _ _ _ rfl (by first|omega|(simp; omega)) (an.cons rfl<|an.cons rfl<|an.cons rfl<|an.cons rfl<|a_ rfl hb29<|an.nil _) (fun w hs=>St.bB [2,0,3,4,5,6,7,8,9] rfl rfl hs))
    try dsimp only
    refine rS (EX rfl)<|RK hK27<|aw fun _ hK30=>aW rfl<|WK hK30<|aH<|WS fun _ hK31=>rS (SX (nF 0 rfl rfl rfl) rfl rfl)<|rS (EX rfl)<|rS (EX rfl) ?_
    refine AL rfl oh fun b32=>AL rfl kb fun b33=>oL rfl nv rfl<|zH rfl uQ rfl rfl<|RK hK31<|WS fun _ hK34=>rS (jc 10 rfl iQ rfl)<|rS (jc 5 rfl bk rfl)<|cX (oQ gw b) (ar) rfl fun y35 hy36=>?_
    obtain ⟨x137,x238⟩:=y35
    try dsimp only
    refine RK hK34<|aH<|k4 13 rfl (by exact fun _ h=>h)<|k4 15 rfl (by exact fun _ h=>h)<|k4 17 rfl (by exact fun _ h=>h)<|k4 12 rfl (by exact fun _ h=>h) ?_
    refine kT (L0:=[(0,(Value.pointer (some ⟨gw,0,none⟩))),(1,(Value.pointer (some ⟨b2,0,none⟩))),(2,(Value.int .i64 ((ln.aa.n:Nat):Int))),(3,(Value.pointer (some ⟨b14,0,none⟩))),(4,(Value.pointer (some ⟨b32,0,none⟩))),(5,(Value.pointer (some ⟨b33,0,none⟩))),(52,(Value.int .i64 ((ln.aa.n:Nat):Int))),(53,(Value.int .i64 ((b:Nat):Int))),(71,(Value.pointer (some ⟨r25,0,none⟩)))]) (F:=[(rd e_A e.length 1 (e.map iC)).ro,(rd t_A tms.length 1 (List.zipWith cb tms tb)).ro,(c_ (aP gJ tms tb)).ro,(aU gw 117 (aK.cells (aK.mk ln ri (aA.mk e_A e.length e_C) (aA.mk t_A tms.length t_C) (aA.mk fA (ln.aa.n+1) (ln.aa.n+1)) (aA.mk bA (ln.aa.n+1) (ln.aa.n+1))))).ro,(aU x137 77 [(Value.pointer (some ⟨gw,0,none⟩))]),(aU x238 3 [(Value.int .i64 ((b:Nat):Int))])]) (fun k (y:FM)=>(j3 (bL ln ri e tms) b mb left y (t,v) k)) (fun k y=>[(aU b33 3 [(Value.int .i64 v)]),(aU b32 124 (aq.cells t)),(pM cg r25 ga (bu iV mb) (bu iV (cL left t)) (some (t,(Value.int .i64 v)))),(bw (eQ e8 fs fb b)),(jr cg b19 (bu iV y)),(aU b14 3 [(Value.int .i64 ((b:Nat):Int))]),(bw (rs9.map fu)),(aU gw 117 (aK.cells (aK.mk ln ri (aA.mk e_A e.length e_C) (aA.mk t_A tms.length t_C) (aA.mk fA (ln.aa.n+1) (ln.aa.n+1)) (aA.mk bA (ln.aa.n+1) (ln.aa.n+1))))).ro,(own fA (ln.aa.n+1) 122 1 (List.map oC (bX (fb++[b19]) (ln.aa.n+1)))),(own bA (ln.aa.n+1) 122 1 (List.map oC (List.replicate (ln.aa.n+1) (none:Option Nat)))),(aU b2 77 [(Value.pointer (some ⟨gw,0,none⟩))]),(rd e_A e.length 1 (e.map iC)).ro,(rd t_A tms.length 1 (List.zipWith cb tms tb)).ro,(c_ (aP gJ tms tb)).ro]) (fun _ (_:Unit)=>False) (fun _ _=>[]) [6,7,8,9,10,11,12,13,14,15,16,17,18,19] [3,2,1,0,4,5] m rfl rfl (nG ln ri e tms e_A e_C tb t_A t_C fA (ln.aa.n+1) (ln.aa.n+1) bA (ln.aa.n+1) (ln.aa.n+1) gw b x137 x238 (by omega) (by omega)) rfl rfl rfl (by exact j3.start hl9_1 hl9_2) (by simp only [List.forall_mem_cons,List.not_mem_nil,false_imp_iff,implies_true,and_true]; exact ⟨⟨_,List.mem_of_getElem? (i:=0) rfl,(iW (cT _))⟩,⟨_,List.mem_of_getElem? (i:=1) rfl,(iW (cT _))⟩,⟨_,List.mem_of_getElem? (i:=2) rfl,(iW (cT _))⟩,⟨_,List.mem_of_getElem? (i:=3) rfl,(iW (cT _))⟩,⟨_,List.mem_of_getElem? (i:=4) rfl,(cT _)⟩,⟨_,List.mem_of_getElem? (i:=5) rfl,(cT _)⟩⟩) (by rintro k x k2 ⟨o,_,rfl,_⟩; rfl) rfl (an.cons rfl<|an.cons rfl<|an.cons rfl<|an.cons rfl<|an.cons rfl<|an.cons rfl<|an.cons rfl<|an.cons rfl<|an.cons rfl<|an.nil _) ?_ ?_ (fun _ _ _ h=>h.elim) (fun _ _ h=>h.elim)
    rotate_left 1
    ·rintro r53 k m2 hfin hin54
     have hr0:=hin54
     try dsimp only
     refine aL<|aL<|qS (X:=rs9.map fu) 13 0 rfl rfl ?_
     try dsimp only
     refine mq (C':=[(bw ((r53::rs9).map fu)),(rd e_A e.length 1 (e.map iC)).ro,(rd t_A tms.length 1 (List.zipWith cb tms tb)).ro,(c_ (aP gJ tms tb)).ro,(aU gw 117 (aK.cells (aK.mk ln ri (aA.mk e_A e.length e_C) (aA.mk t_A tms.length t_C) (aA.mk fA (ln.aa.n+1) (ln.aa.n+1)) (aA.mk bA (ln.aa.n+1) (ln.aa.n+1))))).ro,(aU x137 77 [(Value.pointer (some ⟨gw,0,none⟩))]),(aU x238 3 [(Value.int .i64 ((b:Nat):Int))]),(aU b33 3 [(Value.int .i64 v)]),(aU b32 124 (aq.cells t)),(pM cg r25 ga (bu iV mb) (bu iV (cL left t)) none),(bw (eQ e8 fs fb b)),(jr cg b19 (bu iV m2)),(aU b14 3 [(Value.int .i64 ((b:Nat):Int))]),(aU gw 117 (aK.cells (aK.mk ln ri (aA.mk e_A e.length e_C) (aA.mk t_A tms.length t_C) (aA.mk fA (ln.aa.n+1) (ln.aa.n+1)) (aA.mk bA (ln.aa.n+1) (ln.aa.n+1))))).ro,(own fA (ln.aa.n+1) 122 1 (List.map oC (bX (fb++[b19]) (ln.aa.n+1)))),(own bA (ln.aa.n+1) 122 1 (List.map oC (List.replicate (ln.aa.n+1) (none:Option Nat)))),(aU b2 77 [(Value.pointer (some ⟨gw,0,none⟩))]),(rd e_A e.length 1 (e.map iC)).ro,(rd t_A tms.length 1 (List.zipWith cb tms tb)).ro,(c_ (aP gJ tms tb)).ro]) 9 rfl q6 rfl ?_
     refine aY (hJ26 ⟨((cL left t),m2,(r53::rs9)),⟨jw hl9_0,hr0.on,hr0.next hnd hm hfin⟩⟩ _ _ _ rfl (iH hm) (an.cons rfl<|an.cons rfl<|an.cons rfl<|an.cons rfl<|an.cons rfl<|an.cons rfl<|an.cons rfl<|an.nil _) (fun w hs=>St.bB [9,10,11,12,0,4,14,15,16,1,2,3] rfl rfl hs))
    rintro k x k2 m2 l ra rb S w1 K39 Qr40 hsz hx hin41 hK39 hQr40 xQr40 yQr40
    obtain ⟨o,ho,rfl,rfl⟩:=hx
    have hr0:=hin41
    try dsimp only
    refine WS fun _ hK42=>rS (AG rfl)<|RK hK42<|aC<|AL rfl dk fun b43=>e7 rfl cv rfl<|aX<|iz (fun _ _ h=>h) (fun w hs=>St.bB [1,0,2,3,4,5,6,7,8,9,10,11,12,13,14,15] rfl rfl hs) ?_
    refine aY (hK39 _ _ ?_)
    refine aH<|aw fun _ hK44=>dA ct [0,1,2,3,4,5,6,7,8,9,10,11,12,13,14,15,17] [16,18] [false,false,false,false,false,false,false,false,false,false,false,false,false,false,false,false,false] [false,false] [(g5 l (.loop rb)),(aU b43 47 (ab.cells o.2)),(aU b33 3 [(Value.int .i64 v)]),(aU b32 124 (aq.cells t)),(pM cg r25 ga (bu iV mb) (bu iV (cL left t)) (some (t,(Value.int .i64 v)))),(bw (eQ e8 fs fb b)),(jr cg b19 (bu iV m2)),(aU b14 3 [(Value.int .i64 ((b:Nat):Int))]),(bw (rs9.map fu)),(aU gw 117 (aK.cells (aK.mk ln ri (aA.mk e_A e.length e_C) (aA.mk t_A tms.length t_C) (aA.mk fA (ln.aa.n+1) (ln.aa.n+1)) (aA.mk bA (ln.aa.n+1) (ln.aa.n+1))))).ro,(own fA (ln.aa.n+1) 122 1 (List.map oC (bX (fb++[b19]) (ln.aa.n+1)))),(own bA (ln.aa.n+1) 122 1 (List.map oC (List.replicate (ln.aa.n+1) (none:Option Nat)))),(aU b2 77 [(Value.pointer (some ⟨gw,0,none⟩))]),(rd e_A e.length 1 (e.map iC)).ro,(rd t_A tms.length 1 (List.zipWith cb tms tb)).ro,(c_ (aP gJ tms tb)).ro] [] (by kernel_rfl) (fun w hs=>St.bB [0,1,2,3,4,5,6,7,8,9,10,11,12,13,14,15] rfl rfl hs) (fun w hs=>St.bB [] rfl rfl hs)<|eS rfl (jc 2 rfl bk rfl)<|eS rfl (jc 12 rfl iQ rfl)<|eS rfl (SX (cl rfl rfl) rfl rfl)<|eS rfl (FA 10 rfl lP rfl)<|eS rfl (l9 (Value.slice e_A e.length e_C) 9 rfl wX rfl rfl)<|eS rfl (jc 7 rfl bk rfl) ?_
    obtain ⟨y,hy⟩: ∃ y_,e[b]? =some y_:=⟨e[b]'(by omega),List.getElem?_eq_getElem _⟩
    have hym:(e.map iC)[b]? =some (iC y):=by rw [List.getElem?_map,hy]; rfl
    refine eS rfl (IA b rfl (aQ 13 rfl) di (by decide) (by omega) (by omega))<|eS rfl (ir b 0 (Value.int .i64 y) rfl bk (aQ 13 rfl) hym rfl (by decide) rfl) ?_
    have hlb:=hw.least y (List.mem_of_getElem? hy)
    have hp:=hl5_3.mem hmb (hl9_0 _ hm)
    have hfp:=xU hw _ _ hp
    have ho1:=p_ o.1
    have hob:=hw.opt ho
    have hnw:=hw.now
    dsimp only at hfp
    refine eS rfl (BI rfl (a9 ⟨by omega,by omega⟩))<|eS rfl (FA 0 rfl bP rfl)<|eS rfl (L1 (Value.int .i64 o.2.Lo) 1 rfl bk rfl rfl)<|eS rfl (MX rfl)<|eS rfl (LW 3 rfl ke rfl rfl)<|eS rfl (MV rfl)<|eS rfl (CL (x5 o.1) (ar) rfl)<|eS rfl (CL (p7 t (dI o.1) (by first|assumption|omega|(simp; done)|(simp; omega)) (by first|assumption|omega|(simp; done)|(simp; omega))) (ar) rfl)<|eS rfl (AG rfl)<|eJ rfl ?_
    refine cf rfl fun T45 hT45=>AL rfl oh fun b46=>RN hT45 [1,2,3,4,5,6,7,8,9,10,11,12,13,14,15,16] rfl rfl<|cf rfl fun T47 hT47=>e7 rfl nv rfl<|RN hT47 [1,2,3,4,5,6,7,8,9,10,11,12,13,14,15,16] rfl rfl<|fJ rfl<|KK hK44<|aw fun _ hK48=>dj ct 15 (by kernel_rfl) ?_
    refine dS (jc 13 rfl iQ rfl)<|dS (SX (cl rfl rfl) rfl rfl)<|dS (FA 12 rfl jL rfl)<|dS (l9 (Value.slice fA (ln.aa.n+1) (ln.aa.n+1)) 10 rfl j9 rfl rfl)<|dS (jc 8 rfl bk rfl)<|dS (BI rfl (a9 ⟨by omega,by omega⟩)) ?_
    have hk49:(List.map oC (bX (fb++[b19]) (ln.aa.n+1)))[(b+1)]? =some (oC (some b19)):=l0 (js (sv (by omega)))
    refine dS (IA (b+1) rfl (ak (n:=(ln.aa.n+1)) 11 rfl (by first|(simp; done)|(simp; omega))) kv (by decide) (by omega) (by omega))<|dS (ir (b+1) 0 (Value.map (some b19)) rfl lZ (ak (n:=(bX (fb++[b19]) (ln.aa.n+1)).length) 11 rfl (by simp)) hk49 rfl (by decide) rfl)<|dS (LW 0 rfl ke rfl rfl)<|dS (SX (qW (kV:=cg) (x:=(dc t (dI o.1))) (l:=m2) (f:=iV) (z:=0) rfl rfl rfl kY kU G2 (by exact aQ 7 rfl)) rfl rfl)<|dS (MV rfl)<|dS (EX rfl)<|dS (EX rfl)<|dS (AG rfl)<|dS (AG rfl)<|cE ?_
    refine RK hK48<|aw fun _ hK50=>dj ct 19 (by kernel_rfl)<|dS (MV rfl)<|dS (FA 1 rfl bZ rfl)<|dS (L1 (Value.int .i64 o.2.Hi) 2 rfl bk rfl rfl)<|dS (jc 13 rfl iQ rfl)<|dS (SX (cl rfl rfl) rfl rfl)<|dS (FA 7 rfl m6 rfl)<|dS (FA 8 rfl lj rfl) ?_
    refine dS (l9 (Value.int .i64 ri.dw) 10 rfl bk rfl rfl)<|dS (MN rfl)<|dS (BI rfl eT)<|dS (MV rfl) ?_
    refine db (t:=121) rfl (fun h121=>?_) (fun h121=>?_)
    rotate_left 1
    ·replace h121:=DF h121
     refine dS (OX rfl)<|dS (OX rfl)<|dS (OX rfl)<|dS (OX rfl)<|dS (OX rfl)<|dS (OX rfl)<|dS (OX rfl)<|dS (PK rfl)<|cE<|RK hK50 ?_
     refine bH rfl<|cH<|aL ?_
     exact hQr40 m2 _ _ (by first|exact hr0.skip (oD hy h121)|exact hr0.jd (im hy h121) (by simpa using h124) h129|exact hr0.set hp ho (im hy h121) (.inl (by simpa using h124))|exact hr0.set hp ho (im hy h121) (.inr h129)) (fun w hs=>St.bB [1,3,4,5,6,7,8,9,10,11,12,13,14,15,16] rfl rfl hs)
    replace h121:=DT h121
    refine dS (MV rfl)<|dS (NT rfl)<|dS (MV rfl) ?_
    refine db (t:=124) rfl (fun h124=>?_) (fun h124=>?_)
    ·rw [Bool.not_eq_true'] at h124
     refine dS (OX rfl)<|dS (OX rfl)<|dS (OX rfl)<|dS (PK rfl)<|dS (PK rfl)<|cE<|RK hK50<|aW rfl<|dj ct 10 (by kernel_rfl)<|dS (jc 13 rfl iQ rfl) ?_
     refine dS (SX (cl rfl rfl) rfl rfl)<|dS (FA 12 rfl jL rfl)<|dS (l9 (Value.slice fA (ln.aa.n+1) (ln.aa.n+1)) 10 rfl j9 rfl rfl)<|dS (jc 8 rfl bk rfl)<|dS (BI rfl (a9 ⟨by omega,by omega⟩)) ?_
     have hk51:(List.map oC (bX (fb++[b19]) (ln.aa.n+1)))[(b+1)]? =some (oC (some b19)):=l0 (js (sv (by omega)))
     refine dS (IA (b+1) rfl (ak (n:=(ln.aa.n+1)) 11 rfl (by first|(simp; done)|(simp; omega))) kv (by decide) (by omega) (by omega))<|dS (ir (b+1) 0 (Value.map (some b19)) rfl lZ (ak (n:=(bX (fb++[b19]) (ln.aa.n+1)).length) 11 rfl (by simp)) hk51 rfl (by decide) rfl)<|dS (LW 0 rfl ke rfl rfl)<|dS (MV rfl)<|cE<|g8 (kV:=cg) (x:=(dc t (dI o.1))) (C':=[_,_,_,_,_,_,_,(jr cg b19 (bu iV (dz m2 (dc t (dI o.1)) (max (v+y) o.2.Lo)))),_,_,_,_,_,_,_,_,_]) 7 rfl rfl rfl rfl kY kU rfl (e9 _ _ _ _).symm rfl<|aX<|aL ?_
     exact hQr40 (dz m2 (dc t (dI o.1)) (max (v+y) o.2.Lo)) _ _ (by first|exact hr0.skip (oD hy h121)|exact hr0.jd (im hy h121) (by simpa using h124) h129|exact hr0.set hp ho (im hy h121) (.inl (by simpa using h124))|exact hr0.set hp ho (im hy h121) (.inr h129)) (fun w hs=>St.bB [1,3,4,5,6,7,8,9,10,11,12,13,14,15,16] rfl rfl hs)
    rw [Bool.not_eq_false'] at h124
    refine dS (MV rfl)<|dS (MV rfl)<|dS (BI rfl cq)<|dS (PK rfl)<|dS (PK rfl)<|cE<|RK hK50 ?_
    refine bp rfl (fun h129=>?_) (fun h129=>?_)
    rotate_left 1
    ·replace h129:=DF h129
     refine cH<|aL ?_
     exact hQr40 m2 _ _ (by first|exact hr0.skip (oD hy h121)|exact hr0.jd (im hy h121) (by simpa using h124) h129|exact hr0.set hp ho (im hy h121) (.inl (by simpa using h124))|exact hr0.set hp ho (im hy h121) (.inr h129)) (fun w hs=>St.bB [1,3,4,5,6,7,8,9,10,11,12,13,14,15,16] rfl rfl hs)
    replace h129:=DT h129
    refine dj ct 10 (by kernel_rfl)<|dS (jc 13 rfl iQ rfl)<|dS (SX (cl rfl rfl) rfl rfl)<|dS (FA 12 rfl jL rfl)<|dS (l9 (Value.slice fA (ln.aa.n+1) (ln.aa.n+1)) 10 rfl j9 rfl rfl)<|dS (jc 8 rfl bk rfl)<|dS (BI rfl (a9 ⟨by omega,by omega⟩)) ?_
    have hk52:(List.map oC (bX (fb++[b19]) (ln.aa.n+1)))[(b+1)]? =some (oC (some b19)):=l0 (js (sv (by omega)))
    refine dS (IA (b+1) rfl (ak (n:=(ln.aa.n+1)) 11 rfl (by first|(simp; done)|(simp; omega))) kv (by decide) (by omega) (by omega))<|dS (ir (b+1) 0 (Value.map (some b19)) rfl lZ (ak (n:=(bX (fb++[b19]) (ln.aa.n+1)).length) 11 rfl (by simp)) hk52 rfl (by decide) rfl)<|dS (LW 0 rfl ke rfl rfl)<|dS (MV rfl)<|cE<|g8 (kV:=cg) (x:=(dc t (dI o.1))) (C':=[_,_,_,_,_,_,_,(jr cg b19 (bu iV (dz m2 (dc t (dI o.1)) (max (v+y) o.2.Lo)))),_,_,_,_,_,_,_,_,_]) 7 rfl rfl rfl rfl kY kU rfl (e9 _ _ _ _).symm rfl<|aX<|aL ?_
    exact hQr40 (dz m2 (dc t (dI o.1)) (max (v+y) o.2.Lo)) _ _ (by first|exact hr0.skip (oD hy h121)|exact hr0.jd (im hy h121) (by simpa using h124) h129|exact hr0.set hp ho (im hy h121) (.inl (by simpa using h124))|exact hr0.set hp ho (im hy h121) (.inr h129)) (fun w hs=>St.bB [1,3,4,5,6,7,8,9,10,11,12,13,14,15,16] rfl rfl hs)
   replace h11:=DF h11
   refine bM<|ai<|ai<|aI<|KK hK6<|WS fun _ hK55=>rS (MV rfl)<|AL rfl kb fun b56=>zH rfl uQ rfl rfl<|RK hK55 ?_
   refine aH ?_
   rw [wY]
   refine pq ?_
   have hinit:(0≤ln.aa.n+1)∧(([]:List FM).length=0)∧(([]:List Nat).length=0)∧(eI (bL ln ri e tms) (ln.aa.n+1-0) ([]:List FM)):=by exact ⟨Nat.zero_le _,rfl,rfl,eI.none_⟩
   refine mZ (ι:={z:Nat×(List FM)×(List Nat)×Nat×(List Nat) // (z.1≤ln.aa.n+1)∧(z.2.1.length=z.1)∧(z.2.2.1.length=z.1)∧(eI (bL ln ri e tms) (ln.aa.n+1-z.1) z.2.1)}) (fun z=>z.1.2.2.2.2.map iG) (fun z=>[(0,(Value.pointer (some ⟨gw,0,none⟩))),(1,(Value.pointer (some ⟨b2,0,none⟩))),(2,(Value.int .i64 ((ln.aa.n:Nat):Int))),(12,(Value.pointer (some ⟨z.1.2.2.2.1,0,none⟩)))]) (fun z=>[(bw (aP e8 z.1.2.1 z.1.2.2.1)),(aU z.1.2.2.2.1 3 [(Value.int .i64 (((ln.aa.n:Nat):Int)-((z.1.1:Nat):Int)))]),(bw (z.1.2.2.2.2.map fu)),(bw (aP e8 fs fb)),(aU gw 117 (aK.cells (aK.mk ln ri (aA.mk e_A e.length e_C) (aA.mk t_A tms.length t_C) (aA.mk fA (ln.aa.n+1) (ln.aa.n+1)) (aA.mk bA (ln.aa.n+1) (ln.aa.n+1))))).ro,(own fA (ln.aa.n+1) 122 1 (List.map oC (bX fb (ln.aa.n+1)))),(own bA (ln.aa.n+1) 122 1 (List.map oC (eD z.1.2.2.1 (ln.aa.n+1)))),(aU b2 77 [(Value.pointer (some ⟨gw,0,none⟩))]),(rd e_A e.length 1 (e.map iC)).ro,(rd t_A tms.length 1 (List.zipWith cb tms tb)).ro,(c_ (aP gJ tms tb)).ro]) (fun z=>ln.aa.n+1-z.1.1) ⟨(0,([]:List FM),([]:List Nat),b56,rs5),hinit⟩ rfl (an.cons rfl<|an.cons rfl<|an.cons rfl<|an.cons rfl<|an.nil _) (fun w hs=>St.bB [0,1,2,3,4,5,6,7,8,9,10] rfl rfl hs) ?_
   clear hinit
   rintro ⟨⟨j,bs,bb,gq,rs20⟩,⟨hl20_0,hl20_1,hl20_2,hl20_3⟩⟩ J57 hJ57
   try dsimp only at hl20_0 hl20_1 hl20_2 hl20_3
   try dsimp only
   refine aw fun _ hK58=>WS fun _ hK59=>rS (jc 1 rfl bk rfl)<|rS (BI rfl il)<|RK hK59 ?_
   refine bp rfl (fun h143=>?_) (fun h143=>?_)
   rotate_left 1
   ·replace h143:=DF h143
    refine bM<|ai<|ai<|aI ?_
    rw [show (List.map oC (bX fb (ln.aa.n+1)))=(List.zipWith cb fs fb) from by rw [rH (by omega)]; exact (sG (by omega)).symm]
    rw [show (List.map oC (eD bb (ln.aa.n+1)))=(List.zipWith cb bs bb) from by rw [wW (by omega)]; exact (sG (by omega)).symm]
    refine BP (C1:=[(own fA (ln.aa.n+1) 122 1 (List.zipWith cb fs fb)),(bw (aP e8 fs fb)),(own bA (ln.aa.n+1) 122 1 (List.zipWith cb bs bb)),(bw (aP e8 bs bb)),(bw (rs20.map fu))]) hz [5,3,6,0,2] rfl rfl (by simp only [List.all_cons,List.all_nil,g4,z7,Bool.and_true]; rfl) ?_
    rw [show (aU gw 117 (aK.cells (aK.mk ln ri (aA.mk e_A e.length e_C) (aA.mk t_A tms.length t_C) (aA.mk fA (ln.aa.n+1) (ln.aa.n+1)) (aA.mk bA (ln.aa.n+1) (ln.aa.n+1)))))=(aU gw 117 (aK.cells (aK.mk ln ri (aA.mk e_A e.length e_C) (aA.mk t_A tms.length t_C) (aA.mk fA fs.length (ln.aa.n+1)) (aA.mk bA bs.length (ln.aa.n+1))))) from by rw [show fs.length=(ln.aa.n+1) from by omega,show bs.length=(ln.aa.n+1) from by omega]]
    refine CQ [(aU gw 117 (aK.cells (aK.mk ln ri (aA.mk e_A e.length e_C) (aA.mk t_A tms.length t_C) (aA.mk fA fs.length (ln.aa.n+1)) (aA.mk bA bs.length (ln.aa.n+1))))),(own fA (ln.aa.n+1) 122 1 (List.zipWith cb fs fb)),(bw (aP e8 fs fb)),(own bA (ln.aa.n+1) 122 1 (List.zipWith cb bs bb)),(bw (aP e8 bs bb))] [(bw (rs20.map fu))] ?_
    refine hN _ _ _ (qc 1 rfl rfl<|bD (vs:=[]) trivial fun w hs=>z6 (fs,fb,fA,(ln.aa.n+1),bs,bb,bA,(ln.aa.n+1)) 0 ?_ ?_ rfl (by show List.all _ _=true; simp only [List.all_cons,List.all_nil,g4,Bool.and_true]; rfl) hs)
    ·clear hs w hQ hN hK59 hK58 hK55 hK10 hK9 hK7 hK6 hK3 hK1; rfl
    ·clear hs w hQ hN hK59 hK58 hK55 hK10 hK9 hK7 hK6 hK3 hK1; exact ⟨hl5_3.ok (by show fs.length=e.length+1; omega),eI.ok (by have:=hl20_3; rwa [show ln.aa.n+1-j=0 by omega] at this) (by show bs.length=e.length+1; omega),by dsimp only; omega,by dsimp only; omega⟩
   replace h143:=DT h143
   refine WK hK58<|aw fun _ hK60=>aH<|aw fun _ hK61=>?_
   obtain ⟨b,hbj⟩: ∃ b:Nat,b+j=ln.aa.n:=⟨ln.aa.n-j,by omega⟩
   rw [show ((ln.aa.n:Nat):Int)-((j:Nat):Int)=((b:Nat):Int) from by omega]
   have hlb0:(eD bb (ln.aa.n+1)).length=(ln.aa.n+1):=rA (by omega)
   refine dA ct [0,1,2,3,4,6,7,8,9,10,11,14] [5,12,13,15] [false,false,false,false,false,false,false,false,false,false,false,true] [true,true,true,false] [(bw (aP e8 bs bb)),(aU gq 3 [(Value.int .i64 ((b:Nat):Int))]),(bw (rs20.map fu)),(bw (aP e8 fs fb)),(aU gw 117 (aK.cells (aK.mk ln ri (aA.mk e_A e.length e_C) (aA.mk t_A tms.length t_C) (aA.mk fA (ln.aa.n+1) (ln.aa.n+1)) (aA.mk bA (ln.aa.n+1) (ln.aa.n+1))))).ro,(own fA (ln.aa.n+1) 122 1 (List.map oC (bX fb (ln.aa.n+1)))),(aU b2 77 [(Value.pointer (some ⟨gw,0,none⟩))]),(rd e_A e.length 1 (e.map iC)).ro,(rd t_A tms.length 1 (List.zipWith cb tms tb)).ro,(c_ (aP gJ tms tb)).ro] [(bw (aP e8 bs bb)),(aU gq 3 [(Value.int .i64 ((b:Nat):Int))]),(bw (rs20.map fu)),(bw (aP e8 fs fb)),(aU gw 117 (aK.cells (aK.mk ln ri (aA.mk e_A e.length e_C) (aA.mk t_A tms.length t_C) (aA.mk fA (ln.aa.n+1) (ln.aa.n+1)) (aA.mk bA (ln.aa.n+1) (ln.aa.n+1))))).ro,(own fA (ln.aa.n+1) 122 1 (List.map oC (bX fb (ln.aa.n+1)))),(own bA (ln.aa.n+1) 122 1 (List.map oC (eD bb (ln.aa.n+1)))),(aU b2 77 [(Value.pointer (some ⟨gw,0,none⟩))]),(rd e_A e.length 1 (e.map iC)).ro,(rd t_A tms.length 1 (List.zipWith cb tms tb)).ro,(c_ (aP gJ tms tb)).ro] (by kernel_rfl) (fun w hs=>St.bB [0,1,2,3,4,5,7,8,9,10] rfl rfl hs) (fun w hs=>St.bB [0,1,2,3,4,5,6,7,8,9,10] rfl rfl hs)<|eS rfl (jc 6 rfl iQ rfl)<|eS rfl (SX (cl rfl rfl) rfl rfl)<|eS rfl (FA 13 rfl lu rfl)<|eS rfl (l9 (Value.slice bA (ln.aa.n+1) (ln.aa.n+1)) 4 rfl j9 rfl rfl)<|eS rfl (jc 1 rfl bk rfl)<|eS rfl (SX (aS (xs:=[]) (cs:=(aq.cells (aq.mk 0 0))) rfl rfl (aR tU rfl)) rfl rfl)<|eS rfl (jc 6 rfl iQ rfl)<|eS rfl (SX (cl rfl rfl) rfl rfl)<|eS rfl (FA 7 rfl m6 rfl) ?_
   refine eS rfl (FA 8 rfl lj rfl)<|eS rfl (l9 (Value.int .i64 ri.dw) 4 rfl bk rfl rfl) ?_
   obtain ⟨x62,hx63⟩: ∃ y_,(eD bb (ln.aa.n+1))[b]? =some y_:=⟨(eD bb (ln.aa.n+1))[b]'(by omega),List.getElem?_eq_getElem _⟩
   have hx63m:(List.map oC (eD bb (ln.aa.n+1)))[b]? =some (oC x62):=by rw [List.getElem?_map,hx63]; rfl
   refine fS rfl (IA b rfl (ak (n:=(ln.aa.n+1)) 6 rfl (by first|(simp; done)|(simp; omega))) kv (by decide) (by omega) (by omega))<|eJ rfl<|jM rfl fun T64 hT64=>k3 (kV:=cg) rfl rfl fun b65=>?_
   try dsimp only
   refine aX (hT64 _ _ (fun w hs=>St.bB [1,2,3,4,5,6,8,9,10,11] rfl rfl hs) (fun w hs=>St.bB [1,2,3,4,5,6,7,8,9,10,11] rfl rfl hs) ?_)
   refine jM rfl fun T66 hT66=>?_
   have hb67:(dz ([]:List (aq×Int)) (aq.mk 0 0) ri.dw)=[((aq.mk 0 0),ri.dw)]:=by rfl
   refine rF (kV:=cg) (x:=(aq.mk 0 0)) (C':=[(jr cg b65 (bu iV ([((aq.mk 0 0),ri.dw)]))),_,_,_,_,_,_,_,_,_,_,_]) 0 rfl rfl rfl rfl kY kU rfl ((e9 _ _ _ _).symm.trans (congrArg _ hb67)) rfl ?_
   refine aX (hT66 _ _ (fun w hs=>St.bB [1,2,3,4,5,6,8,9,10,11] rfl rfl hs) (fun w hs=>St.bB [1,2,3,4,5,6,7,8,9,10,11] rfl rfl hs) ?_)
   refine jM rfl fun T68 hT68=>rS (MV rfl) ?_
   refine aX (hT68 _ _ (fun w hs=>St.bB [1,2,3,4,5,6,8,9,10,11] rfl rfl hs) (fun w hs=>St.bB [1,2,3,4,5,6,7,8,9,10,11] rfl rfl hs) ?_)
   refine cf rfl fun T69 hT69=>?_
   have hb70:((eD bb (ln.aa.n+1)).set b (some b65))=(eD (b65::bb) (ln.aa.n+1)):=by exact wj (by omega)
   refine dy (k:=b) (o:=0) (vs:=[(Value.map (some b65))]) (es':=(List.map oC (eD (b65::bb) (ln.aa.n+1)))) (C':=[_,_,_,_,_,_,_,(own bA (ln.aa.n+1) 122 1 (List.map oC (eD (b65::bb) (ln.aa.n+1)))),_,_,_,_]) 7 rfl rfl rfl xI rfl rfl rfl rfl hx63m rfl (by decide) (by exact (List.map_set (f:=oC) (l:=(eD bb (ln.aa.n+1))) (i:=b) (a:=(some b65))).symm.trans (congrArg _ hb70)) rfl<|RN hT69 [1,2,3,4,5,6,8,9,10,11] rfl rfl<|fJ rfl<|KK hK61<|aw fun _ hK71=>WS fun _ hK72=>rS (jc 2 rfl bk rfl)<|rS (MV rfl)<|rS (BI rfl eC)<|RK hK72 ?_
   refine bp rfl (fun h162=>?_) (fun h162=>?_)
   ·replace h162:=DT h162
    refine bM<|ai<|aI<|KK hK60<|aw fun _ hK73=>WS fun _ hK74=>rS (jc 2 rfl bk rfl)<|RK hK74<|aC<|AL rfl kb fun b75=>?_
    refine zH rfl uQ rfl rfl<|RK hK73<|aC<|rS (jc 0 rfl bk rfl)<|rS (BI rfl (cr ⟨by omega,by omega⟩))<|zH rfl uQ rfl rfl<|aX ?_
    rw [show ((b:Nat):Int)-1=((ln.aa.n:Nat):Int)-(((j+1):Nat):Int) from by omega]
    refine r_ (ms:=bs) (m:=[((aq.mk 0 0),ri.dw)]) (a:=b65) 2 1 rfl rfl rfl ?_
    try dsimp only
    refine aY (hJ57 ⟨((j+1),([((aq.mk 0 0),ri.dw)]::bs),(b65::bb),b75,rs20),⟨by omega,by simp; omega,by simp; omega,by first|exact eI.end_ (b:=b) hl20_3 (by omega) (by omega) (by show e.length≤b; omega)|exact eI.more (b:=b) hl20_3 (by omega) (by omega) (by show b<e.length; omega) hmb hl25_1 hl25_2 h172⟩⟩ _ _ _ rfl (by first|omega|(simp; omega)) (an.cons rfl<|an.cons rfl<|an.cons rfl<|an.cons rfl<|an.nil _) (fun w hs=>St.bB [0,1,3,4,5,6,7,8,9,10,11] rfl rfl hs))
   replace h162:=DF h162
   refine WK hK71<|aw fun _ hK76=>?_
   have hlq77:(eD (b65::bb) (ln.aa.n+1)).length=(ln.aa.n+1):=rA (by simp; omega)
   obtain ⟨mb,hmb⟩: ∃ y_,bs[0]? =some y_:=⟨bs[0]'(by omega),List.getElem?_eq_getElem _⟩
   obtain ⟨ga,hga⟩: ∃ y_,bb[0]? =some y_:=⟨bb[0]'(by omega),List.getElem?_eq_getElem _⟩
   refine sa 1 hmb hga rfl rfl rfl ?_
   try dsimp only
   refine dj ct 8 (by kernel_rfl)<|dS (jc 9 rfl iQ rfl)<|dS (SX (cl rfl rfl) rfl rfl)<|dS (FA 13 rfl lu rfl)<|dS (l9 (Value.slice bA (ln.aa.n+1) (ln.aa.n+1)) 6 rfl j9 rfl rfl)<|dS (jc 3 rfl bk rfl)<|dS (BI rfl (a9 ⟨by omega,by omega⟩)) ?_
   have hk78:(List.map oC (eD (b65::bb) (ln.aa.n+1)))[(b+1)]? =some (oC (some ga)):=l0 (nY (i:=1) (by simpa using hga) (by simp; omega))
   refine dS (IA (b+1) rfl (ak (n:=(ln.aa.n+1)) 8 rfl (by first|(simp; done)|(simp; omega))) kv (by decide) (by omega) (by omega))<|dS (ir (b+1) 0 (Value.map (some ga)) rfl lZ (ak (n:=(eD (b65::bb) (ln.aa.n+1)).length) 8 rfl (by simp)) hk78 rfl (by decide) rfl)<|cE<|o1 0 rfl rfl kY rfl rfl fun r79=>?_
   try dsimp only
   refine RK hK76<|aH ?_
   have hinit:(∀ p∈mb,p∈mb)∧(pO (bL ln ri e tms) b ([((aq.mk 0 0),ri.dw)]))∧(gL (bL ln ri e tms) b mb ([((aq.mk 0 0),ri.dw)]) mb):=by exact ⟨fun p hp=>hp,pO.start (by show b<e.length; omega),gL.start⟩
   refine mZ (ι:={z:FM×FM×(List Nat) // (∀ p∈z.1,p∈mb)∧(pO (bL ln ri e tms) b z.2.1)∧(gL (bL ln ri e tms) b mb z.2.1 z.1)}) (fun z=>z.1.2.2.map iG) (fun z=>[(0,(Value.pointer (some ⟨gw,0,none⟩))),(1,(Value.pointer (some ⟨b2,0,none⟩))),(2,(Value.int .i64 ((ln.aa.n:Nat):Int))),(12,(Value.pointer (some ⟨gq,0,none⟩))),(171,(Value.pointer (some ⟨r79,0,none⟩)))]) (fun z=>[(pM cg r79 ga (bu iV mb) (bu iV z.1.1) none),(bw (eQ e8 bs bb 0)),(jr cg b65 (bu iV z.1.2.1)),(aU gq 3 [(Value.int .i64 ((b:Nat):Int))]),(bw (z.1.2.2.map fu)),(bw (aP e8 fs fb)),(aU gw 117 (aK.cells (aK.mk ln ri (aA.mk e_A e.length e_C) (aA.mk t_A tms.length t_C) (aA.mk fA (ln.aa.n+1) (ln.aa.n+1)) (aA.mk bA (ln.aa.n+1) (ln.aa.n+1))))).ro,(own fA (ln.aa.n+1) 122 1 (List.map oC (bX fb (ln.aa.n+1)))),(own bA (ln.aa.n+1) 122 1 (List.map oC (eD (b65::bb) (ln.aa.n+1)))),(aU b2 77 [(Value.pointer (some ⟨gw,0,none⟩))]),(rd e_A e.length 1 (e.map iC)).ro,(rd t_A tms.length 1 (List.zipWith cb tms tb)).ro,(c_ (aP gJ tms tb)).ro]) (fun z=>z.1.1.length) ⟨(mb,[((aq.mk 0 0),ri.dw)],rs20),hinit⟩ rfl (an.cons rfl<|an.cons rfl<|an.cons rfl<|an.cons rfl<|an.cons rfl<|an.nil _) (fun w hs=>St.bB [0,1,2,3,4,5,6,7,8,9,10,11,12] rfl rfl hs) ?_
   clear hinit
   rintro ⟨⟨left,m,rs25⟩,⟨hl25_0,hl25_1,hl25_2⟩⟩ J80 hJ80
   try dsimp only at hl25_0 hl25_1 hl25_2
   try dsimp only
   refine WS fun _ hK81=>?_
   refine nE kU.inj (f:=iV) 0 rfl rfl rfl rfl (fun h172=>?_) (fun t v hm hnd=>?_)
   ·refine rS (EX rfl) ?_
    refine RK hK81<|aw fun _ hK82=>bH rfl<|bM<|ai<|ai<|aI<|aL<|KK hK60<|aw fun _ hK83=>?_
    refine WS fun _ hK84=>rS (jc 3 rfl bk rfl)<|RK hK84<|aC<|AL rfl kb fun b85=>zH rfl uQ rfl rfl<|RK hK83<|aC<|rS (jc 0 rfl bk rfl)<|rS (BI rfl (cr ⟨by omega,by omega⟩)) ?_
    refine zH rfl uQ rfl rfl<|aX<|mq (C':=[(aU b85 3 [(Value.int .i64 (((b:Nat):Int)-1))]),(jr cg ga (bu iV mb)),(bw (eQ e8 bs bb 0)),(jr cg b65 (bu iV m)),(aU gq 3 [(Value.int .i64 ((b:Nat):Int))]),(bw (rs25.map fu)),(bw (aP e8 fs fb)),(aU gw 117 (aK.cells (aK.mk ln ri (aA.mk e_A e.length e_C) (aA.mk t_A tms.length t_C) (aA.mk fA (ln.aa.n+1) (ln.aa.n+1)) (aA.mk bA (ln.aa.n+1) (ln.aa.n+1))))).ro,(own fA (ln.aa.n+1) 122 1 (List.map oC (bX fb (ln.aa.n+1)))),(own bA (ln.aa.n+1) 122 1 (List.map oC (eD (b65::bb) (ln.aa.n+1)))),(aU b2 77 [(Value.pointer (some ⟨gw,0,none⟩))]),(rd e_A e.length 1 (e.map iC)).ro,(rd t_A tms.length 1 (List.zipWith cb tms tb)).ro,(c_ (aP gJ tms tb)).ro]) 1 rfl xV rfl<|yS 2 1 hmb hga rfl rfl rfl ?_
    try dsimp only
    rw [show ((b:Nat):Int)-1=((ln.aa.n:Nat):Int)-(((j+1):Nat):Int) from by omega]
    refine r_ (ms:=bs) (m:=m) (a:=b65) 0 2 rfl rfl rfl ?_
    try dsimp only
    refine aY (hJ57 ⟨((j+1),(m::bs),(b65::bb),b85,rs25),⟨by omega,by simp; omega,by simp; omega,by first|exact eI.end_ (b:=b) hl20_3 (by omega) (by omega) (by show e.length≤b; omega)|exact eI.more (b:=b) hl20_3 (by omega) (by omega) (by show b<e.length; omega) hmb hl25_1 hl25_2 h172⟩⟩ _ _ _ rfl (by first|omega|(simp; omega)) (an.cons rfl<|an.cons rfl<|an.cons rfl<|an.cons rfl<|an.nil _) (fun w hs=>St.bB [0,1,3,4,5,6,7,8,9,10,11] rfl rfl hs))
   try dsimp only
   refine rS (EX rfl)<|RK hK81<|aw fun _ hK86=>aW rfl<|WK hK86<|aH<|WS fun _ hK87=>rS (SX (nF 0 rfl rfl rfl) rfl rfl)<|rS (EX rfl)<|rS (EX rfl) ?_
   refine AL rfl oh fun b88=>AL rfl kb fun b89=>oL rfl nv rfl<|zH rfl uQ rfl rfl<|RK hK87<|WS fun _ hK90=>rS (jc 11 rfl iQ rfl)<|rS (jc 5 rfl bk rfl)<|cX (oQ gw b) (ar) rfl fun y91 hy92=>?_
   obtain ⟨x193,x294⟩:=y91
   try dsimp only
   refine RK hK90<|aH<|k4 14 rfl (by exact fun _ h=>h)<|k4 16 rfl (by exact fun _ h=>h)<|k4 18 rfl (by exact fun _ h=>h)<|k4 13 rfl (by exact fun _ h=>h) ?_
   refine kT (L0:=[(0,(Value.pointer (some ⟨gw,0,none⟩))),(1,(Value.pointer (some ⟨b2,0,none⟩))),(2,(Value.int .i64 ((ln.aa.n:Nat):Int))),(12,(Value.pointer (some ⟨gq,0,none⟩))),(13,(Value.pointer (some ⟨b88,0,none⟩))),(14,(Value.pointer (some ⟨b89,0,none⟩))),(171,(Value.pointer (some ⟨r79,0,none⟩)))]) (F:=[(rd e_A e.length 1 (e.map iC)).ro,(rd t_A tms.length 1 (List.zipWith cb tms tb)).ro,(c_ (aP gJ tms tb)).ro,(aU gw 117 (aK.cells (aK.mk ln ri (aA.mk e_A e.length e_C) (aA.mk t_A tms.length t_C) (aA.mk fA (ln.aa.n+1) (ln.aa.n+1)) (aA.mk bA (ln.aa.n+1) (ln.aa.n+1))))).ro,(aU x193 77 [(Value.pointer (some ⟨gw,0,none⟩))]),(aU x294 3 [(Value.int .i64 ((b:Nat):Int))])]) (fun k (y:FM)=>(j2 (bL ln ri e tms) b mb left y (t,v) k)) (fun k y=>[(aU b89 3 [(Value.int .i64 v)]),(aU b88 124 (aq.cells t)),(pM cg r79 ga (bu iV mb) (bu iV (cL left t)) (some (t,(Value.int .i64 v)))),(bw (eQ e8 bs bb 0)),(jr cg b65 (bu iV y)),(aU gq 3 [(Value.int .i64 ((b:Nat):Int))]),(bw (rs25.map fu)),(bw (aP e8 fs fb)),(aU gw 117 (aK.cells (aK.mk ln ri (aA.mk e_A e.length e_C) (aA.mk t_A tms.length t_C) (aA.mk fA (ln.aa.n+1) (ln.aa.n+1)) (aA.mk bA (ln.aa.n+1) (ln.aa.n+1))))).ro,(own fA (ln.aa.n+1) 122 1 (List.map oC (bX fb (ln.aa.n+1)))),(own bA (ln.aa.n+1) 122 1 (List.map oC (eD (b65::bb) (ln.aa.n+1)))),(aU b2 77 [(Value.pointer (some ⟨gw,0,none⟩))]),(rd e_A e.length 1 (e.map iC)).ro,(rd t_A tms.length 1 (List.zipWith cb tms tb)).ro,(c_ (aP gJ tms tb)).ro]) (fun _ (_:Unit)=>False) (fun _ _=>[]) [6,7,8,9,10,11,12,13,14,15,16,17,18,19,20] [3,2,1,0,4,5] m rfl rfl (nG ln ri e tms e_A e_C tb t_A t_C fA (ln.aa.n+1) (ln.aa.n+1) bA (ln.aa.n+1) (ln.aa.n+1) gw b x193 x294 (by omega) (by omega)) rfl rfl rfl (by exact j2.start hl25_1 hl25_2) (by simp only [List.forall_mem_cons,List.not_mem_nil,false_imp_iff,implies_true,and_true]; exact ⟨⟨_,List.mem_of_getElem? (i:=0) rfl,(iW (cT _))⟩,⟨_,List.mem_of_getElem? (i:=1) rfl,(iW (cT _))⟩,⟨_,List.mem_of_getElem? (i:=2) rfl,(iW (cT _))⟩,⟨_,List.mem_of_getElem? (i:=3) rfl,(iW (cT _))⟩,⟨_,List.mem_of_getElem? (i:=4) rfl,(cT _)⟩,⟨_,List.mem_of_getElem? (i:=5) rfl,(cT _)⟩⟩) (by rintro k x k2 ⟨o,_,rfl,_⟩; rfl) rfl (an.cons rfl<|an.cons rfl<|an.cons rfl<|an.cons rfl<|an.cons rfl<|an.cons rfl<|an.cons rfl<|an.nil _) ?_ ?_ (fun _ _ _ h=>h.elim) (fun _ _ h=>h.elim)
   rotate_left 1
   ·rintro r109 k m2 hfin hin110
    have hr0:=hin110
    try dsimp only
    refine aL<|aL<|qS (X:=rs25.map fu) 13 0 rfl rfl ?_
    try dsimp only
    refine mq (C':=[(bw ((r109::rs25).map fu)),(rd e_A e.length 1 (e.map iC)).ro,(rd t_A tms.length 1 (List.zipWith cb tms tb)).ro,(c_ (aP gJ tms tb)).ro,(aU gw 117 (aK.cells (aK.mk ln ri (aA.mk e_A e.length e_C) (aA.mk t_A tms.length t_C) (aA.mk fA (ln.aa.n+1) (ln.aa.n+1)) (aA.mk bA (ln.aa.n+1) (ln.aa.n+1))))).ro,(aU x193 77 [(Value.pointer (some ⟨gw,0,none⟩))]),(aU x294 3 [(Value.int .i64 ((b:Nat):Int))]),(aU b89 3 [(Value.int .i64 v)]),(aU b88 124 (aq.cells t)),(pM cg r79 ga (bu iV mb) (bu iV (cL left t)) none),(bw (eQ e8 bs bb 0)),(jr cg b65 (bu iV m2)),(aU gq 3 [(Value.int .i64 ((b:Nat):Int))]),(bw (aP e8 fs fb)),(aU gw 117 (aK.cells (aK.mk ln ri (aA.mk e_A e.length e_C) (aA.mk t_A tms.length t_C) (aA.mk fA (ln.aa.n+1) (ln.aa.n+1)) (aA.mk bA (ln.aa.n+1) (ln.aa.n+1))))).ro,(own fA (ln.aa.n+1) 122 1 (List.map oC (bX fb (ln.aa.n+1)))),(own bA (ln.aa.n+1) 122 1 (List.map oC (eD (b65::bb) (ln.aa.n+1)))),(aU b2 77 [(Value.pointer (some ⟨gw,0,none⟩))]),(rd e_A e.length 1 (e.map iC)).ro,(rd t_A tms.length 1 (List.zipWith cb tms tb)).ro,(c_ (aP gJ tms tb)).ro]) 9 rfl q6 rfl ?_
    refine aY (hJ80 ⟨((cL left t),m2,(r109::rs25)),⟨jw hl25_0,hr0.on,hr0.next hnd hm hfin⟩⟩ _ _ _ rfl (iH hm) (an.cons rfl<|an.cons rfl<|an.cons rfl<|an.cons rfl<|an.cons rfl<|an.nil _) (fun w hs=>St.bB [9,10,11,12,0,13,4,15,16,17,1,2,3] rfl rfl hs))
   rintro k x k2 m2 l ra rb S w1 K95 Qr96 hsz hx hin97 hK95 hQr96 xQr96 yQr96
   obtain ⟨o,ho,rfl,rfl⟩:=hx
   have hr0:=hin97
   try dsimp only
   refine WS fun _ hK98=>rS (AG rfl)<|RK hK98<|aC<|AL rfl dk fun b99=>e7 rfl cv rfl<|aX<|iz (fun _ _ h=>h) (fun w hs=>St.bB [1,0,2,3,4,5,6,7,8,9,10,11,12,13,14,15,16] rfl rfl hs) ?_
   refine aY (hK95 _ _ ?_)
   refine aH<|aw fun _ hK100=>dA ct [0,1,2,3,4,5,6,7,8,9,10,11,12,13,14,15,17] [16,18] [false,false,false,false,false,false,false,false,false,false,false,false,false,false,false,false,false] [false,false] [(g5 l (.loop rb)),(aU b99 47 (ab.cells o.2)),(aU b89 3 [(Value.int .i64 v)]),(aU b88 124 (aq.cells t)),(pM cg r79 ga (bu iV mb) (bu iV (cL left t)) (some (t,(Value.int .i64 v)))),(bw (eQ e8 bs bb 0)),(jr cg b65 (bu iV m2)),(aU gq 3 [(Value.int .i64 ((b:Nat):Int))]),(bw (rs25.map fu)),(bw (aP e8 fs fb)),(aU gw 117 (aK.cells (aK.mk ln ri (aA.mk e_A e.length e_C) (aA.mk t_A tms.length t_C) (aA.mk fA (ln.aa.n+1) (ln.aa.n+1)) (aA.mk bA (ln.aa.n+1) (ln.aa.n+1))))).ro,(own fA (ln.aa.n+1) 122 1 (List.map oC (bX fb (ln.aa.n+1)))),(own bA (ln.aa.n+1) 122 1 (List.map oC (eD (b65::bb) (ln.aa.n+1)))),(aU b2 77 [(Value.pointer (some ⟨gw,0,none⟩))]),(rd e_A e.length 1 (e.map iC)).ro,(rd t_A tms.length 1 (List.zipWith cb tms tb)).ro,(c_ (aP gJ tms tb)).ro] [] (by kernel_rfl) (fun w hs=>St.bB [0,1,2,3,4,5,6,7,8,9,10,11,12,13,14,15,16] rfl rfl hs) (fun w hs=>St.bB [] rfl rfl hs)<|eS rfl (jc 2 rfl bk rfl)<|eS rfl (FA 1 rfl bZ rfl)<|eS rfl (L1 (Value.int .i64 o.2.Hi) 1 rfl bk rfl rfl) ?_
   have hp:=hl20_3.Fc (b:=b) (by omega) hmb (hl25_0 _ hm)
   have hbp:=ya hw hp
   have ho1:=p_ o.1
   have hob:=hw.opt ho
   dsimp only at hbp
   refine eS rfl (MN rfl)<|eS rfl (jc 13 rfl iQ rfl)<|eS rfl (SX (cl rfl rfl) rfl rfl)<|eS rfl (FA 10 rfl lP rfl)<|eS rfl (l9 (Value.slice e_A e.length e_C) 10 rfl wX rfl rfl)<|eS rfl (jc 7 rfl bk rfl) ?_
   obtain ⟨y,hy⟩: ∃ y_,e[b]? =some y_:=⟨e[b]'(by omega),List.getElem?_eq_getElem _⟩
   have hym:(e.map iC)[b]? =some (iC y):=by rw [List.getElem?_map,hy]; rfl
   refine eS rfl (IA b rfl (aQ 14 rfl) di (by decide) (by omega) (by omega))<|eS rfl (ir b 0 (Value.int .i64 y) rfl bk (aQ 14 rfl) hym rfl (by decide) rfl) ?_
   have hlb:=hw.least y (List.mem_of_getElem? hy)
   refine eS rfl (BI rfl (cr ⟨by omega,by omega⟩))<|eS rfl (LW 3 rfl ke rfl rfl)<|eS rfl (MV rfl)<|eS rfl (CL (x5 o.1) (ar) rfl)<|eS rfl (CL (p7 t (dI o.1) (by first|assumption|omega|(simp; done)|(simp; omega)) (by first|assumption|omega|(simp; done)|(simp; omega))) (ar) rfl)<|eS rfl (AG rfl)<|eJ rfl<|cf rfl fun T101 hT101=>AL rfl oh fun b102=>RN hT101 [1,2,3,4,5,6,7,8,9,10,11,12,13,14,15,16,17] rfl rfl ?_
   refine cf rfl fun T103 hT103=>e7 rfl nv rfl<|RN hT103 [1,2,3,4,5,6,7,8,9,10,11,12,13,14,15,16,17] rfl rfl<|fJ rfl<|KK hK100<|aw fun _ hK104=>dj ct 14 (by kernel_rfl)<|dS (jc 14 rfl iQ rfl)<|dS (SX (cl rfl rfl) rfl rfl)<|dS (FA 13 rfl lu rfl) ?_
   refine dS (l9 (Value.slice bA (ln.aa.n+1) (ln.aa.n+1)) 11 rfl j9 rfl rfl)<|dS (jc 8 rfl bk rfl) ?_
   have hk105:(List.map oC (eD (b65::bb) (ln.aa.n+1)))[b]? =some (oC (some b65)):=l0 (nY (i:=0) rfl (by simp; omega))
   refine dS (IA b rfl (ak (n:=(ln.aa.n+1)) 13 rfl (by first|(simp; done)|(simp; omega))) kv (by decide) (by omega) (by omega))<|dS (ir b 0 (Value.map (some b65)) rfl lZ (ak (n:=(eD (b65::bb) (ln.aa.n+1)).length) 13 rfl (by simp)) hk105 rfl (by decide) rfl)<|dS (LW 0 rfl ke rfl rfl)<|dS (SX (qW (kV:=cg) (x:=(dc t (dI o.1))) (l:=m2) (f:=iV) (z:=0) rfl rfl rfl kY kU G2 (by exact aQ 7 rfl)) rfl rfl)<|dS (MV rfl)<|dS (EX rfl)<|dS (EX rfl)<|dS (AG rfl)<|dS (AG rfl)<|cE ?_
   refine RK hK104<|WS fun _ hK106=>rS (jc 3 rfl bk rfl)<|rS (FA 1 rfl bZ rfl)<|rS (L1 (Value.int .i64 o.2.Hi) 2 rfl bk rfl rfl)<|rS (MN rfl)<|rS (FA 0 rfl bP rfl)<|rS (L1 (Value.int .i64 o.2.Lo) 2 rfl bk rfl rfl)<|rS (BI rfl il)<|rS (MV rfl) ?_
   refine bo (t:=217) rfl (fun h217=>?_) (fun h217=>?_)
   rotate_left 1
   ·replace h217:=DF h217
    refine rS (OX rfl)<|rS (OX rfl)<|rS (OX rfl)<|rS (OX rfl)<|rS (OX rfl)<|rS (OX rfl)<|rS (OX rfl)<|rS (PK rfl)<|RK hK106<|bH rfl ?_
    refine cH<|aL ?_
    exact hQr96 m2 _ _ (by first|exact hr0.skip (pW h217)|exact hr0.jd (iq hy h217) (by simpa using h220) h225|exact hr0.set (by show b<e.length; omega) hp ho (iq hy h217) (.inl (by simpa using h220))|exact hr0.set (by show b<e.length; omega) hp ho (iq hy h217) (.inr h225)) (fun w hs=>St.bB [1,3,4,5,6,7,8,9,10,11,12,13,14,15,16,17] rfl rfl hs)
   replace h217:=DT h217
   refine rS (MV rfl)<|rS (NT rfl)<|rS (MV rfl) ?_
   refine bo (t:=220) rfl (fun h220=>?_) (fun h220=>?_)
   ·rw [Bool.not_eq_true'] at h220
    refine rS (OX rfl)<|rS (OX rfl)<|rS (OX rfl)<|rS (PK rfl)<|rS (PK rfl)<|RK hK106<|aW rfl<|dj ct 9 (by kernel_rfl)<|dS (jc 14 rfl iQ rfl)<|dS (SX (cl rfl rfl) rfl rfl) ?_
    refine dS (FA 13 rfl lu rfl)<|dS (l9 (Value.slice bA (ln.aa.n+1) (ln.aa.n+1)) 11 rfl j9 rfl rfl)<|dS (jc 8 rfl bk rfl) ?_
    have hk107:(List.map oC (eD (b65::bb) (ln.aa.n+1)))[b]? =some (oC (some b65)):=l0 (nY (i:=0) rfl (by simp; omega))
    refine dS (IA b rfl (ak (n:=(ln.aa.n+1)) 13 rfl (by first|(simp; done)|(simp; omega))) kv (by decide) (by omega) (by omega))<|dS (ir b 0 (Value.map (some b65)) rfl lZ (ak (n:=(eD (b65::bb) (ln.aa.n+1)).length) 13 rfl (by simp)) hk107 rfl (by decide) rfl)<|dS (LW 0 rfl ke rfl rfl)<|dS (MV rfl)<|cE<|g8 (kV:=cg) (x:=(dc t (dI o.1))) (C':=[_,_,_,_,_,_,_,(jr cg b65 (bu iV (dz m2 (dc t (dI o.1)) ((min v o.2.Hi)-y)))),_,_,_,_,_,_,_,_,_,_]) 7 rfl rfl rfl rfl kY kU rfl (e9 _ _ _ _).symm rfl<|aX<|aL ?_
    exact hQr96 (dz m2 (dc t (dI o.1)) ((min v o.2.Hi)-y)) _ _ (by first|exact hr0.skip (pW h217)|exact hr0.jd (iq hy h217) (by simpa using h220) h225|exact hr0.set (by show b<e.length; omega) hp ho (iq hy h217) (.inl (by simpa using h220))|exact hr0.set (by show b<e.length; omega) hp ho (iq hy h217) (.inr h225)) (fun w hs=>St.bB [1,3,4,5,6,7,8,9,10,11,12,13,14,15,16,17] rfl rfl hs)
   rw [Bool.not_eq_false'] at h220
   refine rS (MV rfl)<|rS (MV rfl)<|rS (BI rfl eL)<|rS (PK rfl)<|rS (PK rfl)<|RK hK106 ?_
   refine bp rfl (fun h225=>?_) (fun h225=>?_)
   rotate_left 1
   ·replace h225:=DF h225
    refine cH<|aL ?_
    exact hQr96 m2 _ _ (by first|exact hr0.skip (pW h217)|exact hr0.jd (iq hy h217) (by simpa using h220) h225|exact hr0.set (by show b<e.length; omega) hp ho (iq hy h217) (.inl (by simpa using h220))|exact hr0.set (by show b<e.length; omega) hp ho (iq hy h217) (.inr h225)) (fun w hs=>St.bB [1,3,4,5,6,7,8,9,10,11,12,13,14,15,16,17] rfl rfl hs)
   replace h225:=DT h225
   refine dj ct 9 (by kernel_rfl)<|dS (jc 14 rfl iQ rfl)<|dS (SX (cl rfl rfl) rfl rfl)<|dS (FA 13 rfl lu rfl)<|dS (l9 (Value.slice bA (ln.aa.n+1) (ln.aa.n+1)) 11 rfl j9 rfl rfl)<|dS (jc 8 rfl bk rfl) ?_
   have hk108:(List.map oC (eD (b65::bb) (ln.aa.n+1)))[b]? =some (oC (some b65)):=l0 (nY (i:=0) rfl (by simp; omega))
   refine dS (IA b rfl (ak (n:=(ln.aa.n+1)) 13 rfl (by first|(simp; done)|(simp; omega))) kv (by decide) (by omega) (by omega))<|dS (ir b 0 (Value.map (some b65)) rfl lZ (ak (n:=(eD (b65::bb) (ln.aa.n+1)).length) 13 rfl (by simp)) hk108 rfl (by decide) rfl)<|dS (LW 0 rfl ke rfl rfl)<|dS (MV rfl)<|cE<|g8 (kV:=cg) (x:=(dc t (dI o.1))) (C':=[_,_,_,_,_,_,_,(jr cg b65 (bu iV (dz m2 (dc t (dI o.1)) ((min v o.2.Hi)-y)))),_,_,_,_,_,_,_,_,_,_]) 7 rfl rfl rfl rfl kY kU rfl (e9 _ _ _ _).symm rfl<|aX<|aL ?_
   exact hQr96 (dz m2 (dc t (dI o.1)) ((min v o.2.Hi)-y)) _ _ (by first|exact hr0.skip (pW h217)|exact hr0.jd (iq hy h217) (by simpa using h220) h225|exact hr0.set (by show b<e.length; omega) hp ho (iq hy h217) (.inl (by simpa using h220))|exact hr0.set (by show b<e.length; omega) hp ho (iq hy h217) (.inr h225)) (fun w hs=>St.bB [1,3,4,5,6,7,8,9,10,11,12,13,14,15,16,17] rfl rfl hs)
  refine dA ct [0,1,2,3,5,6,7,8,9,10,13] [4,11,12,14] [false,false,false,false,false,false,false,false,false,false,true] [true,true,true,false] [(aU gw 117 (aK.cells (aK.mk ln ri (aA.mk e_A e.length e_C) (aA.mk t_A tms.length t_C) (aA.mk fA (ln.aa.n+1) (ln.aa.n+1)) (aA.mk bA (ln.aa.n+1) (ln.aa.n+1))))).ro,(own bA (ln.aa.n+1) 122 1 (List.map oC (List.replicate (ln.aa.n+1) (none:Option Nat)))),(aU b2 77 [(Value.pointer (some ⟨gw,0,none⟩))]),(rd e_A e.length 1 (e.map iC)).ro,(rd t_A tms.length 1 (List.zipWith cb tms tb)).ro,(c_ (aP gJ tms tb)).ro] [(aU gw 117 (aK.cells (aK.mk ln ri (aA.mk e_A e.length e_C) (aA.mk t_A tms.length t_C) (aA.mk fA (ln.aa.n+1) (ln.aa.n+1)) (aA.mk bA (ln.aa.n+1) (ln.aa.n+1))))).ro,(own fA (ln.aa.n+1) 122 1 (List.map oC (List.replicate (ln.aa.n+1) (none:Option Nat)))),(own bA (ln.aa.n+1) 122 1 (List.map oC (List.replicate (ln.aa.n+1) (none:Option Nat)))),(aU b2 77 [(Value.pointer (some ⟨gw,0,none⟩))]),(rd e_A e.length 1 (e.map iC)).ro,(rd t_A tms.length 1 (List.zipWith cb tms tb)).ro,(c_ (aP gJ tms tb)).ro] (by kernel_rfl) (fun w hs=>St.bB [0,2,3,4,5,6] rfl rfl hs) (fun w hs=>St.bB [0,1,2,3,4,5,6] rfl rfl hs)<|eS rfl (jc 2 rfl iQ rfl)<|eS rfl (SX (cl rfl rfl) rfl rfl)<|eS rfl (FA 12 rfl jL rfl)<|eS rfl (l9 (Value.slice fA (ln.aa.n+1) (ln.aa.n+1)) 0 rfl j9 rfl rfl)<|eS rfl (SX (aS (xs:=[]) (cs:=(aq.cells (aq.mk 0 0))) rfl rfl (aR tU rfl)) rfl rfl)<|eS rfl (jc 2 rfl iQ rfl)<|eS rfl (SX (cl rfl rfl) rfl rfl)<|eS rfl (FA 7 rfl m6 rfl)<|eS rfl (FA 7 rfl fH rfl) ?_
  refine eS rfl (l9 (Value.int .i64 ri.Start) 0 rfl bk rfl rfl) ?_
  obtain ⟨x6,hx7⟩: ∃ y_,(List.replicate (ln.aa.n+1) (none:Option Nat))[0]? =some y_:=⟨(List.replicate (ln.aa.n+1) (none:Option Nat))[0]'(by omega),List.getElem?_eq_getElem _⟩
  have hx7m:(List.map oC (List.replicate (ln.aa.n+1) (none:Option Nat)))[0]? =some (oC x6):=by rw [List.getElem?_map,hx7]; rfl
  refine fS rfl (IA 0 rfl (ak (n:=(ln.aa.n+1)) 1 rfl (by first|(simp; done)|(simp; omega))) kv (by decide) rfl (by omega))<|eJ rfl<|jM rfl fun T8 hT8=>k3 (kV:=cg) rfl rfl fun b9=>?_
  try dsimp only
  refine aX (hT8 _ _ (fun w hs=>St.bB [1,3,4,5,6,7] rfl rfl hs) (fun w hs=>St.bB [1,2,3,4,5,6,7] rfl rfl hs) ?_)
  refine jM rfl fun T10 hT10=>?_
  have hb11:(dz ([]:List (aq×Int)) (aq.mk 0 0) ri.Start)=[((aq.mk 0 0),ri.Start)]:=by rfl
  refine rF (kV:=cg) (x:=(aq.mk 0 0)) (C':=[(jr cg b9 (bu iV ([((aq.mk 0 0),ri.Start)]))),_,_,_,_,_,_,_]) 0 rfl rfl rfl rfl kY kU rfl ((e9 _ _ _ _).symm.trans (congrArg _ hb11)) rfl ?_
  refine aX (hT10 _ _ (fun w hs=>St.bB [1,3,4,5,6,7] rfl rfl hs) (fun w hs=>St.bB [1,2,3,4,5,6,7] rfl rfl hs) ?_)
  refine jM rfl fun T12 hT12=>rS (MV rfl) ?_
  refine aX (hT12 _ _ (fun w hs=>St.bB [1,3,4,5,6,7] rfl rfl hs) (fun w hs=>St.bB [1,2,3,4,5,6,7] rfl rfl hs) ?_)
  refine cf rfl fun T13 hT13=>?_
  have hb14:((List.replicate (ln.aa.n+1) (none:Option Nat)).set 0 (some b9))=(bX [b9] (ln.aa.n+1)):=by rw [oW]; exact nd rfl (by simp)
  refine dy (k:=0) (o:=0) (vs:=[(Value.map (some b9))]) (es':=(List.map oC (bX [b9] (ln.aa.n+1)))) (C':=[_,_,(own fA (ln.aa.n+1) 122 1 (List.map oC (bX [b9] (ln.aa.n+1)))),_,_,_,_,_]) 2 rfl rfl rfl xI rfl rfl rfl rfl hx7m rfl (by decide) (by exact (List.map_set (f:=oC) (l:=(List.replicate (ln.aa.n+1) (none:Option Nat))) (i:=0) (a:=(some b9))).symm.trans (congrArg _ hb14)) rfl<|RN hT13 [1,3,4,5,6,7] rfl rfl<|fJ rfl<|BJ<|v7 (X:=[]) (X':=aP e8 [[((aq.mk 0 0),ri.Start)]] [b9]) 0 1 rfl rfl rfl ?_
  try dsimp only
  refine aY (iz (an.cons rfl<|an.cons rfl<|an.cons rfl<|an.nil _) (fun w hs=>St.bB [0,1,2,3,4,5,6,7] rfl rfl hs) (hK5 ⟨b9,trivial⟩))
 refine lK ct [0,1,2,3,5,6,8,9,11,12] [4,7,10,13] [false,false,false,false,false,false,false,false,false,false] [] [(aU b2 77 [(Value.pointer (some ⟨gw,0,none⟩))]),(rd e_A e.length 1 (e.map iC)).ro,(rd t_A tms.length 1 (List.zipWith cb tms tb)).ro,(c_ (aP gJ tms tb)).ro] [] (by kernel_rfl) (fun w hs=>St.bB [0,2,3,4] rfl rfl hs) (fun w hs=>St.bB [] rfl rfl hs)<|eS rfl (jc 0 rfl iQ rfl)<|eS rfl (jc 0 rfl iQ rfl)<|eS rfl (MV rfl)<|eS rfl (BI rfl (a9 ⟨by omega,by omega⟩))<|eS rfl (MV rfl)<|eS rfl (BI rfl (a9 ⟨by omega,by omega⟩))<|eS rfl (SX (cl rfl rfl) rfl rfl)<|eS rfl (FA 12 rfl jL rfl)<|eS rfl (SX (cl rfl rfl) rfl rfl) ?_
 refine eS rfl (FA 13 rfl lu rfl)<|eJ rfl ?_
 refine kH [4,7] (by kernel_rfl) (gr ?_<|gr ?_<|nx)
 rotate_left 1
 ·refine NO rfl rfl [4,10,13] fun T5 hT5=>?_
  refine q7 (n:=(ln.aa.n+1)) (es:=(List.map oC (List.replicate (ln.aa.n+1) (none:Option Nat)))) rfl rfl rfl tS (by omega) (by omega) (by simp only [maxLen]; omega) (by rw [List.map_replicate]; rfl) rfl fun b6=>?_
  try dsimp only
  refine RN hT5 [1,3,4,5] rfl rfl<|N1 4<|NO rfl rfl [10,13] fun T7 hT7=>q7 (n:=(ln.aa.n+1)) (es:=(List.map oC (List.replicate (ln.aa.n+1) (none:Option Nat)))) rfl rfl rfl tS (by omega) (by omega) (by simp only [maxLen]; omega) (by rw [List.map_replicate]; rfl) rfl fun b8=>?_
  try dsimp only
  refine RN hT7 [2,4,5,6] rfl rfl<|N1 10<|NO rfl rfl [13] fun T9 hT9=>AV (aK.cells (aK.mk ln ri (aA.mk e_A e.length e_C) (aA.mk t_A tms.length t_C) (aA.mk (some ⟨b8,0,none⟩) (ln.aa.n+1) (ln.aa.n+1)) (aA.mk none 0 0))) rfl se rfl rfl<|RN hT9 [2,4,5,6] rfl rfl<|N1 13<|NO rfl rfl [] fun T10 hT10=>AV (aK.cells (aK.mk ln ri (aA.mk e_A e.length e_C) (aA.mk t_A tms.length t_C) (aA.mk (some ⟨b8,0,none⟩) (ln.aa.n+1) (ln.aa.n+1)) (aA.mk (some ⟨b6,0,none⟩) (ln.aa.n+1) (ln.aa.n+1)))) rfl se rfl rfl<|RN hT10 [2,4,5,6] rfl rfl<|kD ?_
  refine aY (iz (an.cons rfl<|an.cons rfl<|an.cons rfl<|an.nil _) (fun w hs=>St.bB [0,1,2,3,4,5,6] rfl rfl hs) (hK4 ⟨((some ⟨b8,0,none⟩),(some ⟨b6,0,none⟩)),trivial⟩))
 refine NO rfl rfl [7,10,13] fun T5 hT5=>q7 (n:=(ln.aa.n+1)) (es:=(List.map oC (List.replicate (ln.aa.n+1) (none:Option Nat)))) rfl rfl rfl tS (by omega) (by omega) (by simp only [maxLen]; omega) (by rw [List.map_replicate]; rfl) rfl fun b6=>?_
 try dsimp only
 refine RN hT5 [1,3,4,5] rfl rfl ?_
 refine kH [7,10] (by kernel_rfl) (gr ?_<|gr ?_<|nx)
 rotate_left 1
 ·refine NO rfl rfl [7,13] fun T7 hT7=>?_
  refine G7 (aK.cells (aK.mk ln ri (aA.mk e_A e.length e_C) (aA.mk t_A tms.length t_C) (aA.mk (some ⟨b6,0,none⟩) (ln.aa.n+1) (ln.aa.n+1)) (aA.mk none 0 0))) rfl se rfl rfl<|RN hT7 [1,3,4,5] rfl rfl<|N1 7<|NO rfl rfl [13] fun T8 hT8=>q7 (n:=(ln.aa.n+1)) (es:=(List.map oC (List.replicate (ln.aa.n+1) (none:Option Nat)))) rfl rfl rfl tS (by omega) (by omega) (by simp only [maxLen]; omega) (by rw [List.map_replicate]; rfl) rfl fun b9=>?_
  try dsimp only
  refine RN hT8 [2,4,5,6] rfl rfl<|N1 13<|NO rfl rfl [] fun T10 hT10=>AV (aK.cells (aK.mk ln ri (aA.mk e_A e.length e_C) (aA.mk t_A tms.length t_C) (aA.mk (some ⟨b6,0,none⟩) (ln.aa.n+1) (ln.aa.n+1)) (aA.mk (some ⟨b9,0,none⟩) (ln.aa.n+1) (ln.aa.n+1)))) rfl se rfl rfl<|RN hT10 [2,4,5,6] rfl rfl<|kD ?_
  refine aY (iz (an.cons rfl<|an.cons rfl<|an.cons rfl<|an.nil _) (fun w hs=>St.bB [1,0,2,3,4,5,6] rfl rfl hs) (hK4 ⟨((some ⟨b6,0,none⟩),(some ⟨b9,0,none⟩)),trivial⟩))
 refine NO rfl rfl [10,13] fun T7 hT7=>q7 (n:=(ln.aa.n+1)) (es:=(List.map oC (List.replicate (ln.aa.n+1) (none:Option Nat)))) rfl rfl rfl tS (by omega) (by omega) (by simp only [maxLen]; omega) (by rw [List.map_replicate]; rfl) rfl fun b8=>?_
 try dsimp only
 refine RN hT7 [2,4,5,6] rfl rfl<|N1 10<|NO rfl rfl [13] fun T9 hT9=>AV (aK.cells (aK.mk ln ri (aA.mk e_A e.length e_C) (aA.mk t_A tms.length t_C) (aA.mk (some ⟨b6,0,none⟩) (ln.aa.n+1) (ln.aa.n+1)) (aA.mk none 0 0))) rfl se rfl rfl<|RN hT9 [2,4,5,6] rfl rfl<|N1 13<|NO rfl rfl [] fun T10 hT10=>AV (aK.cells (aK.mk ln ri (aA.mk e_A e.length e_C) (aA.mk t_A tms.length t_C) (aA.mk (some ⟨b6,0,none⟩) (ln.aa.n+1) (ln.aa.n+1)) (aA.mk (some ⟨b8,0,none⟩) (ln.aa.n+1) (ln.aa.n+1)))) rfl se rfl rfl<|RN hT10 [2,4,5,6] rfl rfl<|kD ?_
 refine aY (iz (an.cons rfl<|an.cons rfl<|an.cons rfl<|an.nil _) (fun w hs=>St.bB [1,0,2,3,4,5,6] rfl rfl hs) (hK4 ⟨((some ⟨b6,0,none⟩),(some ⟨b8,0,none⟩)),trivial⟩))
end
section
open Go.RowKit
set_option linter.unusedVariables false
set_option maxRecDepth 100000 in
set_option maxHeartbeats 400000 in
theorem uY (l:aV) (kA:Option Addr) (kC:Nat) (az:List RA) (cA:Option Addr) (cC:Nat) (bA:Option Addr) (bC:Nat) (g1:Nat) (bm:Int) (g2:Nat) (hin:dM l az):
 dY Tryz.prog 38 [(Value.pointer (some ⟨g1,0,none⟩)),(Value.pointer (some ⟨g2,0,none⟩))] [(rd kA l.au.length 9 (l.au.map ah.cells)),(rd cA l.ag.length 2 (List.zipWith ao.cells l.ag az)),(c_ (aP ao.eX l.ag az)),(rd bA l.aa.length 4 (l.aa.map aT.cells)),(aU g1 28 (aG.cells (aG.mk (ay.mk (aA.mk kA l.au.length kC)) l.bJ (aA.mk cA l.ag.length cC) (aA.mk bA l.aa.length bC) l.aB l.aZ l.aO))),(aU g2 3 [(Value.int .i64 bm)])] (Value.int .i64 (fI l bm)):=by
 have htk:=hin.o0
 have hck:=hin.oZ
 have has:=hin.oG
 have hbm:=hin.oI
 refine bG Fb Tryz.func38 rfl rfl fun w0 Q hQ hN=>?_
 try dsimp only
 refine WS fun _ hK1=>rS (AG rfl)<|RK hK1<|aw fun _ hK2=>WS fun _ hK3=>rS (FA 3 rfl dQ rfl)<|rS (l9 (Value.slice bA l.aa.length bC) 4 rfl hP rfl rfl)<|rS (LN rfl jz)<|rS (BI rfl (cr ⟨by omega,by omega⟩))<|rS (rY 5 rfl bk rfl) ?_
 refine dV (xs:=[.tmp 7]) (cs:=[(Value.int .i64 bm)]) rfl di kb rfl rfl rfl rfl (by simp [Value.cells]) rfl rfl fun b4=>rS (CL (dY.eq (d_ 0 (((l.aa.length:Nat):Int)-1) ([bm]) (some ⟨b4,0,none⟩) 1 (by first|assumption|omega|(simp; done)|(simp; omega))) cI) (aF (a4 0 rfl rfl (by simp [bO]) rfl)<|ar) rfl)<|rS (NT rfl)<|RK hK3 ?_
 refine bp rfl (fun h10=>?_) (fun h10=>?_)
 ·replace h10:=XT h10
  refine WS fun _ hK5=>rS (AG rfl)<|RK hK5<|aE<|Q1 hQ rfl rfl rfl ?_
  first|exact congrArg (Value.int .i64) (if_pos (by omega)).symm|exact congrArg (Value.int .i64) (if_neg (by omega)).symm
 replace h10:=XF h10
 refine WK hK2<|WS fun _ hK6=>rS (AG rfl)<|RK hK6<|aE<|Q1 hQ rfl rfl rfl ?_
 first|exact congrArg (Value.int .i64) (if_pos (by omega)).symm|exact congrArg (Value.int .i64) (if_neg (by omega)).symm
set_option maxRecDepth 100000 in
set_option maxHeartbeats 400000 in
theorem sK (l:aV) (kA:Option Addr) (kC:Nat) (az:List RA) (cA:Option Addr) (cC:Nat) (bA:Option Addr) (bC:Nat) (r:bj) (sgA:Option Addr) (sgC:Nat) (hin:dM l az) (hsl:r.ae.length≤1000000):
 rM Tryz.prog 33 [(Value.agg (aG.cells (aG.mk (ay.mk (aA.mk kA l.au.length kC)) l.bJ (aA.mk cA l.ag.length cC) (aA.mk bA l.aa.length bC) l.aB l.aZ l.aO)).toArray),(Value.agg (aN.cells (aN.mk r.Start r.dw (aA.mk sgA r.ae.length sgC))).toArray),(Value.slice none 0 0)] [(rd kA l.au.length 9 (l.au.map ah.cells)),(rd cA l.ag.length 2 (List.zipWith ao.cells l.ag az)),(c_ (aP ao.eX l.ag az)),(rd bA l.aa.length 4 (l.aa.map aT.cells)),(rd sgA r.ae.length 2 (r.ae.map av.cells))] (fun (x:Bool×Int×Nat×(Option Addr)×Nat×(Option Addr)×Nat×(List Nat)×(List FM)×(List Nat)×(Option Addr)×Nat×(List FM)×(List Nat)×(Option Addr)×Nat)=>bif x.1 then (Value.tuple [(Value.pointer (some ⟨x.2.2.1,0,none⟩)),(Value.int .i64 0)].toArray) else (Value.tuple [(Value.pointer none),(Value.int .i64 x.2.1)].toArray)) (fun (x:Bool×Int×Nat×(Option Addr)×Nat×(Option Addr)×Nat×(List Nat)×(List FM)×(List Nat)×(Option Addr)×Nat×(List FM)×(List Nat)×(Option Addr)×Nat)=>(x.1=true→(cD l r 0=0∧pE (a6 l r) x.2.2.2.2.2.2.2.2.1∧nN (a6 l r) x.2.2.2.2.2.2.2.2.2.2.2.2.1∧x.2.2.2.2.2.2.2.2.2.1.length=x.2.2.2.2.2.2.2.2.1.length∧x.2.2.2.2.2.2.2.2.2.2.2.2.2.1.length=x.2.2.2.2.2.2.2.2.2.2.2.2.1.length∧x.2.2.2.2.2.2.2.1.length=(bf l r.ae r.ae.length).length))∧(x.1=false→(x.2.1=cD l r 0∧ ¬ cD l r 0=0))) (fun (x:Bool×Int×Nat×(Option Addr)×Nat×(Option Addr)×Nat×(List Nat)×(List FM)×(List Nat)×(Option Addr)×Nat×(List FM)×(List Nat)×(Option Addr)×Nat)=>bif x.1 then [(aU x.2.2.1 117 (aK.cells (aK.mk (aG.mk (ay.mk (aA.mk kA l.au.length kC)) l.bJ (aA.mk cA l.ag.length cC) (aA.mk bA l.aa.length bC) l.aB l.aZ l.aO) (aN.mk r.Start r.dw (aA.mk sgA r.ae.length sgC)) (aA.mk x.2.2.2.1 ((bE l l.aa.length).length) x.2.2.2.2.1) (aA.mk x.2.2.2.2.2.1 ((bf l r.ae r.ae.length).length) x.2.2.2.2.2.2.1) (aA.mk x.2.2.2.2.2.2.2.2.2.2.1 x.2.2.2.2.2.2.2.2.1.length x.2.2.2.2.2.2.2.2.2.2.2.1) (aA.mk x.2.2.2.2.2.2.2.2.2.2.2.2.2.2.1 x.2.2.2.2.2.2.2.2.2.2.2.2.1.length x.2.2.2.2.2.2.2.2.2.2.2.2.2.2.2)))),(own x.2.2.2.1 x.2.2.2.2.1 3 1 ((bE l l.aa.length).map iC)),(own x.2.2.2.2.2.1 x.2.2.2.2.2.2.1 120 1 (List.zipWith cb (bf l r.ae r.ae.length) x.2.2.2.2.2.2.2.1)),(bw (aP gJ (bf l r.ae r.ae.length) x.2.2.2.2.2.2.2.1)),(own x.2.2.2.2.2.2.2.2.2.2.1 x.2.2.2.2.2.2.2.2.2.2.2.1 122 1 (List.zipWith cb x.2.2.2.2.2.2.2.2.1 x.2.2.2.2.2.2.2.2.2.1)),(bw (aP e8 x.2.2.2.2.2.2.2.2.1 x.2.2.2.2.2.2.2.2.2.1)),(own x.2.2.2.2.2.2.2.2.2.2.2.2.2.2.1 x.2.2.2.2.2.2.2.2.2.2.2.2.2.2.2 122 1 (List.zipWith cb x.2.2.2.2.2.2.2.2.2.2.2.2.1 x.2.2.2.2.2.2.2.2.2.2.2.2.2.1)),(bw (aP e8 x.2.2.2.2.2.2.2.2.2.2.2.2.1 x.2.2.2.2.2.2.2.2.2.2.2.2.2.1))] else []):=by
 have htk:=hin.o0
 have hck:=hin.oZ
 have has:=hin.oG
 have hbm:=hin.oI
 have hsd:=hin.side
 refine gX DH Tryz.func33 rfl rfl fun w0 Q hQ hN=>?_
 try dsimp only
 refine WS fun _ hK1=>gv rfl fun b2=>gv rfl fun b3=>rS (AG rfl)<|rS (AG rfl)<|RK hK1<|aw fun _ hK4=>WS fun _ hK5=>rS (LW 1 rfl eP rfl rfl)<|rS (CL (mK l kA kC az cA cC bA bC hin) (ax 2 rfl rfl<|ax 3 rfl rfl<|ax 4 rfl rfl<|ax 5 rfl rfl<|ar) rfl) ?_
 refine rS (AG rfl)<|RK hK5<|WS fun _ hK6=>rS (MV rfl)<|rS (BI rfl eB)<|RK hK6 ?_
 refine bp rfl (fun h21=>?_) (fun h21=>?_)
 ·replace h21:=XT h21
  refine WS fun _ hK7=>rS (MV rfl)<|rS (AG rfl)<|rS (AG rfl)<|RK hK7<|aE ?_
  refine hQ _ _ _ (bD (vs:=[(Value.pointer none),(Value.int .i64 (cw l))]) ⟨rfl,rfl,trivial⟩ fun w hs=>fj (false,(cw l),0,none,0,none,0,[],[],[],none,0,[],[],none,0) [] ?_ ?_ rfl rfl (by first|rfl|(show List.all _ _=true; simp only [cond_true,List.all_cons,List.all_nil,g4,ik,Bool.and_true]; rfl)) hs)
  ·rfl
  ·refine ⟨fun q=>Bool.noConfusion (show false=true from q),fun _=>?_⟩; first|(have e:=cY (r:=r) (me:=0) h21; exact ⟨e.symm,fun q=>h21 (e.symm.trans q)⟩)|(have e:=bq (me:=0) h10 (fun q:c7 l r=>by have q1:=q.time; have q2:=q.len; omega); exact ⟨e.symm,fun q=>absurd (e.symm.trans q) (by decide)⟩)|(have e:=bq (me:=0) h10 (eU hx (by unfold dK eb; omega)); exact ⟨e.symm,fun q=>absurd (e.symm.trans q) (by decide)⟩)|(have e:=cV (me:=0) h10 hro (by first|rfl|exact h156) (show dJ (a6 l r)=[] from List.eq_nil_of_length_eq_zero (Int.natCast_eq_zero.1 h164)); exact ⟨e.symm,fun q=>absurd (e.symm.trans q) (by decide)⟩)
 replace h21:=XF h21
 refine WK hK4<|aw fun _ hK8=>WS fun _ hK9=>?_
 have h10:cw l=0:=h21
 obtain ⟨htr,hok⟩:=dD h10
 have hhd:=hok.head
 unfold cU at hhd
 refine rS (FA 0 rfl fH rfl)<|rS (L1 (Value.int .i64 r.Start) 0 rfl bk rfl rfl)<|dV (xs:=[.tmp 24]) (cs:=[(Value.int .i64 r.Start)]) rfl di kb rfl rfl rfl rfl (by simp [Value.cells]) rfl rfl fun b10=>rS (CL (dY.eq (d_ 0 86400000 ([r.Start]) (some ⟨b10,0,none⟩) 1 (by first|assumption|omega|(simp; done)|(simp; omega))) cI) (aF (a4 0 rfl rfl (by simp [bO]) rfl)<|ar) rfl)<|rS (NT rfl)<|rS (MV rfl) ?_
 refine bo (t:=28) rfl (fun h28=>?_) (fun h28=>?_)
 ·replace h28:=XT h28
  refine rS (OX rfl)<|rS (OX rfl)<|rS (OX rfl)<|rS (OX rfl)<|rS (OX rfl)<|rS (OX rfl)<|rS (OX rfl)<|rS (PK rfl)<|rS (MV rfl)<|rS (OX rfl) ?_
  refine rS (OX rfl)<|rS (OX rfl)<|rS (OX rfl)<|rS (PK rfl)<|RK hK9<|aW rfl<|WS fun _ hK11=>rS (AG rfl)<|rS (AG rfl)<|RK hK11 ?_
  refine aE ?_
  refine hQ _ _ _ (bD (vs:=[(Value.pointer none),(Value.int .i64 51)]) ⟨rfl,rfl,trivial⟩ fun w hs=>fj (false,51,0,none,0,none,0,[],[],[],none,0,[],[],none,0) [] ?_ ?_ rfl rfl (by first|rfl|(show List.all _ _=true; simp only [cond_true,List.all_cons,List.all_nil,g4,ik,Bool.and_true]; rfl)) hs)
  ·rfl
  ·refine ⟨fun q=>Bool.noConfusion (show false=true from q),fun _=>?_⟩; first|(have e:=cY (r:=r) (me:=0) h21; exact ⟨e.symm,fun q=>h21 (e.symm.trans q)⟩)|(have e:=bq (me:=0) h10 (fun q:c7 l r=>by have q1:=q.time; have q2:=q.len; omega); exact ⟨e.symm,fun q=>absurd (e.symm.trans q) (by decide)⟩)|(have e:=bq (me:=0) h10 (eU hx (by unfold dK eb; omega)); exact ⟨e.symm,fun q=>absurd (e.symm.trans q) (by decide)⟩)|(have e:=cV (me:=0) h10 hro (by first|rfl|exact h156) (show dJ (a6 l r)=[] from List.eq_nil_of_length_eq_zero (Int.natCast_eq_zero.1 h164)); exact ⟨e.symm,fun q=>absurd (e.symm.trans q) (by decide)⟩)
 replace h28:=XF h28
 refine rS (FA 0 rfl fH rfl)<|rS (L1 (Value.int .i64 r.Start) 1 rfl bk rfl rfl)<|rS (FA 1 rfl lj rfl)<|rS (L1 (Value.int .i64 r.dw) 1 rfl bk rfl rfl)<|dV (xs:=[.tmp 32]) (cs:=[(Value.int .i64 r.dw)]) rfl di kb rfl rfl rfl rfl (by simp [Value.cells]) rfl rfl fun b12=>rS (CL (dY.eq (d_ r.Start 86400000 ([r.dw]) (some ⟨b12,0,none⟩) 1 (by first|assumption|omega|(simp; done)|(simp; omega))) cI) (aF (a4 0 rfl rfl (by simp [bO]) rfl)<|ar) rfl)<|rS (NT rfl)<|rS (PK rfl)<|rS (MV rfl) ?_
 refine bo (t:=37) rfl (fun h37=>?_) (fun h37=>?_)
 ·replace h37:=XT h37
  refine rS (OX rfl)<|rS (OX rfl)<|rS (OX rfl)<|rS (OX rfl)<|rS (PK rfl)<|RK hK9<|aW rfl<|WS fun _ hK13=>rS (AG rfl)<|rS (AG rfl) ?_
  refine RK hK13<|aE ?_
  refine hQ _ _ _ (bD (vs:=[(Value.pointer none),(Value.int .i64 51)]) ⟨rfl,rfl,trivial⟩ fun w hs=>fj (false,51,0,none,0,none,0,[],[],[],none,0,[],[],none,0) [] ?_ ?_ rfl rfl (by first|rfl|(show List.all _ _=true; simp only [cond_true,List.all_cons,List.all_nil,g4,ik,Bool.and_true]; rfl)) hs)
  ·rfl
  ·refine ⟨fun q=>Bool.noConfusion (show false=true from q),fun _=>?_⟩; first|(have e:=cY (r:=r) (me:=0) h21; exact ⟨e.symm,fun q=>h21 (e.symm.trans q)⟩)|(have e:=bq (me:=0) h10 (fun q:c7 l r=>by have q1:=q.time; have q2:=q.len; omega); exact ⟨e.symm,fun q=>absurd (e.symm.trans q) (by decide)⟩)|(have e:=bq (me:=0) h10 (eU hx (by unfold dK eb; omega)); exact ⟨e.symm,fun q=>absurd (e.symm.trans q) (by decide)⟩)|(have e:=cV (me:=0) h10 hro (by first|rfl|exact h156) (show dJ (a6 l r)=[] from List.eq_nil_of_length_eq_zero (Int.natCast_eq_zero.1 h164)); exact ⟨e.symm,fun q=>absurd (e.symm.trans q) (by decide)⟩)
 replace h37:=XF h37
 refine rS (FA 2 rfl hH rfl)<|rS (L1 (Value.slice sgA r.ae.length sgC) 2 rfl nK rfl rfl)<|rS (LN rfl sE)<|rS (BI rfl eL)<|rS (PK rfl)<|RK hK9 ?_
 refine bp rfl (fun h42=>?_) (fun h42=>?_)
 ·replace h42:=DT h42
  refine WS fun _ hK14=>rS (AG rfl)<|rS (AG rfl)<|RK hK14<|aE ?_
  refine hQ _ _ _ (bD (vs:=[(Value.pointer none),(Value.int .i64 51)]) ⟨rfl,rfl,trivial⟩ fun w hs=>fj (false,51,0,none,0,none,0,[],[],[],none,0,[],[],none,0) [] ?_ ?_ rfl rfl (by first|rfl|(show List.all _ _=true; simp only [cond_true,List.all_cons,List.all_nil,g4,ik,Bool.and_true]; rfl)) hs)
  ·rfl
  ·refine ⟨fun q=>Bool.noConfusion (show false=true from q),fun _=>?_⟩; first|(have e:=cY (r:=r) (me:=0) h21; exact ⟨e.symm,fun q=>h21 (e.symm.trans q)⟩)|(have e:=bq (me:=0) h10 (fun q:c7 l r=>by have q1:=q.time; have q2:=q.len; omega); exact ⟨e.symm,fun q=>absurd (e.symm.trans q) (by decide)⟩)|(have e:=bq (me:=0) h10 (eU hx (by unfold dK eb; omega)); exact ⟨e.symm,fun q=>absurd (e.symm.trans q) (by decide)⟩)|(have e:=cV (me:=0) h10 hro (by first|rfl|exact h156) (show dJ (a6 l r)=[] from List.eq_nil_of_length_eq_zero (Int.natCast_eq_zero.1 h164)); exact ⟨e.symm,fun q=>absurd (e.symm.trans q) (by decide)⟩)
 replace h42:=DF h42
 refine WK hK8<|WS fun _ hK15=>rS (SX (aS (xs:=[(0,.const (Value.int .i64 (-1)))]) (cs:=(av.cells (av.mk (-1) 0))) rfl rfl (aR vp rfl)) rfl rfl)<|AL rfl qe fun b16=>e7 rfl mJ rfl<|RK hK15<|aw fun _ hK17=>dA ct [0,1,2,3,4] [5,6,7,8] [false,false,false,false,false] [false,false,false,false] [(aU b16 67 (av.cells (av.mk (-1) 0))),(aU b12 3 [(Value.int .i64 r.dw)]),(aU b10 3 [(Value.int .i64 r.Start)]),(aU b3 31 (aN.cells (aN.mk r.Start r.dw (aA.mk sgA r.ae.length sgC)))),(aU b2 28 (aG.cells (aG.mk (ay.mk (aA.mk kA l.au.length kC)) l.bJ (aA.mk cA l.ag.length cC) (aA.mk bA l.aa.length bC) l.aB l.aZ l.aO))),(rd kA l.au.length 9 (l.au.map ah.cells)).ro,(rd cA l.ag.length 2 (List.zipWith ao.cells l.ag az)).ro,(c_ (aP ao.eX l.ag az)).ro,(rd bA l.aa.length 4 (l.aa.map aT.cells)).ro,(rd sgA r.ae.length 2 (r.ae.map av.cells)).ro] [] (by kernel_rfl) (fun w hs=>St.bB [0,1,2,3,4,5,6,7,8,9] rfl rfl hs) (fun w hs=>St.bB [] rfl rfl hs)<|eS rfl (LW 4 rfl eP rfl rfl)<|eS rfl (LW 3 rfl gE rfl rfl) ?_
 refine eS rfl (FA 3 rfl dQ rfl)<|eS rfl (L1 (Value.slice bA l.aa.length bC) 4 rfl hP rfl rfl)<|eS rfl (LN rfl jz)<|eJ rfl<|cf rfl fun T18 hT18=>q7 (n:=l.aa.length) (es:=(List.map oC (List.replicate l.aa.length (none:Option Nat)))) rfl rfl rfl Bv (by omega) (by omega) (by simp only [maxLen]; omega) (by rw [List.map_replicate]; rfl) rfl fun b19=>?_
 try dsimp only
 refine RN hT18 [1,2,3,4,5,6,7,8,9,10] rfl rfl<|cf rfl fun T20 hT20=>rS (SX (aS (xs:=[(0,.tmp 44),(1,.tmp 45),(3,.tmp 49)]) (cs:=(aK.cells (aK.mk (aG.mk (ay.mk (aA.mk kA l.au.length kC)) l.bJ (aA.mk cA l.ag.length cC) (aA.mk bA l.aa.length bC) l.aB l.aZ l.aO) (aN.mk r.Start r.dw (aA.mk sgA r.ae.length sgC)) (aA.mk none 0 0) (aA.mk (some ⟨b19,0,none⟩) l.aa.length l.aa.length) (aA.mk none 0 0) (aA.mk none 0 0)))) rfl rfl (aR Bx rfl)) rfl rfl)<|RN hT20 [1,2,3,4,5,6,7,8,9,10] rfl rfl<|cf rfl fun T21 hT21=>gv rfl fun b22=>RN hT21 [2,3,4,5,6,7,8,9,10,11] rfl rfl<|cf rfl fun T23 hT23=>rS (AG rfl)<|RN hT23 [2,3,4,5,6,7,8,9,10,11] rfl rfl ?_
 refine fJ rfl<|KK hK17<|aw fun _ hK24=>WS fun _ hK25=>rS (FA 3 rfl dQ rfl)<|rS (L1 (Value.slice bA l.aa.length bC) 6 rfl hP rfl rfl)<|rS (LN rfl jz)<|rS (MV rfl)<|RK hK25<|aH ?_
 rw [oW]
 refine fY 3 1<|pq ?_
 have hinit:(0≤l.aa.length)∧(([]:List Nat).length=0):=by exact ⟨Nat.zero_le _,rfl⟩
 refine cP (ι:={z:Nat×(Option Addr)×Nat×(List Nat) // (z.1≤l.aa.length)∧(z.2.2.2.length=z.1)}) (fun z=>[(2,(Value.slice none 0 0)),(3,(Value.pointer (some ⟨b2,0,none⟩))),(4,(Value.pointer (some ⟨b3,0,none⟩))),(6,(Value.pointer none)),(7,(Value.int .i64 0)),(9,(Value.pointer (some ⟨b16,0,none⟩))),(10,(Value.pointer (some ⟨b22,0,none⟩))),(54,(Value.int .i64 ((l.aa.length:Nat):Int))),(55,(Value.int .i64 ((z.1.1:Nat):Int)))]) (fun z=>[(bw (aP gJ (List.replicate z.1.1 ([]:TM)) z.1.2.2.2)),(own z.1.2.1 z.1.2.2.1 3 1 ((bE l z.1.1).map iC)),(aU b22 117 (aK.cells (aK.mk (aG.mk (ay.mk (aA.mk kA l.au.length kC)) l.bJ (aA.mk cA l.ag.length cC) (aA.mk bA l.aa.length bC) l.aB l.aZ l.aO) (aN.mk r.Start r.dw (aA.mk sgA r.ae.length sgC)) (aA.mk z.1.2.1 ((bE l z.1.1).length) z.1.2.2.1) (aA.mk (some ⟨b19,0,none⟩) l.aa.length l.aa.length) (aA.mk none 0 0) (aA.mk none 0 0)))),(own (some ⟨b19,0,none⟩) l.aa.length 120 1 (List.map oC (bX z.1.2.2.2 l.aa.length))),(aU b16 67 (av.cells (av.mk (-1) 0))),(aU b3 31 (aN.cells (aN.mk r.Start r.dw (aA.mk sgA r.ae.length sgC)))),(aU b2 28 (aG.cells (aG.mk (ay.mk (aA.mk kA l.au.length kC)) l.bJ (aA.mk cA l.ag.length cC) (aA.mk bA l.aa.length bC) l.aB l.aZ l.aO))),(rd kA l.au.length 9 (l.au.map ah.cells)).ro,(rd cA l.ag.length 2 (List.zipWith ao.cells l.ag az)).ro,(c_ (aP ao.eX l.ag az)).ro,(rd bA l.aa.length 4 (l.aa.map aT.cells)).ro,(rd sgA r.ae.length 2 (r.ae.map av.cells)).ro]) (fun z=>l.aa.length-z.1.1) ⟨(0,none,0,([]:List Nat)),hinit⟩ (an.cons rfl<|an.cons rfl<|an.cons rfl<|an.cons rfl<|an.cons rfl<|an.cons rfl<|an.cons rfl<|an.cons rfl<|an.cons rfl<|an.nil _) (fun w hs=>St.bB [0,1,2,3,4,7,8,9,10,11,12,13] rfl rfl hs) ?_
 clear hinit
 rintro ⟨⟨b,a,c,fb⟩,⟨hl9_0,hl9_1⟩⟩ J26 hJ26
 try dsimp only at hl9_0 hl9_1
 try dsimp only
 have hlf:(bX fb l.aa.length).length=l.aa.length:=jQ (by omega)
 refine WS fun _ hK27=>rS (BI rfl cq)<|RK hK27<|aw fun _ hK28=>?_
 refine bp rfl (fun h29=>?_) (fun h29=>?_)
 ·replace h29:=DT h29
  refine WK hK28<|aw fun _ hK30=>aH<|WS fun _ hK31=>rS (MV rfl)<|rS (AG rfl)<|RK hK31<|aw fun _ hK32=>dA ct [0,1,2,3,4,5,6,7,8,9,10,11,14,15] [12,13,16] [false,false,false,false,true,false,false,false,false,false,false,false,false,false] [true,false,false] [(bw (aP gJ (List.replicate b ([]:TM)) fb)),(own (some ⟨b19,0,none⟩) l.aa.length 120 1 (List.map oC (bX fb l.aa.length))),(aU b16 67 (av.cells (av.mk (-1) 0))),(aU b3 31 (aN.cells (aN.mk r.Start r.dw (aA.mk sgA r.ae.length sgC)))),(aU b2 28 (aG.cells (aG.mk (ay.mk (aA.mk kA l.au.length kC)) l.bJ (aA.mk cA l.ag.length cC) (aA.mk bA l.aa.length bC) l.aB l.aZ l.aO))),(rd kA l.au.length 9 (l.au.map ah.cells)).ro,(rd cA l.ag.length 2 (List.zipWith ao.cells l.ag az)).ro,(c_ (aP ao.eX l.ag az)).ro,(rd bA l.aa.length 4 (l.aa.map aT.cells)).ro,(rd sgA r.ae.length 2 (r.ae.map av.cells)).ro] [(bw (aP gJ (List.replicate b ([]:TM)) fb)),(own a c 3 1 ((bE l b).map iC)),(aU b22 117 (aK.cells (aK.mk (aG.mk (ay.mk (aA.mk kA l.au.length kC)) l.bJ (aA.mk cA l.ag.length cC) (aA.mk bA l.aa.length bC) l.aB l.aZ l.aO) (aN.mk r.Start r.dw (aA.mk sgA r.ae.length sgC)) (aA.mk a ((bE l b).length) c) (aA.mk (some ⟨b19,0,none⟩) l.aa.length l.aa.length) (aA.mk none 0 0) (aA.mk none 0 0)))),(own (some ⟨b19,0,none⟩) l.aa.length 120 1 (List.map oC (bX fb l.aa.length))),(aU b16 67 (av.cells (av.mk (-1) 0))),(aU b3 31 (aN.cells (aN.mk r.Start r.dw (aA.mk sgA r.ae.length sgC)))),(aU b2 28 (aG.cells (aG.mk (ay.mk (aA.mk kA l.au.length kC)) l.bJ (aA.mk cA l.ag.length cC) (aA.mk bA l.aa.length bC) l.aB l.aZ l.aO))),(rd kA l.au.length 9 (l.au.map ah.cells)).ro,(rd cA l.ag.length 2 (List.zipWith ao.cells l.ag az)).ro,(c_ (aP ao.eX l.ag az)).ro,(rd bA l.aa.length 4 (l.aa.map aT.cells)).ro,(rd sgA r.ae.length 2 (r.ae.map av.cells)).ro] (by kernel_rfl) (fun w hs=>St.bB [0,3,4,5,6,7,8,9,10,11] rfl rfl hs) (fun w hs=>St.bB [0,1,2,3,4,5,6,7,8,9,10,11] rfl rfl hs)<|eS rfl (MV rfl) ?_
  refine eS rfl (MV rfl)<|eS rfl (SX (cl rfl rfl) rfl rfl)<|eS rfl (FA 10 rfl lP rfl)<|fS rfl (L1 (Value.slice a ((bE l b).length) c) 2 rfl wX rfl rfl)<|eS rfl (LW 4 rfl eP rfl rfl)<|eS rfl (MV rfl)<|eS rfl (CL (vy l kA kC az cA cC bA bC ((b:Nat):Int) hin (by first|assumption|omega|(simp; done)|(simp; omega)) (by exact hok.ij) (by first|assumption|omega|(simp; done)|(simp; omega))) (ax 5 rfl rfl<|ax 6 rfl rfl<|ax 7 rfl rfl<|ax 8 rfl rfl<|ar) rfl) ?_
  have hwb:=ur htr hok.ij b
  have hwy:=hok.re b (by omega)
  simp only [Int.toNat_natCast]
  refine eS rfl (BI rfl (mA ⟨by omega,by omega⟩))<|eS rfl (FA 1 rfl qt rfl)<|eS rfl (L1 (Value.int .i64 l.bJ) 4 rfl bk rfl rfl)<|eS rfl (CL (v3 (1000*(iw l ((b:Nat):Int).toNat)) l.bJ (by first|assumption|omega|(simp; done)|(simp; omega)) (by first|assumption|omega|(simp; done)|(simp; omega))) (ar) rfl)<|eS rfl (SX (cl rfl rfl) rfl rfl)<|eS rfl (FA 10 rfl lP rfl)<|eJ rfl<|jM rfl fun T33 hT33=>dV (xs:=[.tmp 69]) (cs:=[(Value.int .i64 (mx (1000*(iw l ((b:Nat):Int).toNat)) l.bJ))]) rfl di kb rfl rfl rfl rfl (by simp [Value.cells]) rfl rfl fun b34=>?_
  refine aX (hT33 _ _ (fun w hs=>St.bB [1,4,5,6,7,8,9,10,11,12] rfl rfl hs) (fun w hs=>St.bB [1,2,3,4,5,6,7,8,9,10,11,12] rfl rfl hs) ?_)
  refine cf rfl fun T35 hT35=>gz (es2:=(List.map iC (bE l (b+1)))) (m':=(bE l (b+1)).length) 2 rfl rfl rfl tF rfl rfl (by simp [bK]) (a4 (es:=List.map iC [(mx (1000*(iw l ((b:Nat):Int).toNat)) l.bJ)]) 0 rfl rfl (by simp [bO]) rfl) (mu _) (by have:=bK (l:=l) (n:=b); first|omega|(simp; omega)) (by simp only [maxLen,bK]; omega) (by rw [pv]; simp [eO]) (by simp [bK]) rfl fun a36 c37=>?_
  try dsimp only
  refine RN hT35 [1,4,5,6,7,8,9,10,11,12] rfl rfl<|cf rfl fun T38 hT38=>AV (aK.cells (aK.mk (aG.mk (ay.mk (aA.mk kA l.au.length kC)) l.bJ (aA.mk cA l.ag.length cC) (aA.mk bA l.aa.length bC) l.aB l.aZ l.aO) (aN.mk r.Start r.dw (aA.mk sgA r.ae.length sgC)) (aA.mk a36 ((bE l (b+1)).length) c37) (aA.mk (some ⟨b19,0,none⟩) l.aa.length l.aa.length) (aA.mk none 0 0) (aA.mk none 0 0))) rfl DQ rfl rfl<|RN hT38 [1,4,5,6,7,8,9,10,11,12] rfl rfl<|fJ rfl<|KK hK32<|aC<|rS (MV rfl)<|rS (SX (cl rfl rfl) rfl rfl)<|rS (FA 11 rfl lp rfl) ?_
  refine rS (L1 (Value.slice (some ⟨b19,0,none⟩) l.aa.length l.aa.length) 3 rfl qV rfl rfl)<|rS (MV rfl)<|k3 (kV:=iV) rfl rfl fun b39=>?_
  try dsimp only
  obtain ⟨x40,hx41⟩: ∃ y_,(bX fb l.aa.length)[b]? =some y_:=⟨(bX fb l.aa.length)[b]'(by omega),List.getElem?_eq_getElem _⟩
  have hx41m:(List.map oC (bX fb l.aa.length))[b]? =some (oC x40):=by rw [List.getElem?_map,hx41]; rfl
  refine rS (IA b rfl (ak (n:=l.aa.length) 5 rfl (by first|(simp; done)|(simp; omega))) ql (by decide) (by omega) (by omega)) ?_
  have hb42:((bX fb l.aa.length).set b (some b39))=(bX (fb++[b39]) l.aa.length):=by exact nd (by omega) (by omega)
  refine dy (k:=b) (o:=0) (vs:=[(Value.map (some b39))]) (es':=(List.map oC (bX (fb++[b39]) l.aa.length))) (C':=[_,_,_,_,_,(own (some ⟨b19,0,none⟩) l.aa.length 120 1 (List.map oC (bX (fb++[b39]) l.aa.length))),_,_,_,_,_,_,_,_]) 5 rfl rfl rfl A9 rfl rfl rfl rfl hx41m rfl (by decide) (by exact (List.map_set (f:=oC) (l:=(bX fb l.aa.length)) (i:=b) (a:=(some b39))).symm.trans (congrArg _ hb42)) rfl<|aX<|aL<|KK hK30<|aC<|rS (BI rfl (a9 ⟨by omega,by omega⟩))<|rS (MV rfl)<|aX<|v7 (X':=aP gJ (List.replicate (b+1) ([]:TM)) (fb++[b39])) 2 0 rfl rfl (vV hl9_1) ?_
  try dsimp only
  have hb43:(Value.int .i64 (((b+1):Nat):Int))=(Value.int .i64 (((b:Nat):Int)+1)):=by exact congrArg (Value.int .i64) (by omega)
  refine aY (hJ26 ⟨((b+1),a36,c37,(fb++[b39])),⟨by omega,by simp; omega⟩⟩ _ _ _ rfl (by first|omega|(simp; omega)) (an.cons rfl<|an.cons rfl<|an.cons rfl<|an.cons rfl<|an.cons rfl<|an.cons rfl<|an.cons rfl<|an.cons rfl<|a_ rfl hb43<|an.nil _) (fun w hs=>St.bB [0,2,3,4,5,6,7,8,9,10,11,12] rfl rfl hs))
 replace h29:=DF h29
 refine bM<|ai<|ai<|aI<|KK hK24<|aw fun _ hK44=>WS fun _ hK45=>rS (FA 2 rfl hH rfl)<|rS (L1 (Value.slice sgA r.ae.length sgC) 5 rfl nK rfl rfl)<|rS (LN rfl sE) ?_
 refine rS (MV rfl)<|RK hK45<|aH ?_
 rw [show (List.replicate b ([]:TM))=bf l r.ae 0 from by rw [qv,show b=l.aa.length by omega]]
 rw [show bE l b=bE l l.aa.length from by rw [show b=l.aa.length by omega]]
 have hinit:(0≤r.ae.length)∧(kG l r.ae 0):=by exact ⟨Nat.zero_le _,pk⟩
 refine cP (ι:={z:Nat // (z≤r.ae.length)∧(kG l r.ae z)}) (fun z=>[(2,(Value.slice none 0 0)),(3,(Value.pointer (some ⟨b2,0,none⟩))),(4,(Value.pointer (some ⟨b3,0,none⟩))),(6,(Value.pointer none)),(7,(Value.int .i64 0)),(9,(Value.pointer (some ⟨b16,0,none⟩))),(10,(Value.pointer (some ⟨b22,0,none⟩))),(83,(Value.slice sgA r.ae.length sgC)),(84,(Value.int .i64 ((r.ae.length:Nat):Int))),(85,(Value.int .i64 ((z.1:Nat):Int)))]) (fun z=>[(bw (aP gJ (bf l r.ae z.1) fb)),(own a c 3 1 ((bE l l.aa.length).map iC)),(aU b22 117 (aK.cells (aK.mk (aG.mk (ay.mk (aA.mk kA l.au.length kC)) l.bJ (aA.mk cA l.ag.length cC) (aA.mk bA l.aa.length bC) l.aB l.aZ l.aO) (aN.mk r.Start r.dw (aA.mk sgA r.ae.length sgC)) (aA.mk a ((bE l l.aa.length).length) c) (aA.mk (some ⟨b19,0,none⟩) l.aa.length l.aa.length) (aA.mk none 0 0) (aA.mk none 0 0)))),(own (some ⟨b19,0,none⟩) l.aa.length 120 1 (List.map oC (bX fb l.aa.length))),(aU b16 67 (av.cells (fO r.ae z.1))),(aU b3 31 (aN.cells (aN.mk r.Start r.dw (aA.mk sgA r.ae.length sgC)))),(aU b2 28 (aG.cells (aG.mk (ay.mk (aA.mk kA l.au.length kC)) l.bJ (aA.mk cA l.ag.length cC) (aA.mk bA l.aa.length bC) l.aB l.aZ l.aO))),(rd kA l.au.length 9 (l.au.map ah.cells)).ro,(rd cA l.ag.length 2 (List.zipWith ao.cells l.ag az)).ro,(c_ (aP ao.eX l.ag az)).ro,(rd bA l.aa.length 4 (l.aa.map aT.cells)).ro,(rd sgA r.ae.length 2 (r.ae.map av.cells)).ro]) (fun z=>r.ae.length-z.1) ⟨0,hinit⟩ (an.cons rfl<|an.cons rfl<|an.cons rfl<|an.cons rfl<|an.cons rfl<|an.cons rfl<|an.cons rfl<|an.cons rfl<|an.cons rfl<|an.cons rfl<|an.nil _) (fun w hs=>St.bB [0,1,2,3,4,5,6,7,8,9,10,11] rfl rfl hs) ?_
 clear hinit
 rintro ⟨i,⟨hl15_0,hl15_1⟩⟩ J46 hJ46
 try dsimp only
 have htlen:(bf l r.ae i).length=l.aa.length:=dO
 have hlf:(bX fb l.aa.length).length=l.aa.length:=jQ (by omega)
 refine WS fun _ hK47=>rS (BI rfl cq)<|RK hK47<|aw fun _ hK48=>?_
 refine bp rfl (fun h49=>?_) (fun h49=>?_)
 rotate_left 1
 ·replace h49:=DF h49
  refine bM<|ai<|ai<|aI<|KK hK44<|aw fun _ hK79=>aw fun _ hK80=>?_
  have hro:c7 l r:=ib (by omega) (by omega) hl15_1 (by omega)
  refine aC<|rS (MV rfl)<|rS (LN rfl Bu)<|rS (MV rfl)<|RK hK80<|aH<|oe 1<|jK fun R81 hR81=>WS fun _ hK82=>rS (SX (gn (r:= .bool false) rfl rfl rfl cq) rfl rfl) ?_
  refine RK hK82<|aw fun _ hK83=>bH rfl<|bM<|ai<|ai<|aI<|KK hK79<|aw fun _ hK84=>?_
  rw [show bf l r.ae i=bf l r.ae r.ae.length from by rw [show i=r.ae.length by omega]]
  have htl:(bf l r.ae r.ae.length).length=l.aa.length:=dO
  rw [show (List.map oC (bX fb l.aa.length))=(List.zipWith cb (bf l r.ae r.ae.length) fb) from EE (by omega) htl]
  rw [show (aU b22 117 (aK.cells (aK.mk (aG.mk (ay.mk (aA.mk kA l.au.length kC)) l.bJ (aA.mk cA l.ag.length cC) (aA.mk bA l.aa.length bC) l.aB l.aZ l.aO) (aN.mk r.Start r.dw (aA.mk sgA r.ae.length sgC)) (aA.mk a ((bE l l.aa.length).length) c) (aA.mk (some ⟨b19,0,none⟩) l.aa.length l.aa.length) (aA.mk none 0 0) (aA.mk none 0 0))))=(aU b22 117 (aK.cells (aK.mk (aG.mk (ay.mk (aA.mk kA l.au.length kC)) l.bJ (aA.mk cA l.ag.length cC) (aA.mk bA l.aa.length bC) l.aB l.aZ l.aO) (aN.mk r.Start r.dw (aA.mk sgA r.ae.length sgC)) (aA.mk a ((bE l l.aa.length).length) c) (aA.mk (some ⟨b19,0,none⟩) ((bf l r.ae r.ae.length).length) l.aa.length) (aA.mk none 0 0) (aA.mk none 0 0)))) from by rw [htl]]
  have hwo:=iK htr hok hro
  have hlel:(bE l l.aa.length).length=l.aa.length:=bK
  refine aC<|rS (MV rfl) ?_
  refine oB 2 rfl rfl rfl rfl (tz (aG.mk (ay.mk (aA.mk kA l.au.length kC)) l.bJ (aA.mk cA l.ag.length cC) (aA.mk bA l.aa.length bC) l.aB l.aZ l.aO) (aN.mk r.Start r.dw (aA.mk sgA r.ae.length sgC)) (bE l l.aa.length) (bf l r.ae r.ae.length) a c fb (some ⟨b19,0,none⟩) l.aa.length b22 (by exact hwo) (by exact bK.symm) (by rw [htl]; omega)) rfl (mV 1 rfl rfl (er (by simp)) (mV 3 rfl rfl (er (by rw [List.length_zipWith]; omega)) (mV 0 rfl rfl gZ qI))) rfl (fun y93 hfo=>?_)
  obtain ⟨fs85,fb86,fA87,fC88,bs89,bb90,bA91,bC92⟩:=y93
  refine vP (X:=[(aU b22 117 (aK.cells (aK.mk (aG.mk (ay.mk (aA.mk kA l.au.length kC)) l.bJ (aA.mk cA l.ag.length cC) (aA.mk bA l.aa.length bC) l.aB l.aZ l.aO) (aN.mk r.Start r.dw (aA.mk sgA r.ae.length sgC)) (aA.mk a ((bE l l.aa.length).length) c) (aA.mk (some ⟨b19,0,none⟩) ((bf l r.ae r.ae.length).length) l.aa.length) (aA.mk fA87 fs85.length fC88) (aA.mk bA91 bs89.length bC92)))),(own fA87 fC88 122 1 (List.zipWith cb fs85 fb86)),(bw (aP e8 fs85 fb86)),(own bA91 bC92 122 1 (List.zipWith cb bs89 bb90)),(bw (aP e8 bs89 bb90))]) 2 rfl rfl ?_
  try dsimp only
  obtain ⟨hq1,hq2,hq3,hq4⟩:=hfo
  dsimp only at hq1 hq2 hq3 hq4
  refine RK hK84<|aw fun _ hK94=>WS fun _ hK95=>rS (MV rfl)<|cX (mT (aG.mk (ay.mk (aA.mk kA l.au.length kC)) l.bJ (aA.mk cA l.ag.length cC) (aA.mk bA l.aa.length bC) l.aB l.aZ l.aO) (aN.mk r.Start r.dw (aA.mk sgA r.ae.length sgC)) (bE l l.aa.length) (bf l r.ae r.ae.length) a c fb (some ⟨b19,0,none⟩) l.aa.length fs85 bs89 fb86 fA87 fC88 bb90 bA91 bC92 b22 (by exact hwo) (by first|assumption|omega|(simp; done)|(simp; omega)) (by exact bK.symm) (by exact hq1) (by first|assumption|omega|(simp; done)|(simp; omega))) (aF (ak (n:=(bE l l.aa.length).length) 6 rfl (by simp))<|aF (ak (n:=(bf l r.ae r.ae.length).length) 7 rfl (by rw [List.length_zipWith]; omega))<|aF (eo 5 rfl gF)<|aF (ak (n:=fs85.length) 1 rfl (by rw [List.length_zipWith]; omega))<|aF (eo 2 rfl gF)<|aF (ak (n:=bs89.length) 3 rfl (by rw [List.length_zipWith]; omega))<|aF (eo 4 rfl gF)<|ax 0 rfl rfl<|ar) rfl fun y96 hy97=>?_
  obtain ⟨a98,c99⟩:=y96
  try dsimp only
  refine rS (LN rfl jD)<|rS (BI rfl eC)<|RK hK95 ?_
  refine bp rfl (fun h164=>?_) (fun h164=>?_)
  rotate_left 1
  ·replace h164:=DF h164
   refine WK hK94<|WS fun _ hK101=>rS (MV rfl)<|rS (AG rfl)<|rS (AG rfl)<|RK hK101<|aE ?_
   refine hQ _ _ _ (bD (vs:=[(Value.pointer (some ⟨b22,0,none⟩)),(Value.int .i64 0)]) ⟨rfl,rfl,trivial⟩ fun w hs=>fj (true,0,b22,a,c,(some ⟨b19,0,none⟩),l.aa.length,fb,fs85,fb86,fA87,fC88,bs89,bb90,bA91,bC92) [1,7,8,6,2,3,4,5] ?_ ?_ rfl rfl (by first|rfl|(show List.all _ _=true; simp only [cond_true,List.all_cons,List.all_nil,g4,ik,Bool.and_true]; rfl)) hs)
   ·rfl
   ·exact ⟨fun _=>⟨iX h10 hro (by first|rfl|exact h156) (fun q=>h164 (congrArg (fun z:List Int=>((z.length:Nat):Int)) q)),hq1,hq2,hq3,hq4,by dsimp only; omega⟩,fun q=>Bool.noConfusion (show true=false from q)⟩
  replace h164:=DT h164
  refine WS fun _ hK100=>rS (AG rfl)<|rS (AG rfl)<|RK hK100<|aE ?_
  refine hQ _ _ _ (bD (vs:=[(Value.pointer none),(Value.int .i64 8)]) ⟨rfl,rfl,trivial⟩ fun w hs=>fj (false,8,0,none,0,none,0,[],[],[],none,0,[],[],none,0) [] ?_ ?_ rfl rfl (by first|rfl|(show List.all _ _=true; simp only [cond_true,List.all_cons,List.all_nil,g4,ik,Bool.and_true]; rfl)) hs)
  ·rfl
  ·refine ⟨fun q=>Bool.noConfusion (show false=true from q),fun _=>?_⟩; first|(have e:=cY (r:=r) (me:=0) h21; exact ⟨e.symm,fun q=>h21 (e.symm.trans q)⟩)|(have e:=bq (me:=0) h10 (fun q:c7 l r=>by have q1:=q.time; have q2:=q.len; omega); exact ⟨e.symm,fun q=>absurd (e.symm.trans q) (by decide)⟩)|(have e:=bq (me:=0) h10 (eU hx (by unfold dK eb; omega)); exact ⟨e.symm,fun q=>absurd (e.symm.trans q) (by decide)⟩)|(have e:=cV (me:=0) h10 hro (by first|rfl|exact h156) (show dJ (a6 l r)=[] from List.eq_nil_of_length_eq_zero (Int.natCast_eq_zero.1 h164)); exact ⟨e.symm,fun q=>absurd (e.symm.trans q) (by decide)⟩)
 replace h49:=DT h49
 refine WK hK48<|aw fun _ hK50=>aH<|WS fun _ hK51=>rS (MV rfl) ?_
 obtain ⟨x,hx⟩: ∃ y_,r.ae[i]? =some y_:=⟨r.ae[i]'(by omega),List.getElem?_eq_getElem _⟩
 have hxm:(r.ae.map av.cells)[i]? =some (av.cells x):=by rw [List.getElem?_map,hx]; rfl
 refine rS (IA i rfl (aQ 11 rfl) sH (by decide) (by omega) (by omega))<|rS (kE i 0 (av.cells x) rfl iI (aQ 11 rfl) hxm rfl (by decide) rfl rfl)<|AL rfl qe fun b52=>rS (AG rfl)<|e7 rfl mJ rfl<|RK hK51<|aw fun _ hK53=>WS fun _ hK54=>rS (FA 3 rfl dQ rfl)<|rS (L1 (Value.slice bA l.aa.length bC) 7 rfl hP rfl rfl) ?_
 refine rS (LN rfl jz)<|rS (BI rfl (cr ⟨by omega,by omega⟩))<|rS (FA 0 rfl ei rfl)<|rS (L1 (Value.int .i64 x.cy) 0 rfl bk rfl rfl)<|dV (xs:=[.tmp 95]) (cs:=[(Value.int .i64 x.cy)]) rfl di kb rfl rfl rfl rfl (by simp [Value.cells]) rfl rfl fun b55=>rS (CL (dY.eq (d_ 0 (((l.aa.length:Nat):Int)-1) ([x.cy]) (some ⟨b55,0,none⟩) 1 (by first|assumption|omega|(simp; done)|(simp; omega))) cI) (aF (a4 0 rfl rfl (by simp [bO]) rfl)<|ar) rfl)<|rS (NT rfl)<|rS (MV rfl) ?_
 refine bo (t:=99) rfl (fun h99=>?_) (fun h99=>?_)
 ·replace h99:=XT h99
  refine rS (OX rfl)<|rS (OX rfl)<|rS (OX rfl)<|rS (OX rfl)<|rS (OX rfl)<|rS (PK rfl)<|rS (MV rfl)<|rS (OX rfl)<|rS (OX rfl)<|rS (OX rfl) ?_
  refine rS (OX rfl)<|rS (OX rfl)<|rS (PK rfl)<|rS (MV rfl)<|rS (OX rfl)<|rS (OX rfl)<|rS (OX rfl)<|rS (OX rfl)<|rS (OX rfl)<|rS (OX rfl) ?_
  refine rS (OX rfl)<|rS (OX rfl)<|rS (OX rfl)<|rS (OX rfl)<|rS (OX rfl)<|rS (OX rfl)<|rS (PK rfl)<|RK hK54<|aW rfl<|WS fun _ hK56=>?_
  refine rS (AG rfl)<|rS (AG rfl)<|RK hK56<|aE ?_
  refine hQ _ _ _ (bD (vs:=[(Value.pointer none),(Value.int .i64 51)]) ⟨rfl,rfl,trivial⟩ fun w hs=>fj (false,51,0,none,0,none,0,[],[],[],none,0,[],[],none,0) [] ?_ ?_ rfl rfl (by first|rfl|(show List.all _ _=true; simp only [cond_true,List.all_cons,List.all_nil,g4,ik,Bool.and_true]; rfl)) hs)
  ·rfl
  ·refine ⟨fun q=>Bool.noConfusion (show false=true from q),fun _=>?_⟩; first|(have e:=cY (r:=r) (me:=0) h21; exact ⟨e.symm,fun q=>h21 (e.symm.trans q)⟩)|(have e:=bq (me:=0) h10 (fun q:c7 l r=>by have q1:=q.time; have q2:=q.len; omega); exact ⟨e.symm,fun q=>absurd (e.symm.trans q) (by decide)⟩)|(have e:=bq (me:=0) h10 (eU hx (by unfold dK eb; omega)); exact ⟨e.symm,fun q=>absurd (e.symm.trans q) (by decide)⟩)|(have e:=cV (me:=0) h10 hro (by first|rfl|exact h156) (show dJ (a6 l r)=[] from List.eq_nil_of_length_eq_zero (Int.natCast_eq_zero.1 h164)); exact ⟨e.symm,fun q=>absurd (e.symm.trans q) (by decide)⟩)
 replace h99:=XF h99
 refine rS (FA 1 rfl hZ rfl)<|rS (L1 (Value.int .i64 x.Read) 1 rfl bk rfl rfl)<|dV (xs:=[.tmp 101]) (cs:=[(Value.int .i64 x.Read)]) rfl di kb rfl rfl rfl rfl (by simp [Value.cells]) rfl rfl fun b57=>rS (CL (dY.eq (d_ 0 86400000 ([x.Read]) (some ⟨b57,0,none⟩) 1 (by first|assumption|omega|(simp; done)|(simp; omega))) cI) (aF (a4 0 rfl rfl (by simp [bO]) rfl)<|ar) rfl)<|rS (NT rfl)<|rS (PK rfl)<|rS (MV rfl) ?_
 refine bo (t:=106) rfl (fun h106=>?_) (fun h106=>?_)
 ·replace h106:=XT h106
  refine rS (OX rfl)<|rS (OX rfl)<|rS (OX rfl)<|rS (OX rfl)<|rS (OX rfl)<|rS (PK rfl)<|rS (MV rfl)<|rS (OX rfl)<|rS (OX rfl)<|rS (OX rfl) ?_
  refine rS (OX rfl)<|rS (OX rfl)<|rS (OX rfl)<|rS (OX rfl)<|rS (OX rfl)<|rS (OX rfl)<|rS (OX rfl)<|rS (OX rfl)<|rS (OX rfl)<|rS (PK rfl) ?_
  refine RK hK54<|aW rfl<|WS fun _ hK58=>rS (AG rfl)<|rS (AG rfl)<|RK hK58<|aE ?_
  refine hQ _ _ _ (bD (vs:=[(Value.pointer none),(Value.int .i64 51)]) ⟨rfl,rfl,trivial⟩ fun w hs=>fj (false,51,0,none,0,none,0,[],[],[],none,0,[],[],none,0) [] ?_ ?_ rfl rfl (by first|rfl|(show List.all _ _=true; simp only [cond_true,List.all_cons,List.all_nil,g4,ik,Bool.and_true]; rfl)) hs)
  ·rfl
  ·refine ⟨fun q=>Bool.noConfusion (show false=true from q),fun _=>?_⟩; first|(have e:=cY (r:=r) (me:=0) h21; exact ⟨e.symm,fun q=>h21 (e.symm.trans q)⟩)|(have e:=bq (me:=0) h10 (fun q:c7 l r=>by have q1:=q.time; have q2:=q.len; omega); exact ⟨e.symm,fun q=>absurd (e.symm.trans q) (by decide)⟩)|(have e:=bq (me:=0) h10 (eU hx (by unfold dK eb; omega)); exact ⟨e.symm,fun q=>absurd (e.symm.trans q) (by decide)⟩)|(have e:=cV (me:=0) h10 hro (by first|rfl|exact h156) (show dJ (a6 l r)=[] from List.eq_nil_of_length_eq_zero (Int.natCast_eq_zero.1 h164)); exact ⟨e.symm,fun q=>absurd (e.symm.trans q) (by decide)⟩)
 replace h106:=XF h106
 refine rS (FA 0 rfl ei rfl)<|rS (L1 (Value.int .i64 x.cy) 2 rfl bk rfl rfl)<|rS (FA 0 rfl ei rfl)<|rS (L1 (Value.int .i64 ((fO r.ae i).cy)) 7 rfl bk rfl rfl)<|rS (BI rfl cq)<|rS (PK rfl)<|rS (MV rfl) ?_
 refine bo (t:=113) rfl (fun h113=>?_) (fun h113=>?_)
 ·replace h113:=DT h113
  refine rS (OX rfl)<|rS (OX rfl)<|rS (OX rfl)<|rS (OX rfl)<|rS (OX rfl)<|rS (OX rfl)<|rS (OX rfl)<|rS (OX rfl)<|rS (OX rfl)<|rS (OX rfl) ?_
  refine rS (OX rfl)<|rS (OX rfl)<|rS (PK rfl)<|RK hK54<|aW rfl<|WS fun _ hK59=>rS (AG rfl)<|rS (AG rfl)<|RK hK59<|aE ?_
  refine hQ _ _ _ (bD (vs:=[(Value.pointer none),(Value.int .i64 51)]) ⟨rfl,rfl,trivial⟩ fun w hs=>fj (false,51,0,none,0,none,0,[],[],[],none,0,[],[],none,0) [] ?_ ?_ rfl rfl (by first|rfl|(show List.all _ _=true; simp only [cond_true,List.all_cons,List.all_nil,g4,ik,Bool.and_true]; rfl)) hs)
  ·rfl
  ·refine ⟨fun q=>Bool.noConfusion (show false=true from q),fun _=>?_⟩; first|(have e:=cY (r:=r) (me:=0) h21; exact ⟨e.symm,fun q=>h21 (e.symm.trans q)⟩)|(have e:=bq (me:=0) h10 (fun q:c7 l r=>by have q1:=q.time; have q2:=q.len; omega); exact ⟨e.symm,fun q=>absurd (e.symm.trans q) (by decide)⟩)|(have e:=bq (me:=0) h10 (eU hx (by unfold dK eb; omega)); exact ⟨e.symm,fun q=>absurd (e.symm.trans q) (by decide)⟩)|(have e:=cV (me:=0) h10 hro (by first|rfl|exact h156) (show dJ (a6 l r)=[] from List.eq_nil_of_length_eq_zero (Int.natCast_eq_zero.1 h164)); exact ⟨e.symm,fun q=>absurd (e.symm.trans q) (by decide)⟩)
 replace h113:=DF h113
 refine rS (FA 0 rfl ei rfl)<|rS (L1 (Value.int .i64 x.cy) 2 rfl bk rfl rfl)<|rS (FA 0 rfl ei rfl)<|rS (L1 (Value.int .i64 ((fO r.ae i).cy)) 7 rfl bk rfl rfl)<|rS (BI rfl eC)<|rS (MV rfl) ?_
 refine bo (t:=119) rfl (fun h119=>?_) (fun h119=>?_)
 rotate_left 1
 ·replace h119:=DF h119
  refine rS (OX rfl)<|rS (OX rfl)<|rS (OX rfl)<|rS (OX rfl)<|rS (OX rfl)<|rS (PK rfl)<|rS (PK rfl)<|RK hK54<|bH rfl<|WK hK53 ?_
  refine aw fun _ hK70=>WS fun _ hK71=>rS (LW 9 rfl eP rfl rfl)<|rS (LW 2 rfl iI rfl rfl)<|rS (CL (q4 l kA kC az cA cC bA bC x hin (by first|assumption|omega|(simp; done)|(simp; omega)) (by first|assumption|omega|(simp; done)|(simp; omega))) (ax 10 rfl rfl<|ax 11 rfl rfl<|ax 12 rfl rfl<|ax 13 rfl rfl<|ar) rfl)<|AL rfl dk fun b72=>e7 rfl cv rfl<|RK hK71<|WS fun _ hK73=>rS (FA 0 rfl bP rfl) ?_
  refine rS (L1 (Value.int .i64 ((cp l x).Lo)) 0 rfl bk rfl rfl)<|rS (FA 1 rfl bZ rfl)<|rS (L1 (Value.int .i64 ((cp l x).Hi)) 0 rfl bk rfl rfl)<|rS (BI rfl eT)<|RK hK73 ?_
  refine bp rfl (fun h134=>?_) (fun h134=>?_)
  rotate_left 1
  ·replace h134:=DF h134
   refine WK hK70<|aC<|rS (LW 3 rfl iI rfl rfl)<|EN rfl mJ rfl<|aX<|aL<|KK hK50 ?_
   have hb77:(av.cells x)=(av.cells (fO r.ae (i+1))):=by rw [g0 hx]
   rw [hb77]
   refine aC<|rS (BI rfl (a9 ⟨by omega,by omega⟩))<|rS (MV rfl)<|aX ?_
   rw [show (bf l r.ae i)=(bf l r.ae (i+1)) from (lO hx h134).symm]
   have hb78:(Value.int .i64 (((i+1):Nat):Int))=(Value.int .i64 (((i:Nat):Int)+1)):=by exact congrArg (Value.int .i64) (by omega)
   refine aY (hJ46 ⟨(i+1),⟨by omega,fT hl15_1 hx (by unfold dK eb; omega)⟩⟩ _ _ _ rfl (by first|omega|(simp; omega)) (an.cons rfl<|an.cons rfl<|an.cons rfl<|an.cons rfl<|an.cons rfl<|an.cons rfl<|an.cons rfl<|an.cons rfl<|an.cons rfl<|a_ rfl hb78<|an.nil _) (fun w hs=>St.bB [4,5,6,7,8,9,10,11,12,13,14,15] rfl rfl hs))
  replace h134:=DT h134
  obtain ⟨mb,hmb⟩: ∃ y_,(bf l r.ae i)[(x.cy).toNat]? =some y_:=⟨(bf l r.ae i)[(x.cy).toNat]'(by omega),List.getElem?_eq_getElem _⟩
  obtain ⟨ga,hga⟩: ∃ y_,fb[(x.cy).toNat]? =some y_:=⟨fb[(x.cy).toNat]'(by omega),List.getElem?_eq_getElem _⟩
  refine sa 4 hmb hga rfl rfl rfl ?_
  try dsimp only
  refine dj ct 10 (by kernel_rfl)<|dS (MV rfl)<|dS (SX (cl rfl rfl) rfl rfl)<|dS (FA 11 rfl lp rfl)<|dS (L1 (Value.slice (some ⟨b19,0,none⟩) l.aa.length l.aa.length) 7 rfl qV rfl rfl)<|dS (FA 0 rfl ei rfl)<|dS (L1 (Value.int .i64 x.cy) 5 rfl bk rfl rfl) ?_
  have hk74:(List.map oC (bX fb l.aa.length))[(x.cy).toNat]? =some (oC (some ga)):=l0 (js hga)
  refine dS (IA ((x.cy).toNat) rfl (ak (n:=l.aa.length) 8 rfl (by first|(simp; done)|(simp; omega))) ql (by decide) (by omega) (by omega))<|dS (ir ((x.cy).toNat) 0 (Value.map (some ga)) rfl sc (ak (n:=(bX fb l.aa.length).length) 8 rfl (by simp)) hk74 rfl (by decide) rfl)<|dS (MV rfl)<|dS (LW 2 rfl cB rfl rfl)<|cE<|g8 (kV:=iV) (x:=((i:Nat):Int)) (C':=[(jr iV ga (bu kr (dz mb ((i:Nat):Int) (cp l x)))),_,_,_,_,_,_,_,_,_,_,_,_,_,_,_,_]) 0 rfl rfl rfl rfl tr (jo rl) rfl (e9 _ _ _ _).symm rfl<|RK hK70<|aC<|rS (LW 5 rfl iI rfl rfl)<|EO rfl mJ rfl ?_
  refine aX<|aL<|KK hK50 ?_
  have hb75:(av.cells x)=(av.cells (fO r.ae (i+1))):=by rw [g0 hx]
  rw [hb75]
  refine aC<|rS (BI rfl (a9 ⟨by omega,by omega⟩))<|rS (MV rfl)<|aX<|sJ (f:=gJ) (ms:=(bf l r.ae i)) (m:=(dz mb ((i:Nat):Int) (cp l x))) 1 0 (by rw [dO]; omega) hga rfl rfl rfl ?_
  rw [nc hx (by omega) h134 hmb]
  have hb76:(Value.int .i64 (((i+1):Nat):Int))=(Value.int .i64 (((i:Nat):Int)+1)):=by exact congrArg (Value.int .i64) (by omega)
  refine aY (hJ46 ⟨(i+1),⟨by omega,fT hl15_1 hx (by unfold dK eb; omega)⟩⟩ _ _ _ rfl (by first|omega|(simp; omega)) (an.cons rfl<|an.cons rfl<|an.cons rfl<|an.cons rfl<|an.cons rfl<|an.cons rfl<|an.cons rfl<|an.cons rfl<|an.cons rfl<|a_ rfl hb76<|an.nil _) (fun w hs=>St.bB [0,5,6,7,8,9,10,11,12,13,14,15] rfl rfl hs))
 replace h119:=DT h119
 refine rS (FA 1 rfl hZ rfl)<|rS (L1 (Value.int .i64 x.Read) 2 rfl bk rfl rfl)<|rS (FA 1 rfl hZ rfl)<|rS (L1 (Value.int .i64 ((fO r.ae i).Read)) 7 rfl bk rfl rfl)<|rS (BI rfl eT)<|rS (PK rfl)<|rS (PK rfl)<|RK hK54 ?_
 refine bp rfl (fun h126=>?_) (fun h126=>?_)
 ·replace h126:=DT h126
  refine WS fun _ hK60=>rS (AG rfl)<|rS (AG rfl)<|RK hK60<|aE ?_
  refine hQ _ _ _ (bD (vs:=[(Value.pointer none),(Value.int .i64 51)]) ⟨rfl,rfl,trivial⟩ fun w hs=>fj (false,51,0,none,0,none,0,[],[],[],none,0,[],[],none,0) [] ?_ ?_ rfl rfl (by first|rfl|(show List.all _ _=true; simp only [cond_true,List.all_cons,List.all_nil,g4,ik,Bool.and_true]; rfl)) hs)
  ·rfl
  ·refine ⟨fun q=>Bool.noConfusion (show false=true from q),fun _=>?_⟩; first|(have e:=cY (r:=r) (me:=0) h21; exact ⟨e.symm,fun q=>h21 (e.symm.trans q)⟩)|(have e:=bq (me:=0) h10 (fun q:c7 l r=>by have q1:=q.time; have q2:=q.len; omega); exact ⟨e.symm,fun q=>absurd (e.symm.trans q) (by decide)⟩)|(have e:=bq (me:=0) h10 (eU hx (by unfold dK eb; omega)); exact ⟨e.symm,fun q=>absurd (e.symm.trans q) (by decide)⟩)|(have e:=cV (me:=0) h10 hro (by first|rfl|exact h156) (show dJ (a6 l r)=[] from List.eq_nil_of_length_eq_zero (Int.natCast_eq_zero.1 h164)); exact ⟨e.symm,fun q=>absurd (e.symm.trans q) (by decide)⟩)
 replace h126:=DF h126
 refine WK hK53<|aw fun _ hK61=>WS fun _ hK62=>rS (LW 9 rfl eP rfl rfl)<|rS (LW 2 rfl iI rfl rfl)<|rS (CL (q4 l kA kC az cA cC bA bC x hin (by first|assumption|omega|(simp; done)|(simp; omega)) (by first|assumption|omega|(simp; done)|(simp; omega))) (ax 10 rfl rfl<|ax 11 rfl rfl<|ax 12 rfl rfl<|ax 13 rfl rfl<|ar) rfl)<|AL rfl dk fun b63=>e7 rfl cv rfl<|RK hK62<|WS fun _ hK64=>?_
 refine rS (FA 0 rfl bP rfl)<|rS (L1 (Value.int .i64 ((cp l x).Lo)) 0 rfl bk rfl rfl)<|rS (FA 1 rfl bZ rfl)<|rS (L1 (Value.int .i64 ((cp l x).Hi)) 0 rfl bk rfl rfl)<|rS (BI rfl eT)<|RK hK64 ?_
 refine bp rfl (fun h134=>?_) (fun h134=>?_)
 rotate_left 1
 ·replace h134:=DF h134
  refine WK hK61<|aC<|rS (LW 3 rfl iI rfl rfl)<|EN rfl mJ rfl<|aX<|aL<|KK hK50 ?_
  have hb68:(av.cells x)=(av.cells (fO r.ae (i+1))):=by rw [g0 hx]
  rw [hb68]
  refine aC<|rS (BI rfl (a9 ⟨by omega,by omega⟩))<|rS (MV rfl)<|aX ?_
  rw [show (bf l r.ae i)=(bf l r.ae (i+1)) from (lO hx h134).symm]
  have hb69:(Value.int .i64 (((i+1):Nat):Int))=(Value.int .i64 (((i:Nat):Int)+1)):=by exact congrArg (Value.int .i64) (by omega)
  refine aY (hJ46 ⟨(i+1),⟨by omega,fT hl15_1 hx (by unfold dK eb; omega)⟩⟩ _ _ _ rfl (by first|omega|(simp; omega)) (an.cons rfl<|an.cons rfl<|an.cons rfl<|an.cons rfl<|an.cons rfl<|an.cons rfl<|an.cons rfl<|an.cons rfl<|an.cons rfl<|a_ rfl hb69<|an.nil _) (fun w hs=>St.bB [4,5,6,7,8,9,10,11,12,13,14,15] rfl rfl hs))
 replace h134:=DT h134
 obtain ⟨mb,hmb⟩: ∃ y_,(bf l r.ae i)[(x.cy).toNat]? =some y_:=⟨(bf l r.ae i)[(x.cy).toNat]'(by omega),List.getElem?_eq_getElem _⟩
 obtain ⟨ga,hga⟩: ∃ y_,fb[(x.cy).toNat]? =some y_:=⟨fb[(x.cy).toNat]'(by omega),List.getElem?_eq_getElem _⟩
 refine sa 4 hmb hga rfl rfl rfl ?_
 try dsimp only
 refine dj ct 10 (by kernel_rfl)<|dS (MV rfl)<|dS (SX (cl rfl rfl) rfl rfl)<|dS (FA 11 rfl lp rfl)<|dS (L1 (Value.slice (some ⟨b19,0,none⟩) l.aa.length l.aa.length) 7 rfl qV rfl rfl)<|dS (FA 0 rfl ei rfl)<|dS (L1 (Value.int .i64 x.cy) 5 rfl bk rfl rfl) ?_
 have hk65:(List.map oC (bX fb l.aa.length))[(x.cy).toNat]? =some (oC (some ga)):=l0 (js hga)
 refine dS (IA ((x.cy).toNat) rfl (ak (n:=l.aa.length) 8 rfl (by first|(simp; done)|(simp; omega))) ql (by decide) (by omega) (by omega))<|dS (ir ((x.cy).toNat) 0 (Value.map (some ga)) rfl sc (ak (n:=(bX fb l.aa.length).length) 8 rfl (by simp)) hk65 rfl (by decide) rfl)<|dS (MV rfl)<|dS (LW 2 rfl cB rfl rfl)<|cE<|g8 (kV:=iV) (x:=((i:Nat):Int)) (C':=[(jr iV ga (bu kr (dz mb ((i:Nat):Int) (cp l x)))),_,_,_,_,_,_,_,_,_,_,_,_,_,_,_,_]) 0 rfl rfl rfl rfl tr (jo rl) rfl (e9 _ _ _ _).symm rfl<|RK hK61<|aC<|rS (LW 5 rfl iI rfl rfl)<|EO rfl mJ rfl ?_
 refine aX<|aL<|KK hK50 ?_
 have hb66:(av.cells x)=(av.cells (fO r.ae (i+1))):=by rw [g0 hx]
 rw [hb66]
 refine aC<|rS (BI rfl (a9 ⟨by omega,by omega⟩))<|rS (MV rfl)<|aX<|sJ (f:=gJ) (ms:=(bf l r.ae i)) (m:=(dz mb ((i:Nat):Int) (cp l x))) 1 0 (by rw [dO]; omega) hga rfl rfl rfl ?_
 rw [nc hx (by omega) h134 hmb]
 have hb67:(Value.int .i64 (((i+1):Nat):Int))=(Value.int .i64 (((i:Nat):Int)+1)):=by exact congrArg (Value.int .i64) (by omega)
 refine aY (hJ46 ⟨(i+1),⟨by omega,fT hl15_1 hx (by unfold dK eb; omega)⟩⟩ _ _ _ rfl (by first|omega|(simp; omega)) (an.cons rfl<|an.cons rfl<|an.cons rfl<|an.cons rfl<|an.cons rfl<|an.cons rfl<|an.cons rfl<|an.cons rfl<|an.cons rfl<|a_ rfl hb67<|an.nil _) (fun w hs=>St.bB [0,5,6,7,8,9,10,11,12,13,14,15] rfl rfl hs))
end
section
open Go.RowKit
set_option linter.unusedVariables false
set_option maxRecDepth 100000 in
set_option maxHeartbeats 400000 in
theorem Bp (l:List Int) (lA:Option Addr) (lC:Nat) (hne:1≤l.length) (hlen:l.length≤1000000):
 dY Tryz.prog 36 [(Value.slice lA l.length lC)] [(rd lA l.length 1 (l.map iC))] (Value.int .i64 (iF l)):=by
 refine bG F0 Tryz.func36 rfl rfl fun w0 Q hQ hN=>?_
 try dsimp only
 refine WS fun _ hK1=>rS (AG rfl)<|RK hK1<|aw fun _ hK2=>WS fun _ hK3=>rS (MV rfl)<|rS (LN rfl jD)<|rS (BI rfl cq)<|RK hK3 ?_
 refine bp rfl (fun h4=>?_) (fun h4=>?_)
 ·replace h4:=DT h4
  exfalso; omega
 replace h4:=DF h4
 refine WK hK2<|WS fun _ hK5=>rS (MV rfl) ?_
 obtain ⟨x0,hx0⟩: ∃ y_,l[0]? =some y_:=⟨l[0]'(by omega),List.getElem?_eq_getElem _⟩
 have hx0m:(l.map iC)[0]? =some (iC x0):=by rw [List.getElem?_map,hx0]; rfl
 refine rS (IA 0 rfl (aQ 0 rfl) di (by decide) rfl (by omega))<|rS (ir 0 0 (Value.int .i64 x0) rfl bk (aQ 0 rfl) hx0m rfl (by decide) rfl)<|rS (AG rfl)<|RK hK5<|aw fun _ hK6=>WS fun _ hK7=>rS (AG rfl)<|RK hK7<|aH ?_
 have hinit:(1≤1∧1≤l.length):=by omega
 have hb8:(Value.int .i64 (iF (l.take 1)))=(Value.int .i64 x0):=by rw [xd hx0]
 refine cP (ι:={z:Nat // (1≤z∧z≤l.length)}) (fun z=>[(0,(Value.slice lA l.length lC)),(3,(Value.int .i64 (iF (l.take z.1)))),(4,(Value.int .i64 ((z.1:Nat):Int)))]) (fun z=>[(rd lA l.length 1 (l.map iC)).ro]) (fun z=>l.length-z.1) ⟨1,hinit⟩ (an.cons rfl<|a_ rfl hb8<|an.cons rfl<|an.nil _) (fun w hs=>St.bB [0] rfl rfl hs) ?_
 clear hinit
 rintro ⟨i,hl5_0⟩ J9 hJ9
 try dsimp only
 refine aw fun _ hK10=>WS fun _ hK11=>rS (MV rfl)<|rS (MV rfl)<|rS (LN rfl jD)<|rS (BI rfl cq)<|RK hK11 ?_
 refine bp rfl (fun h12=>?_) (fun h12=>?_)
 rotate_left 1
 ·replace h12:=DF h12
  refine bM<|ai<|ai<|aI<|KK hK6<|WS fun _ hK16=>rS (MV rfl)<|rS (AG rfl)<|RK hK16<|aE ?_
  refine Q1 hQ rfl rfl rfl ?_
  rw [List.take_of_length_le (by omega)]
 replace h12:=DT h12
 refine WK hK10<|aw fun _ hK13=>aH<|aC<|rS (MV rfl)<|rS (MV rfl)<|rS (MV rfl) ?_
 obtain ⟨x0,hx0⟩: ∃ y_,l[i]? =some y_:=⟨l[i]'(by omega),List.getElem?_eq_getElem _⟩
 have hx0m:(l.map iC)[i]? =some (iC x0):=by rw [List.getElem?_map,hx0]; rfl
 refine rS (IA i rfl (aQ 0 rfl) di (by decide) (by omega) (by omega))<|rS (ir i 0 (Value.int .i64 x0) rfl bk (aQ 0 rfl) hx0m rfl (by decide) rfl)<|rS (MN rfl)<|rS (AG rfl)<|aX<|aL<|KK hK13<|aC<|rS (MV rfl)<|rS (BI rfl (a9 ⟨by omega,by omega⟩)) ?_
 refine rS (AG rfl)<|aX ?_
 have hb14:(Value.int .i64 (iF (l.take (i+1))))=(Value.int .i64 (min (iF (l.take i)) x0)):=by rw [yK hx0 (by omega)]
 have hb15:(Value.int .i64 (((i+1):Nat):Int))=(Value.int .i64 (((i:Nat):Int)+1)):=by exact congrArg (Value.int .i64) (by omega)
 refine aY (hJ9 ⟨(i+1),(by first|omega|(simp only []; omega))⟩ _ _ _ rfl (by first|omega|(simp; omega)) (an.cons rfl<|a_ rfl hb14<|a_ rfl hb15<|an.nil _) (fun w hs=>St.bB [0] rfl rfl hs))
set_option maxRecDepth 100000 in
set_option maxHeartbeats 400000 in
theorem En (l:List Int) (lA:Option Addr) (lC:Nat) (hne:1≤l.length) (hlen:l.length≤1000000):
 dY Tryz.prog 37 [(Value.slice lA l.length lC)] [(rd lA l.length 1 (l.map iC))] (Value.int .i64 (mj l)):=by
 refine bG Fi Tryz.func37 rfl rfl fun w0 Q hQ hN=>?_
 try dsimp only
 refine WS fun _ hK1=>rS (AG rfl)<|RK hK1<|aw fun _ hK2=>WS fun _ hK3=>rS (MV rfl)<|rS (LN rfl jD)<|rS (BI rfl cq)<|RK hK3 ?_
 refine bp rfl (fun h4=>?_) (fun h4=>?_)
 ·replace h4:=DT h4
  exfalso; omega
 replace h4:=DF h4
 refine WK hK2<|WS fun _ hK5=>rS (MV rfl) ?_
 obtain ⟨x0,hx0⟩: ∃ y_,l[0]? =some y_:=⟨l[0]'(by omega),List.getElem?_eq_getElem _⟩
 have hx0m:(l.map iC)[0]? =some (iC x0):=by rw [List.getElem?_map,hx0]; rfl
 refine rS (IA 0 rfl (aQ 0 rfl) di (by decide) rfl (by omega))<|rS (ir 0 0 (Value.int .i64 x0) rfl bk (aQ 0 rfl) hx0m rfl (by decide) rfl)<|rS (AG rfl)<|RK hK5<|aw fun _ hK6=>WS fun _ hK7=>rS (AG rfl)<|RK hK7<|aH ?_
 have hinit:(1≤1∧1≤l.length):=by omega
 have hb8:(Value.int .i64 (mj (l.take 1)))=(Value.int .i64 x0):=by rw [w6 hx0]
 refine cP (ι:={z:Nat // (1≤z∧z≤l.length)}) (fun z=>[(0,(Value.slice lA l.length lC)),(3,(Value.int .i64 (mj (l.take z.1)))),(4,(Value.int .i64 ((z.1:Nat):Int)))]) (fun z=>[(rd lA l.length 1 (l.map iC)).ro]) (fun z=>l.length-z.1) ⟨1,hinit⟩ (an.cons rfl<|a_ rfl hb8<|an.cons rfl<|an.nil _) (fun w hs=>St.bB [0] rfl rfl hs) ?_
 clear hinit
 rintro ⟨i,hl5_0⟩ J9 hJ9
 try dsimp only
 refine aw fun _ hK10=>WS fun _ hK11=>rS (MV rfl)<|rS (MV rfl)<|rS (LN rfl jD)<|rS (BI rfl cq)<|RK hK11 ?_
 refine bp rfl (fun h12=>?_) (fun h12=>?_)
 rotate_left 1
 ·replace h12:=DF h12
  refine bM<|ai<|ai<|aI<|KK hK6<|WS fun _ hK16=>rS (MV rfl)<|rS (AG rfl)<|RK hK16<|aE ?_
  refine Q1 hQ rfl rfl rfl ?_
  rw [List.take_of_length_le (by omega)]
 replace h12:=DT h12
 refine WK hK10<|aw fun _ hK13=>aH<|aC<|rS (MV rfl)<|rS (MV rfl)<|rS (MV rfl) ?_
 obtain ⟨x0,hx0⟩: ∃ y_,l[i]? =some y_:=⟨l[i]'(by omega),List.getElem?_eq_getElem _⟩
 have hx0m:(l.map iC)[i]? =some (iC x0):=by rw [List.getElem?_map,hx0]; rfl
 refine rS (IA i rfl (aQ 0 rfl) di (by decide) (by omega) (by omega))<|rS (ir i 0 (Value.int .i64 x0) rfl bk (aQ 0 rfl) hx0m rfl (by decide) rfl)<|rS (MX rfl)<|rS (AG rfl)<|aX<|aL<|KK hK13<|aC<|rS (MV rfl)<|rS (BI rfl (a9 ⟨by omega,by omega⟩)) ?_
 refine rS (AG rfl)<|aX ?_
 have hb14:(Value.int .i64 (mj (l.take (i+1))))=(Value.int .i64 (max (mj (l.take i)) x0)):=by rw [zy hx0 (by omega)]
 have hb15:(Value.int .i64 (((i+1):Nat):Int))=(Value.int .i64 (((i:Nat):Int)+1)):=by exact congrArg (Value.int .i64) (by omega)
 refine aY (hJ9 ⟨(i+1),(by first|omega|(simp only []; omega))⟩ _ _ _ rfl (by first|omega|(simp; omega)) (an.cons rfl<|a_ rfl hb14<|a_ rfl hb15<|an.nil _) (fun w hs=>St.bB [0] rfl rfl hs))
end
section
open Go.RowKit
set_option linter.unusedVariables false
set_option maxRecDepth 100000 in
set_option maxHeartbeats 400000 in
theorem pZ (l:aV) (kA:Option Addr) (kC:Nat) (az:List RA) (cA:Option Addr) (cC:Nat) (bA:Option Addr) (bC:Nat) (r:bj) (sgA:Option Addr) (sgC:Nat) (hin:dM l az) (hsl:r.ae.length≤1000000):
 rM Tryz.prog 10 [(Value.agg (aG.cells (aG.mk (ay.mk (aA.mk kA l.au.length kC)) l.bJ (aA.mk cA l.ag.length cC) (aA.mk bA l.aa.length bC) l.aB l.aZ l.aO)).toArray),(Value.agg (aN.cells (aN.mk r.Start r.dw (aA.mk sgA r.ae.length sgC))).toArray)] [(rd kA l.au.length 9 (l.au.map ah.cells)),(rd cA l.ag.length 2 (List.zipWith ao.cells l.ag az)),(c_ (aP ao.eX l.ag az)),(rd bA l.aa.length 4 (l.aa.map aT.cells)),(rd sgA r.ae.length 2 (r.ae.map av.cells))] (fun (x:(Option Addr)×Nat)=>(Value.tuple [(Value.slice x.1 ((cJ l r).length) x.2),(Value.int .i64 (cD l r 0))].toArray)) (fun (x:(Option Addr)×Nat)=>True) (fun (x:(Option Addr)×Nat)=>[(own x.1 x.2 3 1 ((cJ l r).map iC))]):=by
 have htk:=hin.o0
 have hck:=hin.oZ
 have has:=hin.oG
 have hbm:=hin.oI
 have hsd:=hin.side
 refine gX Fy Tryz.func10 rfl rfl fun w0 Q hQ hN=>?_
 try dsimp only
 refine WS fun _ hK1=>gv rfl fun b2=>gv rfl fun b3=>rS (AG rfl)<|rS (AG rfl)<|RK hK1<|WS fun _ hK4=>rS (LW 1 rfl eP rfl rfl)<|rS (LW 0 rfl gE rfl rfl)<|cX (sK l kA kC az cA cC bA bC r sgA sgC hin hsl) (ax 2 rfl rfl<|ax 3 rfl rfl<|ax 4 rfl rfl<|ax 5 rfl rfl<|ax 6 rfl rfl<|ar) rfl fun y5 hy6=>?_
 obtain ⟨ok22,ec7,gw8,eA9,eC10,tA11,tC12,tb13,fs14,fb15,fA16,fC17,bs18,bb19,qA20,qC21⟩:=y5
 cases ok22
 ·obtain ⟨hec,he⟩:=hy6.2 rfl
  try dsimp only at hec he
  subst hec
  try dsimp only [cond_true,cond_false,List.cons_append,List.nil_append]
  refine rS (MV rfl)<|rS (EX rfl)<|rS (EX rfl)<|rS (AG rfl)<|rS (AG rfl)<|RK hK4<|aw fun _ hK23=>WS fun _ hK24=>rS (MV rfl)<|rS (BI rfl eB) ?_
  refine RK hK24 ?_
  refine bp rfl (fun h15=>?_) (fun h15=>?_)
  rotate_left 1
  ·replace h15:=XF h15
   exact absurd h15 he
  replace h15:=XT h15
  refine WS fun _ hK25=>oS 3 1 ?_
  rw [show (own none 0 3 1 ([]:List (List Value)))=own none 0 3 1 ((cJ l r).map iC) from by rw [jO he]; rfl]
  refine rS (MV rfl)<|rS (AG rfl)<|rS (AG rfl)<|RK hK25<|aE ?_
  refine hQ _ _ _ (bD (vs:=[(Value.slice none 0 0),(Value.int .i64 (cD l r 0))]) ⟨rfl,rfl,trivial⟩ fun w hs=>fj (none,0) [0] ?_ ?_ rfl rfl rfl hs)
  ·first|rfl|(rw [he]; rfl)|(rw [jO he]; rfl)
  ·trivial
 obtain ⟨he,hfw,hbw,hfl,hbl,htl⟩:=hy6.1 rfl
 try dsimp only [cond_true,cond_false,List.cons_append,List.nil_append]
 dsimp only at hfw hbw hfl hbl htl
 obtain ⟨h10,hro,hme,hnn⟩:=fF he
 obtain ⟨htr,hok⟩:=dD h10
 have hhd:=hok.head
 unfold cU at hhd
 have hwo:=iK htr hok hro
 have hrt:=hro.time
 have hrl:=hro.len
 have hlel:(bE l l.aa.length).length=l.aa.length:=bK
 have htll:(bf l r.ae r.ae.length).length=l.aa.length:=dO
 have hfn:fs14.length=l.aa.length+1:=by have:=hfw.len; rw [show (a6 l r).n=l.aa.length from bK] at this; exact this
 have hbn:bs18.length=l.aa.length+1:=by have:=hbw.len; rw [show (a6 l r).n=l.aa.length from bK] at this; exact this
 refine rS (MV rfl)<|rS (EX rfl)<|rS (EX rfl)<|rS (AG rfl)<|rS (AG rfl)<|RK hK4<|aw fun _ hK26=>WS fun _ hK27=>rS (MV rfl)<|rS (SX (gn (r:= .bool false) rfl rfl rfl eB) rfl rfl) ?_
 refine RK hK27<|bH rfl<|WK hK26<|WS fun _ hK28=>rS (MV rfl)<|cX (mT (aG.mk (ay.mk (aA.mk kA l.au.length kC)) l.bJ (aA.mk cA l.ag.length cC) (aA.mk bA l.aa.length bC) l.aB l.aZ l.aO) (aN.mk r.Start r.dw (aA.mk sgA r.ae.length sgC)) (bE l l.aa.length) (bf l r.ae r.ae.length) eA9 eC10 tb13 tA11 tC12 fs14 bs18 fb15 fA16 fC17 bb19 qA20 qC21 gw8 (by exact hwo) (by first|assumption|omega|(simp; done)|(simp; omega)) (by exact bK.symm) (by exact hfw) (by first|assumption|omega|(simp; done)|(simp; omega))) (aF (ak (n:=(bE l l.aa.length).length) 1 rfl (by simp))<|aF (ak (n:=(bf l r.ae r.ae.length).length) 2 rfl (by rw [List.length_zipWith]; omega))<|aF (eo 3 rfl gF)<|aF (ak (n:=fs14.length) 4 rfl (by rw [List.length_zipWith]; omega))<|aF (eo 5 rfl gF)<|aF (ak (n:=bs18.length) 6 rfl (by rw [List.length_zipWith]; omega))<|aF (eo 7 rfl gF)<|ax 0 rfl rfl<|ar) rfl fun y29 hy30=>?_
 obtain ⟨a31,c32⟩:=y29
 try dsimp only
 rw [show (dJ (bL (aG.mk (ay.mk (aA.mk kA l.au.length kC)) l.bJ (aA.mk cA l.ag.length cC) (aA.mk bA l.aa.length bC) l.aB l.aZ l.aO) (aN.mk r.Start r.dw (aA.mk sgA r.ae.length sgC)) (bE l l.aa.length) (bf l r.ae r.ae.length)))=cJ l r from (gH he).symm]
 refine rS (AG rfl)<|rS (AG rfl)<|RK hK28<|aE ?_
 refine hQ _ _ _ (bD (vs:=[(Value.slice a31 ((cJ l r).length) c32),(Value.int .i64 0)]) ⟨rfl,rfl,trivial⟩ fun w hs=>fj (a31,c32) [0] ?_ ?_ rfl rfl rfl hs)
 ·first|rfl|(rw [he]; rfl)|(rw [jO he]; rfl)
 ·trivial
set_option maxRecDepth 100000 in
set_option maxHeartbeats 400000 in
theorem vz (l:aV) (kA:Option Addr) (kC:Nat) (az:List RA) (cA:Option Addr) (cC:Nat) (bA:Option Addr) (bC:Nat) (r:bj) (sgA:Option Addr) (sgC:Nat) (hin:dM l az) (hsl:r.ae.length≤1000000):
 dY Tryz.prog 12 [(Value.agg (aG.cells (aG.mk (ay.mk (aA.mk kA l.au.length kC)) l.bJ (aA.mk cA l.ag.length cC) (aA.mk bA l.aa.length bC) l.aB l.aZ l.aO)).toArray),(Value.agg (aN.cells (aN.mk r.Start r.dw (aA.mk sgA r.ae.length sgC))).toArray)] [(rd kA l.au.length 9 (l.au.map ah.cells)),(rd cA l.ag.length 2 (List.zipWith ao.cells l.ag az)),(c_ (aP ao.eX l.ag az)),(rd bA l.aa.length 4 (l.aa.map aT.cells)),(rd sgA r.ae.length 2 (r.ae.map av.cells))] (Value.tuple [(Value.int .u8 (dG l r)),(Value.int .i64 (cD l r 0))].toArray):=by
 have htk:=hin.o0
 have hck:=hin.oZ
 have has:=hin.oG
 have hbm:=hin.oI
 have hsd:=hin.side
 refine bG FL Tryz.func12 rfl rfl fun w0 Q hQ hN=>?_
 try dsimp only
 refine WS fun _ hK1=>gv rfl fun b2=>gv rfl fun b3=>rS (AG rfl)<|rS (AG rfl)<|RK hK1<|WS fun _ hK4=>rS (LW 1 rfl eP rfl rfl)<|rS (LW 0 rfl gE rfl rfl)<|cX (pZ l kA kC az cA cC bA bC r sgA sgC hin hsl) (ax 2 rfl rfl<|ax 3 rfl rfl<|ax 4 rfl rfl<|ax 5 rfl rfl<|ax 6 rfl rfl<|ar) rfl fun y5 hy6=>?_
 obtain ⟨a7,c8⟩:=y5
 try dsimp only
 refine rS (MV rfl)<|rS (EX rfl)<|rS (EX rfl)<|rS (AG rfl)<|rS (AG rfl)<|RK hK4<|aw fun _ hK9=>aH<|WS fun _ hK10=>rS (MV rfl) ?_
 refine rS (BI rfl eB)<|rS (AG rfl)<|RK hK10 ?_
 refine bp rfl (fun h14=>?_) (fun h14=>?_)
 ·replace h14:=XT h14
  refine WS fun _ hK11=>rS (MV rfl)<|rS (AG rfl)<|rS (AG rfl)<|RK hK11<|aE<|Q2 hQ rfl rfl rfl rfl ?_
  first|(rw [show dG l r=0 from if_neg h14]; done)|(rw [h14,show dG l r=2 from by unfold dG; rw [if_pos h14,if_pos h18]]; done)|(rw [h14,show dG l r=0 from by unfold dG; rw [if_pos h14,if_neg h18,if_pos h24]]; done)|(rw [h14,show dG l r=1 from by unfold dG; rw [if_pos h14,if_neg h18,if_neg h24]]; done)
 replace h14:=XF h14
 refine aw fun _ hK12=>dj ct 6 (by kernel_rfl)<|dS (MV rfl)<|dS (CL (Bp (cJ l r) a7 c8 (by exact nD h14) (by have:=lV (l:=l) (r:=r); omega)) (aF (ak (n:=(cJ l r).length) 0 rfl (by simp))<|ar) rfl)<|dS (FA 4 rfl fV rfl)<|dS (L1 (Value.int .i64 l.aB) 2 rfl bk rfl rfl)<|dS (BI rfl eL)<|dS (AG rfl)<|cE<|RK hK12 ?_
 refine bp rfl (fun h18=>?_) (fun h18=>?_)
 ·replace h18:=DT h18
  refine WS fun _ hK13=>rS (AG rfl)<|rS (AG rfl)<|RK hK13<|aE<|Q2 hQ rfl rfl rfl rfl ?_
  first|(rw [show dG l r=0 from if_neg h14]; done)|(rw [h14,show dG l r=2 from by unfold dG; rw [if_pos h14,if_pos h18]]; done)|(rw [h14,show dG l r=0 from by unfold dG; rw [if_pos h14,if_neg h18,if_pos h24]]; done)|(rw [h14,show dG l r=1 from by unfold dG; rw [if_pos h14,if_neg h18,if_neg h24]]; done)
 replace h18:=DF h18
 refine aw fun _ hK14=>dj ct 6 (by kernel_rfl)<|dS (MV rfl)<|dS (CL (En (cJ l r) a7 c8 (by exact nD h14) (by have:=lV (l:=l) (r:=r); omega)) (aF (ak (n:=(cJ l r).length) 0 rfl (by simp))<|ar) rfl)<|dS (FA 4 rfl fV rfl)<|dS (L1 (Value.int .i64 l.aB) 2 rfl bk rfl rfl)<|dS (BI rfl eT)<|dS (AG rfl)<|cE<|RK hK14 ?_
 refine bp rfl (fun h24=>?_) (fun h24=>?_)
 ·replace h24:=DT h24
  refine WS fun _ hK15=>rS (AG rfl)<|rS (AG rfl)<|RK hK15<|aE<|Q2 hQ rfl rfl rfl rfl ?_
  first|(rw [show dG l r=0 from if_neg h14]; done)|(rw [h14,show dG l r=2 from by unfold dG; rw [if_pos h14,if_pos h18]]; done)|(rw [h14,show dG l r=0 from by unfold dG; rw [if_pos h14,if_neg h18,if_pos h24]]; done)|(rw [h14,show dG l r=1 from by unfold dG; rw [if_pos h14,if_neg h18,if_neg h24]]; done)
 replace h24:=DF h24
 refine cH<|aL<|KK hK9<|WS fun _ hK16=>rS (AG rfl)<|rS (AG rfl)<|RK hK16<|aE<|Q2 hQ rfl rfl rfl rfl ?_
 first|(rw [show dG l r=0 from if_neg h14]; done)|(rw [h14,show dG l r=2 from by unfold dG; rw [if_pos h14,if_pos h18]]; done)|(rw [h14,show dG l r=0 from by unfold dG; rw [if_pos h14,if_neg h18,if_pos h24]]; done)|(rw [h14,show dG l r=1 from by unfold dG; rw [if_pos h14,if_neg h18,if_neg h24]]; done)
end
section
open Go.RowKit
set_option linter.unusedVariables false
set_option maxRecDepth 100000 in
set_option maxHeartbeats 400000 in
theorem o4 (ln:aG) (ri:aN) (e:List Int) (tms:List TM) (e_A:Option Addr) (e_C:Nat) (tb:List Nat) (t_A:Option Addr) (t_C:Nat) (fs:List FM) (bs:List FM) (fb:List Nat) (f_A:Option Addr) (f_C:Nat) (bb:List Nat) (b_A:Option Addr) (b_C:Nat) (gw:Nat) (b:Nat) (g1:Nat) (g2:Nat) (mf:FM) (mb:FM) (hb:b<e.length) (hw:xA (bL ln ri e tms)) (htb:tb.length=tms.length) (hfw:pE (bL ln ri e tms) fs) (hfb:fb.length=fs.length) (hbw:nN (bL ln ri e tms) bs) (hbb:bb.length=bs.length) (hsg:ri.ae.n≤1000) (hm1:fs[b]? =some mf) (hm2:bs[b+1]? =some mb):
 AM Tryz.prog 67 [] [(Value.pointer (some ⟨g1,0,none⟩)),(Value.pointer (some ⟨g2,0,none⟩))] [(rd e_A e.length 1 (e.map iC)),(rd t_A tms.length 1 (List.zipWith cb tms tb)),(c_ (aP gJ tms tb)),(rd f_A fs.length 1 (List.zipWith cb fs fb)),(c_ (aP e8 fs fb)),(rd b_A bs.length 1 (List.zipWith cb bs bb)),(c_ (aP e8 bs bb)),(aU gw 117 (aK.cells (aK.mk ln ri (aA.mk e_A e.length e_C) (aA.mk t_A tms.length t_C) (aA.mk f_A fs.length f_C) (aA.mk b_A bs.length b_C)))),(aU g1 77 [(Value.pointer (some ⟨gw,0,none⟩))]),(aU g2 3 [(Value.int .i64 ((b:Nat):Int))])] ([]:List (Int×ab)) (fun ys x ys'=> ∃ q,q∈jE (bL ln ri e tms) b mf mb∧x=Bz q∧ys'=ys++[q]) (fun ys=> ∀ q∈jE (bL ln ri e tms) b mf mb,q∈ys):=by
 have hw6:e.length≤6:=hw.n
 have hwt:tms.length=e.length:=hw.times
 have hfl:fs.length=e.length+1:=hfw.len
 have hbl:bs.length=e.length+1:=hbw.len
 refine vw Fz Tryz.func67 rfl rfl fun l J Z A0 w0 Q hY hJ0 hF0 hQ hN=>?_
 try dsimp only
 refine WS fun _ hK1=>vY rfl rfl fun b2=>RK hK1<|WS fun _ hK3=>rS (rY 10 rfl iQ rfl)<|rS (rY 11 rfl bk rfl)<|cX (oQ gw b) (ar) rfl fun y4 hy5=>?_
 obtain ⟨x16,x27⟩:=y4
 try dsimp only
 refine RK hK3<|aH<|k4 4 rfl (by exact fun _ h=>h)<|k4 6 rfl (by exact fun _ h=>h)<|k4 8 rfl (by exact fun _ h=>h)<|k4 14 rfl (by exact fun _ h=>h) ?_
 refine kT (L0:=[(0,(Value.func (.yield l) #[] #[])),(1,(Value.pointer (some ⟨g1,0,none⟩))),(2,(Value.pointer (some ⟨g2,0,none⟩))),(3,(Value.pointer (some ⟨b2,0,none⟩)))]) (F:=[(rd e_A e.length 1 (e.map iC)).ro,(rd t_A tms.length 1 (List.zipWith cb tms tb)).ro,(c_ (aP gJ tms tb)).ro,(aU gw 117 (aK.cells (aK.mk ln ri (aA.mk e_A e.length e_C) (aA.mk t_A tms.length t_C) (aA.mk f_A fs.length f_C) (aA.mk b_A bs.length b_C)))).ro,(aU x16 77 [(Value.pointer (some ⟨gw,0,none⟩))]),(aU x27 3 [(Value.int .i64 ((b:Nat):Int))])]) (fun k (y:(List (Int×ab))×aD)=>(iT (bL ln ri e tms) b mf mb k y.1)∧(J y.1 y.2)∧(Fo A0 w0 y.2)) (fun k y=>[(aU b2 134 [(Value.func (.yield l) #[] #[])]),y.2,(rd e_A e.length 1 (e.map iC)).ro,(rd t_A tms.length 1 (List.zipWith cb tms tb)).ro,(c_ (aP gJ tms tb)).ro,(rd f_A fs.length 1 (List.zipWith cb fs fb)).ro,(c_ (aP e8 fs fb)).ro,(rd b_A bs.length 1 (List.zipWith cb bs bb)).ro,(c_ (aP e8 bs bb)).ro,(aU gw 117 (aK.cells (aK.mk ln ri (aA.mk e_A e.length e_C) (aA.mk t_A tms.length t_C) (aA.mk f_A fs.length f_C) (aA.mk b_A bs.length b_C)))).ro,(aU g1 77 [(Value.pointer (some ⟨gw,0,none⟩))]).ro,(aU g2 3 [(Value.int .i64 ((b:Nat):Int))]).ro]) (fun c (z:aD)=>(c= .ret∧(Z z)∧(Fo A0 w0 z))) (fun _ z=>[(aU b2 134 [(Value.func (.yield l) #[] #[])]),z,(rd e_A e.length 1 (e.map iC)).ro,(rd t_A tms.length 1 (List.zipWith cb tms tb)).ro,(c_ (aP gJ tms tb)).ro,(rd f_A fs.length 1 (List.zipWith cb fs fb)).ro,(c_ (aP e8 fs fb)).ro,(rd b_A bs.length 1 (List.zipWith cb bs bb)).ro,(c_ (aP e8 bs bb)).ro,(aU gw 117 (aK.cells (aK.mk ln ri (aA.mk e_A e.length e_C) (aA.mk t_A tms.length t_C) (aA.mk f_A fs.length f_C) (aA.mk b_A bs.length b_C)))).ro,(aU g1 77 [(Value.pointer (some ⟨gw,0,none⟩))]).ro,(aU g2 3 [(Value.int .i64 ((b:Nat):Int))]).ro]) [6,7,8,9,10,11,12,13,14,15,16,17] [3,2,1,0,4,5] (([]:List (Int×ab)),A0) rfl rfl (nG ln ri e tms e_A e_C tb t_A t_C f_A fs.length f_C b_A bs.length b_C gw b x16 x27 (by omega) (by omega)) rfl rfl rfl (by exact ⟨iT.nil,hJ0,hF0⟩) (by simp only [List.forall_mem_cons,List.not_mem_nil,false_imp_iff,implies_true,and_true]; exact ⟨⟨_,List.mem_of_getElem? (i:=0) rfl,(iW (cT _))⟩,⟨_,List.mem_of_getElem? (i:=1) rfl,(iW (cT _))⟩,⟨_,List.mem_of_getElem? (i:=2) rfl,(iW (cT _))⟩,⟨_,List.mem_of_getElem? (i:=3) rfl,(iW (cT _))⟩,⟨_,List.mem_of_getElem? (i:=4) rfl,(cT _)⟩,⟨_,List.mem_of_getElem? (i:=5) rfl,(cT _)⟩⟩) (by rintro k x k2 ⟨o,_,rfl,_⟩; rfl) rfl (an.cons rfl<|an.cons rfl<|an.cons rfl<|an.cons rfl<|an.nil _) ?_ ?_ ?_ ?_
 rotate_left 1
 ·rintro r37 k ⟨ys,A⟩ hfin hin38
  obtain ⟨hr0,hr1,hr2⟩:=hin38
  try dsimp only at hr0 hr1 hr2
  try dsimp only
  refine aL ?_
  refine hN _ _ _ (o2 0 rfl rfl<|bD (vs:=[]) trivial fun w hs=>DU 8 rfl (by exact iT.fin hr0 hfin) hr1 hr2 hs)
 ·rintro r39 id A hx40
  simp at hx40
 ·rintro r41 A hx42
  obtain ⟨hc,hq0,hq1⟩:=hx42
  try dsimp only
  refine hQ _ _ _ (o2 0 rfl rfl<|bD (vs:=[]) trivial fun w hs=>x_ 8 rfl hq0 hq1 hs)
 rintro k x k2 ⟨ys,A⟩ lr ra rb S w1 K8 Qr9 hsz hx hin10 hK8 hQr9 xQr9 yQr9
 obtain ⟨o,ho,rfl,rfl⟩:=hx
 obtain ⟨hr0,hr1,hr2⟩:=hin10
 try dsimp only at hr0 hr1 hr2
 try dsimp only
 refine WS fun _ hK11=>rS (AG rfl)<|RK hK11<|aC<|AL rfl dk fun b12=>e7 rfl cv rfl<|aX<|iz (fun _ _ h=>h) (fun w hs=>St.bB [1,0,2,3,4,5,6,7,8,9,10,11,12,13] rfl rfl hs) ?_
 refine aY (hK8 _ _ ?_)
 refine aH<|aw fun _ hK13=>dj ct 7 (by kernel_rfl)<|dS (rY 12 rfl iQ rfl)<|dS (SX (cl rfl rfl) rfl rfl)<|dS (FA 12 rfl jL rfl)<|dS (l9 (Value.slice f_A fs.length f_C) 11 rfl j9 rfl rfl)<|dS (rY 13 rfl bk rfl) ?_
 obtain ⟨ga,hga⟩: ∃ y_,fb[b]? =some y_:=⟨fb[b]'(by omega),List.getElem?_eq_getElem _⟩
 have hgam:(List.zipWith cb fs fb)[b]? =some (cb mf ga):=jH hm1 hga
 refine dS (IA b rfl (aQ 7 rfl) kv (by decide) (by omega) (by omega))<|dS (ir b 0 (Value.map (some ga)) rfl lZ (aQ 7 rfl) hgam rfl (by decide) rfl)<|cE<|lx (kV:=cg) (m:=bu iV mf) 8 rfl rfl kY rfl ⟨⟨(jr cg ga (bu iV mf)),(fg hm1 hga (by simp [e8])),rfl⟩,fun h=>h⟩ (show nj _ (jr cg ga (bu iV mf)).holds from jI 8 rfl (fg hm1 hga (by simp [e8]))) rfl fun r14=>?_
 try dsimp only
 refine RK hK13<|aH ?_
 have hinit:(∀ p∈mf,p∈mf)∧(kf (bL ln ri e tms) b mf mb o mf ys)∧(iT (bL ln ri e tms) b mf mb k ys)∧(J ys A)∧(Fo A0 w0 A):=by exact ⟨fun p hp=>hp,kf.start,hr0,hr1,hr2⟩
 refine cP (ι:={z:FM×(List (Int×ab))×aD // (∀ p∈z.1,p∈mf)∧(kf (bL ln ri e tms) b mf mb o z.1 z.2.1)∧(iT (bL ln ri e tms) b mf mb k z.2.1)∧(J z.2.1 z.2.2)∧(Fo A0 w0 z.2.2)}) (fun z=>[(0,(Value.func (.yield l) #[] #[])),(1,(Value.pointer (some ⟨g1,0,none⟩))),(2,(Value.pointer (some ⟨g2,0,none⟩))),(3,(Value.pointer (some ⟨b2,0,none⟩))),(4,(Value.int .i64 o.1)),(5,(Value.pointer (some ⟨b12,0,none⟩))),(23,(Value.pointer (some ⟨r14,0,none⟩)))]) (fun z=>[(nV cg r14 ga (bu iV mf) (bu iV z.1.1) none),(g5 lr (.loop rb)),(aU b12 47 (ab.cells o.2)),(aU b2 134 [(Value.func (.yield l) #[] #[])]),z.1.2.2,(rd e_A e.length 1 (e.map iC)).ro,(rd t_A tms.length 1 (List.zipWith cb tms tb)).ro,(c_ (aP gJ tms tb)).ro,(rd f_A fs.length 1 (List.zipWith cb fs fb)).ro,(c_ (aP e8 fs fb)).ro,(rd b_A bs.length 1 (List.zipWith cb bs bb)).ro,(c_ (aP e8 bs bb)).ro,(aU gw 117 (aK.cells (aK.mk ln ri (aA.mk e_A e.length e_C) (aA.mk t_A tms.length t_C) (aA.mk f_A fs.length f_C) (aA.mk b_A bs.length b_C)))).ro,(aU g1 77 [(Value.pointer (some ⟨gw,0,none⟩))]).ro,(aU g2 3 [(Value.int .i64 ((b:Nat):Int))]).ro]) (fun z=>z.1.1.length) ⟨(mf,ys,A),hinit⟩ (an.cons rfl<|an.cons rfl<|an.cons rfl<|an.cons rfl<|an.cons rfl<|an.cons rfl<|an.cons rfl<|an.nil _) (fun w hs=>St.bB [0,1,2,3,4,5,6,7,8,9,10,11,12,13,14] rfl rfl hs) ?_
 clear hinit
 rintro ⟨⟨left,ys,A⟩,⟨hl5_0,hl5_1,hl5_2,hl5_3,hl5_4⟩⟩ J15 hJ15
 try dsimp only at hl5_0 hl5_1 hl5_2 hl5_3 hl5_4
 try dsimp only
 refine WS fun _ hK16=>?_
 refine ko kU.inj (f:=iV) 0 rfl rfl rfl rfl (fun h24=>?_) (fun t v hm hn=>?_)
 ·refine rS (EX rfl) ?_
  refine RK hK16<|aw fun _ hK17=>bH rfl<|bM<|ai<|ai<|aI<|aL ?_
  exact hQr9 (ys,A) _ _ (by exact ⟨iT.next hl5_2 hl5_1 h24,hl5_3,hl5_4⟩) (fun w hs=>St.bB [1,3,4,5,6,7,8,9,10,11,12,13,14] rfl rfl hs)
 try dsimp only
 refine rS (EX rfl)<|RK hK16<|aw fun _ hK18=>aW rfl<|WK hK18<|aH<|WS fun _ hK19=>rS (SX (kz 0 rfl rfl rfl) rfl rfl)<|rS (EX rfl)<|rS (EX rfl) ?_
 refine AL rfl oh fun b20=>e7 rfl nv rfl<|rS (AG rfl)<|RK hK19<|aw fun _ hK21=>dj ct 8 (by kernel_rfl)<|dS (rY 14 rfl iQ rfl)<|dS (SX (cl rfl rfl) rfl rfl)<|dS (FA 13 rfl lu rfl)<|dS (l9 (Value.slice b_A bs.length b_C) 13 rfl j9 rfl rfl) ?_
 refine dS (rY 15 rfl bk rfl)<|dS (BI rfl (a9 ⟨by omega,by omega⟩)) ?_
 obtain ⟨gb,hgb⟩: ∃ y_,bb[(b+1)]? =some y_:=⟨bb[(b+1)]'(by omega),List.getElem?_eq_getElem _⟩
 have hgbm:(List.zipWith cb bs bb)[(b+1)]? =some (cb mb gb):=jH hm2 hgb
 refine dS (IA (b+1) rfl (aQ 11 rfl) kv (by decide) (by omega) (by omega))<|dS (ir (b+1) 0 (Value.map (some gb)) rfl lZ (aQ 11 rfl) hgbm rfl (by decide) rfl)<|cE<|lx (kV:=cg) (m:=bu iV mb) 12 rfl rfl kY rfl ⟨⟨(jr cg gb (bu iV mb)),(fg hm2 hgb (by simp [e8])),rfl⟩,fun h=>h⟩ (show nj _ (jr cg gb (bu iV mb)).holds from jI 12 rfl (fg hm2 hgb (by simp [e8]))) rfl fun r22=>?_
 try dsimp only
 refine RK hK21<|aH ?_
 have hinit:(∀ p∈mb,p∈mb)∧(j1 (bL ln ri e tms) b mb o (t,v) mb ys)∧(kf (bL ln ri e tms) b mf mb o left ys)∧(iT (bL ln ri e tms) b mf mb k ys)∧(J ys A)∧(Fo A0 w0 A):=by exact ⟨fun p hp=>hp,j1.start,hl5_1,hl5_2,hl5_3,hl5_4⟩
 refine cP (ι:={z:FM×(List (Int×ab))×aD // (∀ p∈z.1,p∈mb)∧(j1 (bL ln ri e tms) b mb o (t,v) z.1 z.2.1)∧(kf (bL ln ri e tms) b mf mb o left z.2.1)∧(iT (bL ln ri e tms) b mf mb k z.2.1)∧(J z.2.1 z.2.2)∧(Fo A0 w0 z.2.2)}) (fun z=>[(0,(Value.func (.yield l) #[] #[])),(1,(Value.pointer (some ⟨g1,0,none⟩))),(2,(Value.pointer (some ⟨g2,0,none⟩))),(3,(Value.pointer (some ⟨b2,0,none⟩))),(4,(Value.int .i64 o.1)),(5,(Value.pointer (some ⟨b12,0,none⟩))),(6,(Value.pointer (some ⟨b20,0,none⟩))),(7,(Value.int .i64 v)),(23,(Value.pointer (some ⟨r14,0,none⟩))),(37,(Value.pointer (some ⟨r22,0,none⟩)))]) (fun z=>[(nV cg r22 gb (bu iV mb) (bu iV z.1.1) none),(aU b20 124 (aq.cells t)),(nV cg r14 ga (bu iV mf) (bu iV (cL left t)) (some (t,(Value.int .i64 v)))),(g5 lr (.loop rb)),(aU b12 47 (ab.cells o.2)),(aU b2 134 [(Value.func (.yield l) #[] #[])]),z.1.2.2,(rd e_A e.length 1 (e.map iC)).ro,(rd t_A tms.length 1 (List.zipWith cb tms tb)).ro,(c_ (aP gJ tms tb)).ro,(rd f_A fs.length 1 (List.zipWith cb fs fb)).ro,(c_ (aP e8 fs fb)).ro,(rd b_A bs.length 1 (List.zipWith cb bs bb)).ro,(c_ (aP e8 bs bb)).ro,(aU gw 117 (aK.cells (aK.mk ln ri (aA.mk e_A e.length e_C) (aA.mk t_A tms.length t_C) (aA.mk f_A fs.length f_C) (aA.mk b_A bs.length b_C)))).ro,(aU g1 77 [(Value.pointer (some ⟨gw,0,none⟩))]).ro,(aU g2 3 [(Value.int .i64 ((b:Nat):Int))]).ro]) (fun z=>z.1.1.length) ⟨(mb,ys,A),hinit⟩ (an.cons rfl<|an.cons rfl<|an.cons rfl<|an.cons rfl<|an.cons rfl<|an.cons rfl<|an.cons rfl<|an.cons rfl<|an.cons rfl<|an.cons rfl<|an.nil _) (fun w hs=>St.bB [0,1,2,3,4,5,6,7,8,9,10,11,12,13,14,15,16] rfl rfl hs) ?_
 clear hinit
 rintro ⟨⟨l2,ys2,A2⟩,⟨hl8_0,hl8_1,hl8_2,hl8_3,hl8_4,hl8_5⟩⟩ J23 hJ23
 try dsimp only at hl8_0 hl8_1 hl8_2 hl8_3 hl8_4 hl8_5
 try dsimp only
 refine WS fun _ hK24=>?_
 refine ko kU.inj (f:=iV) 0 rfl rfl rfl rfl (fun h38=>?_) (fun u z hmm hnn=>?_)
 ·refine rS (EX rfl) ?_
  refine RK hK24<|aw fun _ hK25=>bH rfl<|bM<|ai<|ai<|aI<|aL<|mq (C':=[(nV cg r22 gb (bu iV mb) (bu iV l2) none),(aU b20 124 (aq.cells t)),(nV cg r14 ga (bu iV mf) (bu iV (cL left t)) none),(g5 lr (.loop rb)),(aU b12 47 (ab.cells o.2)),(aU b2 134 [(Value.func (.yield l) #[] #[])]),A2,(rd e_A e.length 1 (e.map iC)).ro,(rd t_A tms.length 1 (List.zipWith cb tms tb)).ro,(c_ (aP gJ tms tb)).ro,(rd f_A fs.length 1 (List.zipWith cb fs fb)).ro,(c_ (aP e8 fs fb)).ro,(rd b_A bs.length 1 (List.zipWith cb bs bb)).ro,(c_ (aP e8 bs bb)).ro,(aU gw 117 (aK.cells (aK.mk ln ri (aA.mk e_A e.length e_C) (aA.mk t_A tms.length t_C) (aA.mk f_A fs.length f_C) (aA.mk b_A bs.length b_C)))).ro,(aU g1 77 [(Value.pointer (some ⟨gw,0,none⟩))]).ro,(aU g2 3 [(Value.int .i64 ((b:Nat):Int))]).ro]) 2 rfl kL rfl ?_
  refine aY (hJ15 ⟨((cL left t),ys2,A2),⟨jw hl5_0,kf.next hn hm hl8_2 hl8_1 h38,hl8_3,hl8_4,hl8_5⟩⟩ _ _ _ rfl (iH hm) (an.cons rfl<|an.cons rfl<|an.cons rfl<|an.cons rfl<|an.cons rfl<|an.cons rfl<|an.cons rfl<|an.nil _) (fun w hs=>St.bB [2,3,4,5,6,7,8,9,10,11,12,13,14,15,16] rfl rfl hs))
 try dsimp only
 refine rS (EX rfl)<|RK hK24<|aw fun _ hK26=>aW rfl<|WK hK26<|aH<|WS fun _ hK27=>rS (SX (kz 0 rfl rfl rfl) rfl rfl)<|rS (EX rfl)<|rS (EX rfl) ?_
 refine AL rfl oh fun b28=>e7 rfl nv rfl<|rS (AG rfl)<|RK hK27<|aw fun _ hK29=>dA ct [0,1,2,3,4,5,6,7,8,9,10,11,12,13,14,15,16] [17,18] [false,false,false,false,false,false,false,false,false,false,false,false,false,false,false,false,false] [false,false] [(aU b28 124 (aq.cells u)),(nV cg r22 gb (bu iV mb) (bu iV (cL l2 u)) (some (u,(Value.int .i64 z)))),(aU b20 124 (aq.cells t)),(nV cg r14 ga (bu iV mf) (bu iV (cL left t)) (some (t,(Value.int .i64 v)))),(g5 lr (.loop rb)),(aU b12 47 (ab.cells o.2)),(aU b2 134 [(Value.func (.yield l) #[] #[])]),A2,(rd e_A e.length 1 (e.map iC)).ro,(rd t_A tms.length 1 (List.zipWith cb tms tb)).ro,(c_ (aP gJ tms tb)).ro,(rd f_A fs.length 1 (List.zipWith cb fs fb)).ro,(c_ (aP e8 fs fb)).ro,(rd b_A bs.length 1 (List.zipWith cb bs bb)).ro,(c_ (aP e8 bs bb)).ro,(aU gw 117 (aK.cells (aK.mk ln ri (aA.mk e_A e.length e_C) (aA.mk t_A tms.length t_C) (aA.mk f_A fs.length f_C) (aA.mk b_A bs.length b_C)))).ro,(aU g1 77 [(Value.pointer (some ⟨gw,0,none⟩))]).ro,(aU g2 3 [(Value.int .i64 ((b:Nat):Int))]).ro] [] (by kernel_rfl) (fun w hs=>St.bB [0,1,2,3,4,5,6,7,8,9,10,11,12,13,14,15,16,17] rfl rfl hs) (fun w hs=>St.bB [] rfl rfl hs)<|eS rfl (MV rfl)<|eS rfl (rY 16 rfl iQ rfl)<|eS rfl (SX (cl rfl rfl) rfl rfl)<|eS rfl (FA 10 rfl lP rfl) ?_
 refine eS rfl (l9 (Value.slice e_A e.length e_C) 15 rfl wX rfl rfl)<|eS rfl (rY 17 rfl bk rfl) ?_
 obtain ⟨y,hy⟩: ∃ y_,e[b]? =some y_:=⟨e[b]'(by omega),List.getElem?_eq_getElem _⟩
 have hym:(e.map iC)[b]? =some (iC y):=by rw [List.getElem?_map,hy]; rfl
 refine eS rfl (IA b rfl (aQ 8 rfl) di (by decide) (by omega) (by omega))<|eS rfl (ir b 0 (Value.int .i64 y) rfl bk (aQ 8 rfl) hym rfl (by decide) rfl) ?_
 have hlb:=hw.least y (List.mem_of_getElem? hy)
 have hfp:=xU hw _ _ (hfw.mem hm1 (hl5_0 _ hm))
 have hbp:=ya hw (hbw.mem hm2 (hl8_0 _ hmm))
 have ho1:=p_ o.1
 have hob:=hw.opt ho
 dsimp only at hfp hbp
 refine eS rfl (BI rfl (a9 ⟨by omega,by omega⟩))<|eS rfl (FA 0 rfl bP rfl)<|eS rfl (L1 (Value.int .i64 o.2.Lo) 5 rfl bk rfl rfl)<|eS rfl (MX rfl)<|eS rfl (MV rfl)<|eS rfl (FA 1 rfl bZ rfl)<|eS rfl (L1 (Value.int .i64 o.2.Hi) 5 rfl bk rfl rfl)<|eS rfl (MN rfl)<|eS rfl (SX (aS (xs:=[(0,.tmp 54),(1,.tmp 58)]) (cs:=(ab.cells (ab.mk (max (v+y) o.2.Lo) (min z o.2.Hi)))) rfl rfl (aR fG rfl)) rfl rfl)<|eJ rfl ?_
 refine cf rfl fun T30 hT30=>AL rfl dk fun b31=>RN hT30 [1,2,3,4,5,6,7,8,9,10,11,12,13,14,15,16,17,18] rfl rfl<|cf rfl fun T32 hT32=>e7 rfl cv rfl<|RN hT32 [1,2,3,4,5,6,7,8,9,10,11,12,13,14,15,16,17,18] rfl rfl<|fJ rfl<|KK hK29<|aw fun _ hK33=>dj ct 19 (by kernel_rfl) ?_
 refine dS (FA 0 rfl bP rfl)<|dS (L1 (Value.int .i64 (max (v+y) o.2.Lo)) 0 rfl bk rfl rfl)<|dS (FA 1 rfl bZ rfl)<|dS (L1 (Value.int .i64 (min z o.2.Hi)) 0 rfl bk rfl rfl)<|dS (BI rfl eT)<|dS (MV rfl) ?_
 refine db (t:=65) rfl (fun h65=>?_) (fun h65=>?_)
 rotate_left 1
 ·replace h65:=DF h65
  refine dS (OX rfl)<|dS (OX rfl)<|dS (OX rfl)<|dS (OX rfl)<|dS (OX rfl)<|dS (OX rfl)<|dS (OX rfl)<|dS (OX rfl)<|dS (PK rfl)<|dS (MV rfl) ?_
  refine dS (OX rfl)<|dS (OX rfl)<|dS (OX rfl)<|cE<|rS (OX rfl)<|rS (OX rfl)<|rS (PK rfl)<|RK hK33<|bH rfl<|cH ?_
  refine aL<|mq (C':=[(aU b31 47 (ab.cells (ab.mk (max (v+y) o.2.Lo) (min z o.2.Hi)))),(aU b28 124 (aq.cells u)),(nV cg r22 gb (bu iV mb) (bu iV (cL l2 u)) none),(aU b20 124 (aq.cells t)),(nV cg r14 ga (bu iV mf) (bu iV (cL left t)) (some (t,(Value.int .i64 v)))),(g5 lr (.loop rb)),(aU b12 47 (ab.cells o.2)),(aU b2 134 [(Value.func (.yield l) #[] #[])]),A2,(rd e_A e.length 1 (e.map iC)).ro,(rd t_A tms.length 1 (List.zipWith cb tms tb)).ro,(c_ (aP gJ tms tb)).ro,(rd f_A fs.length 1 (List.zipWith cb fs fb)).ro,(c_ (aP e8 fs fb)).ro,(rd b_A bs.length 1 (List.zipWith cb bs bb)).ro,(c_ (aP e8 bs bb)).ro,(aU gw 117 (aK.cells (aK.mk ln ri (aA.mk e_A e.length e_C) (aA.mk t_A tms.length t_C) (aA.mk f_A fs.length f_C) (aA.mk b_A bs.length b_C)))).ro,(aU g1 77 [(Value.pointer (some ⟨gw,0,none⟩))]).ro,(aU g2 3 [(Value.int .i64 ((b:Nat):Int))]).ro]) 2 rfl kL rfl ?_
  refine aY (hJ23 ⟨((cL l2 u),ys2,A2),⟨jw hl8_0,j1.skip hnn hmm hl8_1 (by first|exact rK hy h65|exact rZ h75),hl8_2,hl8_3,hl8_4,hl8_5⟩⟩ _ _ _ rfl (iH hmm) (an.cons rfl<|an.cons rfl<|an.cons rfl<|an.cons rfl<|an.cons rfl<|an.cons rfl<|an.cons rfl<|an.cons rfl<|an.cons rfl<|an.cons rfl<|an.nil _) (fun w hs=>St.bB [2,3,4,5,6,7,8,9,10,11,12,13,14,15,16,17,18] rfl rfl hs))
 replace h65:=DT h65
 refine dS (rY 17 rfl iQ rfl)<|dS (LW 3 rfl ke rfl rfl)<|dS (LW 1 rfl ke rfl rfl) ?_
 have hpu:(0≤(dc t u).right∧(dc t u).right≤1000)∧0≤(dc t u).dn∧(dc t u).dn≤1000:=by simp only [dc]; omega
 have hpa:(0≤(dc (dc t u) (dI o.1)).right∧(dc (dc t u) (dI o.1)).right≤1000)∧0≤(dc (dc t u) (dI o.1)).dn∧(dc (dc t u) (dI o.1)).dn≤1000:=by simp only [dc]; omega
 refine dS (CL (p7 t u (by first|assumption|omega|(simp; done)|(simp; omega)) (by first|assumption|omega|(simp; done)|(simp; omega))) (ar) rfl)<|dS (MV rfl)<|dS (CL (x5 o.1) (ar) rfl)<|dS (CL (p7 (dc t u) (dI o.1) (by first|assumption|omega|(simp; done)|(simp; omega)) (by first|assumption|omega|(simp; done)|(simp; omega))) (ar) rfl)<|dS (CL (Bq ln ri e tms e_A e_C tb t_A t_C fs bs fb f_A f_C bb b_A b_C gw (dc (dc t u) (dI o.1)) (by first|assumption|omega|(simp; done)|(simp; omega)) hsg) (ax 9 rfl rfl<|ax 10 rfl rfl<|ax 11 rfl rfl<|ax 12 rfl rfl<|ax 13 rfl rfl<|ax 14 rfl rfl<|ax 15 rfl rfl<|ax 16 rfl rfl<|ar) rfl)<|dS (PK rfl)<|dS (MV rfl) ?_
 refine db (t:=75) rfl (fun h75=>?_) (fun h75=>?_)
 rotate_left 1
 ·refine dS (OX rfl) ?_
  refine dS (OX rfl)<|dS (OX rfl)<|cE<|rS (OX rfl)<|rS (OX rfl)<|rS (PK rfl)<|RK hK33<|bH rfl<|cH<|aL ?_
  refine mq (C':=[(aU b31 47 (ab.cells (ab.mk (max (v+y) o.2.Lo) (min z o.2.Hi)))),(aU b28 124 (aq.cells u)),(nV cg r22 gb (bu iV mb) (bu iV (cL l2 u)) none),(aU b20 124 (aq.cells t)),(nV cg r14 ga (bu iV mf) (bu iV (cL left t)) (some (t,(Value.int .i64 v)))),(g5 lr (.loop rb)),(aU b12 47 (ab.cells o.2)),(aU b2 134 [(Value.func (.yield l) #[] #[])]),A2,(rd e_A e.length 1 (e.map iC)).ro,(rd t_A tms.length 1 (List.zipWith cb tms tb)).ro,(c_ (aP gJ tms tb)).ro,(rd f_A fs.length 1 (List.zipWith cb fs fb)).ro,(c_ (aP e8 fs fb)).ro,(rd b_A bs.length 1 (List.zipWith cb bs bb)).ro,(c_ (aP e8 bs bb)).ro,(aU gw 117 (aK.cells (aK.mk ln ri (aA.mk e_A e.length e_C) (aA.mk t_A tms.length t_C) (aA.mk f_A fs.length f_C) (aA.mk b_A bs.length b_C)))).ro,(aU g1 77 [(Value.pointer (some ⟨gw,0,none⟩))]).ro,(aU g2 3 [(Value.int .i64 ((b:Nat):Int))]).ro]) 2 rfl kL rfl ?_
  refine aY (hJ23 ⟨((cL l2 u),ys2,A2),⟨jw hl8_0,j1.skip hnn hmm hl8_1 (by first|exact rK hy h65|exact rZ h75),hl8_2,hl8_3,hl8_4,hl8_5⟩⟩ _ _ _ rfl (iH hmm) (an.cons rfl<|an.cons rfl<|an.cons rfl<|an.cons rfl<|an.cons rfl<|an.cons rfl<|an.cons rfl<|an.cons rfl<|an.cons rfl<|an.cons rfl<|an.nil _) (fun w hs=>St.bB [2,3,4,5,6,7,8,9,10,11,12,13,14,15,16,17,18] rfl rfl hs))
 refine dS (jc 7 rfl D6 rfl)<|dS (MV rfl)<|dS (LW 0 rfl cB rfl rfl)<|cE ?_
 refine qf (k:=ys2) (k':=(ys2++[(o.1,(ab.mk (max (v+y) o.2.Lo) (min z o.2.Hi)))])) 8 (by first|exact hsz|exact Nat.le_refl _) hY hl8_4 hl8_5 rfl rfl rfl (by exact ⟨(o.1,_),fo.2 ⟨o,ho,(t,v),hl5_0 _ hm,(u,z),hl8_0 _ hmm,(uz hy h65 h75)⟩,rfl,rfl⟩) rfl rfl (fun B34 hJ35 hF36=>?_) (fun B34 hJ35 hF36=>?_)
 rotate_left 1
 ·refine rS (NT rfl) ?_
  refine rS (PK rfl)<|RK hK33<|aW rfl<|aE ?_
  exact yQr9 B34 _ _ (by exact ⟨rfl,hJ35,hF36⟩) (fun w hs=>St.bB [5,7,8,9,10,11,12,13,14,15,16,17,18] rfl rfl hs)
 refine rS (NT rfl)<|rS (PK rfl)<|RK hK33<|bH rfl<|cH<|aL<|mq (C':=[(aU b31 47 (ab.cells (ab.mk (max (v+y) o.2.Lo) (min z o.2.Hi)))),(aU b28 124 (aq.cells u)),(nV cg r22 gb (bu iV mb) (bu iV (cL l2 u)) none),(aU b20 124 (aq.cells t)),(nV cg r14 ga (bu iV mf) (bu iV (cL left t)) (some (t,(Value.int .i64 v)))),(g5 lr (.loop rb)),(aU b12 47 (ab.cells o.2)),(aU b2 134 [(Value.func (.yield l) #[] #[])]),B34,(rd e_A e.length 1 (e.map iC)).ro,(rd t_A tms.length 1 (List.zipWith cb tms tb)).ro,(c_ (aP gJ tms tb)).ro,(rd f_A fs.length 1 (List.zipWith cb fs fb)).ro,(c_ (aP e8 fs fb)).ro,(rd b_A bs.length 1 (List.zipWith cb bs bb)).ro,(c_ (aP e8 bs bb)).ro,(aU gw 117 (aK.cells (aK.mk ln ri (aA.mk e_A e.length e_C) (aA.mk t_A tms.length t_C) (aA.mk f_A fs.length f_C) (aA.mk b_A bs.length b_C)))).ro,(aU g1 77 [(Value.pointer (some ⟨gw,0,none⟩))]).ro,(aU g2 3 [(Value.int .i64 ((b:Nat):Int))]).ro]) 2 rfl kL rfl ?_
 refine aY (hJ23 ⟨((cL l2 u),(ys2++[(o.1,(ab.mk (max (v+y) o.2.Lo) (min z o.2.Hi)))]),B34),⟨jw hl8_0,j1.Gu hnn hmm hl8_1 (uz hy h65 h75),hl8_2.app,hl8_3.app,hJ35,hF36⟩⟩ _ _ _ rfl (iH hmm) (an.cons rfl<|an.cons rfl<|an.cons rfl<|an.cons rfl<|an.cons rfl<|an.cons rfl<|an.cons rfl<|an.cons rfl<|an.cons rfl<|an.cons rfl<|an.nil _) (fun w hs=>St.bB [2,3,4,5,6,7,8,9,10,11,12,13,14,15,16,17,18] rfl rfl hs))
end
section
open Go.RowKit
set_option linter.unusedVariables false
set_option maxRecDepth 100000 in
set_option maxHeartbeats 400000 in
theorem AH (l:aV) (kA:Option Addr) (kC:Nat) (az:List RA) (cA:Option Addr) (cC:Nat) (bA:Option Addr) (bC:Nat) (r:bj) (sgA:Option Addr) (sgC:Nat) (f:Value) (X:aD) (me:Int) (gm:Nat) (hf:xL Tryz.prog f [] [X] (.int .i64 me)) (hin:dM l az) (hsl:r.ae.length≤1000000):
 rM Tryz.prog 33 [(Value.agg (aG.cells (aG.mk (ay.mk (aA.mk kA l.au.length kC)) l.bJ (aA.mk cA l.ag.length cC) (aA.mk bA l.aa.length bC) l.aB l.aZ l.aO)).toArray),(Value.agg (aN.cells (aN.mk r.Start r.dw (aA.mk sgA r.ae.length sgC))).toArray),(Value.slice (some ⟨gm,0,none⟩) 1 1)] [(rd kA l.au.length 9 (l.au.map ah.cells)),(rd cA l.ag.length 2 (List.zipWith ao.cells l.ag az)),(c_ (aP ao.eX l.ag az)),(rd bA l.aa.length 4 (l.aa.map aT.cells)),(rd sgA r.ae.length 2 (r.ae.map av.cells)),X,(aU gm 88 [f])] (fun (x:Bool×Int×Nat×(Option Addr)×Nat×(Option Addr)×Nat×(List Nat)×(List FM)×(List Nat)×(Option Addr)×Nat×(List FM)×(List Nat)×(Option Addr)×Nat)=>bif x.1 then (Value.tuple [(Value.pointer (some ⟨x.2.2.1,0,none⟩)),(Value.int .i64 0)].toArray) else (Value.tuple [(Value.pointer none),(Value.int .i64 x.2.1)].toArray)) (fun (x:Bool×Int×Nat×(Option Addr)×Nat×(Option Addr)×Nat×(List Nat)×(List FM)×(List Nat)×(Option Addr)×Nat×(List FM)×(List Nat)×(Option Addr)×Nat)=>(x.1=true→(cD l r me=0∧pE (a6 l r) x.2.2.2.2.2.2.2.2.1∧nN (a6 l r) x.2.2.2.2.2.2.2.2.2.2.2.2.1∧x.2.2.2.2.2.2.2.2.2.1.length=x.2.2.2.2.2.2.2.2.1.length∧x.2.2.2.2.2.2.2.2.2.2.2.2.2.1.length=x.2.2.2.2.2.2.2.2.2.2.2.2.1.length∧x.2.2.2.2.2.2.2.1.length=(bf l r.ae r.ae.length).length))∧(x.1=false→(x.2.1=cD l r me∧ ¬ cD l r me=0))) (fun (x:Bool×Int×Nat×(Option Addr)×Nat×(Option Addr)×Nat×(List Nat)×(List FM)×(List Nat)×(Option Addr)×Nat×(List FM)×(List Nat)×(Option Addr)×Nat)=>bif x.1 then [(aU x.2.2.1 117 (aK.cells (aK.mk (aG.mk (ay.mk (aA.mk kA l.au.length kC)) l.bJ (aA.mk cA l.ag.length cC) (aA.mk bA l.aa.length bC) l.aB l.aZ l.aO) (aN.mk r.Start r.dw (aA.mk sgA r.ae.length sgC)) (aA.mk x.2.2.2.1 ((bE l l.aa.length).length) x.2.2.2.2.1) (aA.mk x.2.2.2.2.2.1 ((bf l r.ae r.ae.length).length) x.2.2.2.2.2.2.1) (aA.mk x.2.2.2.2.2.2.2.2.2.2.1 x.2.2.2.2.2.2.2.2.1.length x.2.2.2.2.2.2.2.2.2.2.2.1) (aA.mk x.2.2.2.2.2.2.2.2.2.2.2.2.2.2.1 x.2.2.2.2.2.2.2.2.2.2.2.2.1.length x.2.2.2.2.2.2.2.2.2.2.2.2.2.2.2)))),(own x.2.2.2.1 x.2.2.2.2.1 3 1 ((bE l l.aa.length).map iC)),(own x.2.2.2.2.2.1 x.2.2.2.2.2.2.1 120 1 (List.zipWith cb (bf l r.ae r.ae.length) x.2.2.2.2.2.2.2.1)),(bw (aP gJ (bf l r.ae r.ae.length) x.2.2.2.2.2.2.2.1)),(own x.2.2.2.2.2.2.2.2.2.2.1 x.2.2.2.2.2.2.2.2.2.2.2.1 122 1 (List.zipWith cb x.2.2.2.2.2.2.2.2.1 x.2.2.2.2.2.2.2.2.2.1)),(bw (aP e8 x.2.2.2.2.2.2.2.2.1 x.2.2.2.2.2.2.2.2.2.1)),(own x.2.2.2.2.2.2.2.2.2.2.2.2.2.2.1 x.2.2.2.2.2.2.2.2.2.2.2.2.2.2.2 122 1 (List.zipWith cb x.2.2.2.2.2.2.2.2.2.2.2.2.1 x.2.2.2.2.2.2.2.2.2.2.2.2.2.1)),(bw (aP e8 x.2.2.2.2.2.2.2.2.2.2.2.2.1 x.2.2.2.2.2.2.2.2.2.2.2.2.2.1))] else []):=by
 have htk:=hin.o0
 have hck:=hin.oZ
 have has:=hin.oG
 have hbm:=hin.oI
 have hsd:=hin.side
 refine gX DH Tryz.func33 rfl rfl fun w0 Q hQ hN=>?_
 try dsimp only
 refine WS fun _ hK1=>gv rfl fun b2=>gv rfl fun b3=>rS (AG rfl)<|rS (AG rfl)<|RK hK1<|aw fun _ hK4=>WS fun _ hK5=>rS (LW 1 rfl eP rfl rfl)<|rS (CL (mK l kA kC az cA cC bA bC hin) (ax 2 rfl rfl<|ax 3 rfl rfl<|ax 4 rfl rfl<|ax 5 rfl rfl<|ar) rfl) ?_
 refine rS (AG rfl)<|RK hK5<|WS fun _ hK6=>rS (MV rfl)<|rS (BI rfl eB)<|RK hK6 ?_
 refine bp rfl (fun h21=>?_) (fun h21=>?_)
 ·replace h21:=XT h21
  refine WS fun _ hK7=>rS (MV rfl)<|rS (AG rfl)<|rS (AG rfl)<|RK hK7<|aE ?_
  refine hQ _ _ _ (bD (vs:=[(Value.pointer none),(Value.int .i64 (cw l))]) ⟨rfl,rfl,trivial⟩ fun w hs=>fj (false,(cw l),0,none,0,none,0,[],[],[],none,0,[],[],none,0) [] ?_ ?_ rfl rfl (by first|rfl|(show List.all _ _=true; simp only [cond_true,List.all_cons,List.all_nil,g4,ik,Bool.and_true]; rfl)) hs)
  ·rfl
  ·refine ⟨fun q=>Bool.noConfusion (show false=true from q),fun _=>?_⟩; first|(have e:=cY (r:=r) (me:=me) h21; exact ⟨e.symm,fun q=>h21 (e.symm.trans q)⟩)|(have e:=bq (me:=me) h10 (fun q:c7 l r=>by have q1:=q.time; have q2:=q.len; omega); exact ⟨e.symm,fun q=>absurd (e.symm.trans q) (by decide)⟩)|(have e:=bq (me:=me) h10 (eU hx (by unfold dK eb; omega)); exact ⟨e.symm,fun q=>absurd (e.symm.trans q) (by decide)⟩)|(have e:=ew h10 hro h156; exact ⟨e.symm,fun q=>h156 (e.symm.trans q)⟩)|(have e:=cV (me:=me) h10 hro (by first|rfl|exact h156) (show dJ (a6 l r)=[] from List.eq_nil_of_length_eq_zero (Int.natCast_eq_zero.1 h164)); exact ⟨e.symm,fun q=>absurd (e.symm.trans q) (by decide)⟩)
 replace h21:=XF h21
 refine WK hK4<|aw fun _ hK8=>WS fun _ hK9=>?_
 have h10:cw l=0:=h21
 obtain ⟨htr,hok⟩:=dD h10
 have hhd:=hok.head
 unfold cU at hhd
 refine rS (FA 0 rfl fH rfl)<|rS (L1 (Value.int .i64 r.Start) 0 rfl bk rfl rfl)<|dV (xs:=[.tmp 24]) (cs:=[(Value.int .i64 r.Start)]) rfl di kb rfl rfl rfl rfl (by simp [Value.cells]) rfl rfl fun b10=>rS (CL (dY.eq (d_ 0 86400000 ([r.Start]) (some ⟨b10,0,none⟩) 1 (by first|assumption|omega|(simp; done)|(simp; omega))) cI) (aF (a4 0 rfl rfl (by simp [bO]) rfl)<|ar) rfl)<|rS (NT rfl)<|rS (MV rfl) ?_
 refine bo (t:=28) rfl (fun h28=>?_) (fun h28=>?_)
 ·replace h28:=XT h28
  refine rS (OX rfl)<|rS (OX rfl)<|rS (OX rfl)<|rS (OX rfl)<|rS (OX rfl)<|rS (OX rfl)<|rS (OX rfl)<|rS (PK rfl)<|rS (MV rfl)<|rS (OX rfl) ?_
  refine rS (OX rfl)<|rS (OX rfl)<|rS (OX rfl)<|rS (PK rfl)<|RK hK9<|aW rfl<|WS fun _ hK11=>rS (AG rfl)<|rS (AG rfl)<|RK hK11 ?_
  refine aE ?_
  refine hQ _ _ _ (bD (vs:=[(Value.pointer none),(Value.int .i64 51)]) ⟨rfl,rfl,trivial⟩ fun w hs=>fj (false,51,0,none,0,none,0,[],[],[],none,0,[],[],none,0) [] ?_ ?_ rfl rfl (by first|rfl|(show List.all _ _=true; simp only [cond_true,List.all_cons,List.all_nil,g4,ik,Bool.and_true]; rfl)) hs)
  ·rfl
  ·refine ⟨fun q=>Bool.noConfusion (show false=true from q),fun _=>?_⟩; first|(have e:=cY (r:=r) (me:=me) h21; exact ⟨e.symm,fun q=>h21 (e.symm.trans q)⟩)|(have e:=bq (me:=me) h10 (fun q:c7 l r=>by have q1:=q.time; have q2:=q.len; omega); exact ⟨e.symm,fun q=>absurd (e.symm.trans q) (by decide)⟩)|(have e:=bq (me:=me) h10 (eU hx (by unfold dK eb; omega)); exact ⟨e.symm,fun q=>absurd (e.symm.trans q) (by decide)⟩)|(have e:=ew h10 hro h156; exact ⟨e.symm,fun q=>h156 (e.symm.trans q)⟩)|(have e:=cV (me:=me) h10 hro (by first|rfl|exact h156) (show dJ (a6 l r)=[] from List.eq_nil_of_length_eq_zero (Int.natCast_eq_zero.1 h164)); exact ⟨e.symm,fun q=>absurd (e.symm.trans q) (by decide)⟩)
 replace h28:=XF h28
 refine rS (FA 0 rfl fH rfl)<|rS (L1 (Value.int .i64 r.Start) 1 rfl bk rfl rfl)<|rS (FA 1 rfl lj rfl)<|rS (L1 (Value.int .i64 r.dw) 1 rfl bk rfl rfl)<|dV (xs:=[.tmp 32]) (cs:=[(Value.int .i64 r.dw)]) rfl di kb rfl rfl rfl rfl (by simp [Value.cells]) rfl rfl fun b12=>rS (CL (dY.eq (d_ r.Start 86400000 ([r.dw]) (some ⟨b12,0,none⟩) 1 (by first|assumption|omega|(simp; done)|(simp; omega))) cI) (aF (a4 0 rfl rfl (by simp [bO]) rfl)<|ar) rfl)<|rS (NT rfl)<|rS (PK rfl)<|rS (MV rfl) ?_
 refine bo (t:=37) rfl (fun h37=>?_) (fun h37=>?_)
 ·replace h37:=XT h37
  refine rS (OX rfl)<|rS (OX rfl)<|rS (OX rfl)<|rS (OX rfl)<|rS (PK rfl)<|RK hK9<|aW rfl<|WS fun _ hK13=>rS (AG rfl)<|rS (AG rfl) ?_
  refine RK hK13<|aE ?_
  refine hQ _ _ _ (bD (vs:=[(Value.pointer none),(Value.int .i64 51)]) ⟨rfl,rfl,trivial⟩ fun w hs=>fj (false,51,0,none,0,none,0,[],[],[],none,0,[],[],none,0) [] ?_ ?_ rfl rfl (by first|rfl|(show List.all _ _=true; simp only [cond_true,List.all_cons,List.all_nil,g4,ik,Bool.and_true]; rfl)) hs)
  ·rfl
  ·refine ⟨fun q=>Bool.noConfusion (show false=true from q),fun _=>?_⟩; first|(have e:=cY (r:=r) (me:=me) h21; exact ⟨e.symm,fun q=>h21 (e.symm.trans q)⟩)|(have e:=bq (me:=me) h10 (fun q:c7 l r=>by have q1:=q.time; have q2:=q.len; omega); exact ⟨e.symm,fun q=>absurd (e.symm.trans q) (by decide)⟩)|(have e:=bq (me:=me) h10 (eU hx (by unfold dK eb; omega)); exact ⟨e.symm,fun q=>absurd (e.symm.trans q) (by decide)⟩)|(have e:=ew h10 hro h156; exact ⟨e.symm,fun q=>h156 (e.symm.trans q)⟩)|(have e:=cV (me:=me) h10 hro (by first|rfl|exact h156) (show dJ (a6 l r)=[] from List.eq_nil_of_length_eq_zero (Int.natCast_eq_zero.1 h164)); exact ⟨e.symm,fun q=>absurd (e.symm.trans q) (by decide)⟩)
 replace h37:=XF h37
 refine rS (FA 2 rfl hH rfl)<|rS (L1 (Value.slice sgA r.ae.length sgC) 2 rfl nK rfl rfl)<|rS (LN rfl sE)<|rS (BI rfl eL)<|rS (PK rfl)<|RK hK9 ?_
 refine bp rfl (fun h42=>?_) (fun h42=>?_)
 ·replace h42:=DT h42
  refine WS fun _ hK14=>rS (AG rfl)<|rS (AG rfl)<|RK hK14<|aE ?_
  refine hQ _ _ _ (bD (vs:=[(Value.pointer none),(Value.int .i64 51)]) ⟨rfl,rfl,trivial⟩ fun w hs=>fj (false,51,0,none,0,none,0,[],[],[],none,0,[],[],none,0) [] ?_ ?_ rfl rfl (by first|rfl|(show List.all _ _=true; simp only [cond_true,List.all_cons,List.all_nil,g4,ik,Bool.and_true]; rfl)) hs)
  ·rfl
  ·refine ⟨fun q=>Bool.noConfusion (show false=true from q),fun _=>?_⟩; first|(have e:=cY (r:=r) (me:=me) h21; exact ⟨e.symm,fun q=>h21 (e.symm.trans q)⟩)|(have e:=bq (me:=me) h10 (fun q:c7 l r=>by have q1:=q.time; have q2:=q.len; omega); exact ⟨e.symm,fun q=>absurd (e.symm.trans q) (by decide)⟩)|(have e:=bq (me:=me) h10 (eU hx (by unfold dK eb; omega)); exact ⟨e.symm,fun q=>absurd (e.symm.trans q) (by decide)⟩)|(have e:=ew h10 hro h156; exact ⟨e.symm,fun q=>h156 (e.symm.trans q)⟩)|(have e:=cV (me:=me) h10 hro (by first|rfl|exact h156) (show dJ (a6 l r)=[] from List.eq_nil_of_length_eq_zero (Int.natCast_eq_zero.1 h164)); exact ⟨e.symm,fun q=>absurd (e.symm.trans q) (by decide)⟩)
 replace h42:=DF h42
 refine WK hK8<|WS fun _ hK15=>rS (SX (aS (xs:=[(0,.const (Value.int .i64 (-1)))]) (cs:=(av.cells (av.mk (-1) 0))) rfl rfl (aR vp rfl)) rfl rfl)<|AL rfl qe fun b16=>e7 rfl mJ rfl<|RK hK15<|aw fun _ hK17=>dA ct [0,1,2,3,4] [5,6,7,8] [false,false,false,false,false] [false,false,false,false] [(aU b16 67 (av.cells (av.mk (-1) 0))),(aU b12 3 [(Value.int .i64 r.dw)]),(aU b10 3 [(Value.int .i64 r.Start)]),(aU b3 31 (aN.cells (aN.mk r.Start r.dw (aA.mk sgA r.ae.length sgC)))),(aU b2 28 (aG.cells (aG.mk (ay.mk (aA.mk kA l.au.length kC)) l.bJ (aA.mk cA l.ag.length cC) (aA.mk bA l.aa.length bC) l.aB l.aZ l.aO))),(rd kA l.au.length 9 (l.au.map ah.cells)).ro,(rd cA l.ag.length 2 (List.zipWith ao.cells l.ag az)).ro,(c_ (aP ao.eX l.ag az)).ro,(rd bA l.aa.length 4 (l.aa.map aT.cells)).ro,(rd sgA r.ae.length 2 (r.ae.map av.cells)).ro,X.ro,(aU gm 88 [f]).ro] [] (by kernel_rfl) (fun w hs=>St.bB [0,1,2,3,4,5,6,7,8,9,10,11] rfl rfl hs) (fun w hs=>St.bB [] rfl rfl hs)<|eS rfl (LW 4 rfl eP rfl rfl)<|eS rfl (LW 3 rfl gE rfl rfl) ?_
 refine eS rfl (FA 3 rfl dQ rfl)<|eS rfl (L1 (Value.slice bA l.aa.length bC) 4 rfl hP rfl rfl)<|eS rfl (LN rfl jz)<|eJ rfl<|cf rfl fun T18 hT18=>q7 (n:=l.aa.length) (es:=(List.map oC (List.replicate l.aa.length (none:Option Nat)))) rfl rfl rfl Bv (by omega) (by omega) (by simp only [maxLen]; omega) (by rw [List.map_replicate]; rfl) rfl fun b19=>?_
 try dsimp only
 refine RN hT18 [1,2,3,4,5,6,7,8,9,10,11,12] rfl rfl<|cf rfl fun T20 hT20=>rS (SX (aS (xs:=[(0,.tmp 44),(1,.tmp 45),(3,.tmp 49)]) (cs:=(aK.cells (aK.mk (aG.mk (ay.mk (aA.mk kA l.au.length kC)) l.bJ (aA.mk cA l.ag.length cC) (aA.mk bA l.aa.length bC) l.aB l.aZ l.aO) (aN.mk r.Start r.dw (aA.mk sgA r.ae.length sgC)) (aA.mk none 0 0) (aA.mk (some ⟨b19,0,none⟩) l.aa.length l.aa.length) (aA.mk none 0 0) (aA.mk none 0 0)))) rfl rfl (aR Bx rfl)) rfl rfl)<|RN hT20 [1,2,3,4,5,6,7,8,9,10,11,12] rfl rfl<|cf rfl fun T21 hT21=>gv rfl fun b22=>RN hT21 [2,3,4,5,6,7,8,9,10,11,12,13] rfl rfl<|cf rfl fun T23 hT23=>rS (AG rfl)<|RN hT23 [2,3,4,5,6,7,8,9,10,11,12,13] rfl rfl ?_
 refine fJ rfl<|KK hK17<|aw fun _ hK24=>WS fun _ hK25=>rS (FA 3 rfl dQ rfl)<|rS (L1 (Value.slice bA l.aa.length bC) 6 rfl hP rfl rfl)<|rS (LN rfl jz)<|rS (MV rfl)<|RK hK25<|aH ?_
 rw [oW]
 refine fY 3 1<|pq ?_
 have hinit:(0≤l.aa.length)∧(([]:List Nat).length=0):=by exact ⟨Nat.zero_le _,rfl⟩
 refine cP (ι:={z:Nat×(Option Addr)×Nat×(List Nat) // (z.1≤l.aa.length)∧(z.2.2.2.length=z.1)}) (fun z=>[(2,(Value.slice (some ⟨gm,0,none⟩) 1 1)),(3,(Value.pointer (some ⟨b2,0,none⟩))),(4,(Value.pointer (some ⟨b3,0,none⟩))),(6,(Value.pointer none)),(7,(Value.int .i64 0)),(9,(Value.pointer (some ⟨b16,0,none⟩))),(10,(Value.pointer (some ⟨b22,0,none⟩))),(54,(Value.int .i64 ((l.aa.length:Nat):Int))),(55,(Value.int .i64 ((z.1.1:Nat):Int)))]) (fun z=>[(bw (aP gJ (List.replicate z.1.1 ([]:TM)) z.1.2.2.2)),(own z.1.2.1 z.1.2.2.1 3 1 ((bE l z.1.1).map iC)),(aU b22 117 (aK.cells (aK.mk (aG.mk (ay.mk (aA.mk kA l.au.length kC)) l.bJ (aA.mk cA l.ag.length cC) (aA.mk bA l.aa.length bC) l.aB l.aZ l.aO) (aN.mk r.Start r.dw (aA.mk sgA r.ae.length sgC)) (aA.mk z.1.2.1 ((bE l z.1.1).length) z.1.2.2.1) (aA.mk (some ⟨b19,0,none⟩) l.aa.length l.aa.length) (aA.mk none 0 0) (aA.mk none 0 0)))),(own (some ⟨b19,0,none⟩) l.aa.length 120 1 (List.map oC (bX z.1.2.2.2 l.aa.length))),(aU b16 67 (av.cells (av.mk (-1) 0))),(aU b3 31 (aN.cells (aN.mk r.Start r.dw (aA.mk sgA r.ae.length sgC)))),(aU b2 28 (aG.cells (aG.mk (ay.mk (aA.mk kA l.au.length kC)) l.bJ (aA.mk cA l.ag.length cC) (aA.mk bA l.aa.length bC) l.aB l.aZ l.aO))),(rd kA l.au.length 9 (l.au.map ah.cells)).ro,(rd cA l.ag.length 2 (List.zipWith ao.cells l.ag az)).ro,(c_ (aP ao.eX l.ag az)).ro,(rd bA l.aa.length 4 (l.aa.map aT.cells)).ro,(rd sgA r.ae.length 2 (r.ae.map av.cells)).ro,X.ro,(aU gm 88 [f]).ro]) (fun z=>l.aa.length-z.1.1) ⟨(0,none,0,([]:List Nat)),hinit⟩ (an.cons rfl<|an.cons rfl<|an.cons rfl<|an.cons rfl<|an.cons rfl<|an.cons rfl<|an.cons rfl<|an.cons rfl<|an.cons rfl<|an.nil _) (fun w hs=>St.bB [0,1,2,3,4,7,8,9,10,11,12,13,14,15] rfl rfl hs) ?_
 clear hinit
 rintro ⟨⟨b,a,c,fb⟩,⟨hl9_0,hl9_1⟩⟩ J26 hJ26
 try dsimp only at hl9_0 hl9_1
 try dsimp only
 have hlf:(bX fb l.aa.length).length=l.aa.length:=jQ (by omega)
 refine WS fun _ hK27=>rS (BI rfl cq)<|RK hK27<|aw fun _ hK28=>?_
 refine bp rfl (fun h29=>?_) (fun h29=>?_)
 ·replace h29:=DT h29
  refine WK hK28<|aw fun _ hK30=>aH<|WS fun _ hK31=>rS (MV rfl)<|rS (AG rfl)<|RK hK31<|aw fun _ hK32=>dA ct [0,1,2,3,4,5,6,7,8,9,10,11,14,15] [12,13,16] [false,false,false,false,true,false,false,false,false,false,false,false,false,false] [true,false,false] [(bw (aP gJ (List.replicate b ([]:TM)) fb)),(own (some ⟨b19,0,none⟩) l.aa.length 120 1 (List.map oC (bX fb l.aa.length))),(aU b16 67 (av.cells (av.mk (-1) 0))),(aU b3 31 (aN.cells (aN.mk r.Start r.dw (aA.mk sgA r.ae.length sgC)))),(aU b2 28 (aG.cells (aG.mk (ay.mk (aA.mk kA l.au.length kC)) l.bJ (aA.mk cA l.ag.length cC) (aA.mk bA l.aa.length bC) l.aB l.aZ l.aO))),(rd kA l.au.length 9 (l.au.map ah.cells)).ro,(rd cA l.ag.length 2 (List.zipWith ao.cells l.ag az)).ro,(c_ (aP ao.eX l.ag az)).ro,(rd bA l.aa.length 4 (l.aa.map aT.cells)).ro,(rd sgA r.ae.length 2 (r.ae.map av.cells)).ro,X.ro,(aU gm 88 [f]).ro] [(bw (aP gJ (List.replicate b ([]:TM)) fb)),(own a c 3 1 ((bE l b).map iC)),(aU b22 117 (aK.cells (aK.mk (aG.mk (ay.mk (aA.mk kA l.au.length kC)) l.bJ (aA.mk cA l.ag.length cC) (aA.mk bA l.aa.length bC) l.aB l.aZ l.aO) (aN.mk r.Start r.dw (aA.mk sgA r.ae.length sgC)) (aA.mk a ((bE l b).length) c) (aA.mk (some ⟨b19,0,none⟩) l.aa.length l.aa.length) (aA.mk none 0 0) (aA.mk none 0 0)))),(own (some ⟨b19,0,none⟩) l.aa.length 120 1 (List.map oC (bX fb l.aa.length))),(aU b16 67 (av.cells (av.mk (-1) 0))),(aU b3 31 (aN.cells (aN.mk r.Start r.dw (aA.mk sgA r.ae.length sgC)))),(aU b2 28 (aG.cells (aG.mk (ay.mk (aA.mk kA l.au.length kC)) l.bJ (aA.mk cA l.ag.length cC) (aA.mk bA l.aa.length bC) l.aB l.aZ l.aO))),(rd kA l.au.length 9 (l.au.map ah.cells)).ro,(rd cA l.ag.length 2 (List.zipWith ao.cells l.ag az)).ro,(c_ (aP ao.eX l.ag az)).ro,(rd bA l.aa.length 4 (l.aa.map aT.cells)).ro,(rd sgA r.ae.length 2 (r.ae.map av.cells)).ro,X.ro,(aU gm 88 [f]).ro] (by kernel_rfl) (fun w hs=>St.bB [0,3,4,5,6,7,8,9,10,11,12,13] rfl rfl hs) (fun w hs=>St.bB [0,1,2,3,4,5,6,7,8,9,10,11,12,13] rfl rfl hs)<|eS rfl (MV rfl) ?_
  refine eS rfl (MV rfl)<|eS rfl (SX (cl rfl rfl) rfl rfl)<|eS rfl (FA 10 rfl lP rfl)<|fS rfl (L1 (Value.slice a ((bE l b).length) c) 2 rfl wX rfl rfl)<|eS rfl (LW 4 rfl eP rfl rfl)<|eS rfl (MV rfl)<|eS rfl (CL (vy l kA kC az cA cC bA bC ((b:Nat):Int) hin (by first|assumption|omega|(simp; done)|(simp; omega)) (by exact hok.ij) (by first|assumption|omega|(simp; done)|(simp; omega))) (ax 5 rfl rfl<|ax 6 rfl rfl<|ax 7 rfl rfl<|ax 8 rfl rfl<|ar) rfl) ?_
  have hwb:=ur htr hok.ij b
  have hwy:=hok.re b (by omega)
  simp only [Int.toNat_natCast]
  refine eS rfl (BI rfl (mA ⟨by omega,by omega⟩))<|eS rfl (FA 1 rfl qt rfl)<|eS rfl (L1 (Value.int .i64 l.bJ) 4 rfl bk rfl rfl)<|eS rfl (CL (v3 (1000*(iw l ((b:Nat):Int).toNat)) l.bJ (by first|assumption|omega|(simp; done)|(simp; omega)) (by first|assumption|omega|(simp; done)|(simp; omega))) (ar) rfl)<|eS rfl (SX (cl rfl rfl) rfl rfl)<|eS rfl (FA 10 rfl lP rfl)<|eJ rfl<|jM rfl fun T33 hT33=>dV (xs:=[.tmp 69]) (cs:=[(Value.int .i64 (mx (1000*(iw l ((b:Nat):Int).toNat)) l.bJ))]) rfl di kb rfl rfl rfl rfl (by simp [Value.cells]) rfl rfl fun b34=>?_
  refine aX (hT33 _ _ (fun w hs=>St.bB [1,4,5,6,7,8,9,10,11,12,13,14] rfl rfl hs) (fun w hs=>St.bB [1,2,3,4,5,6,7,8,9,10,11,12,13,14] rfl rfl hs) ?_)
  refine cf rfl fun T35 hT35=>gz (es2:=(List.map iC (bE l (b+1)))) (m':=(bE l (b+1)).length) 2 rfl rfl rfl tF rfl rfl (by simp [bK]) (a4 (es:=List.map iC [(mx (1000*(iw l ((b:Nat):Int).toNat)) l.bJ)]) 0 rfl rfl (by simp [bO]) rfl) (mu _) (by have:=bK (l:=l) (n:=b); first|omega|(simp; omega)) (by simp only [maxLen,bK]; omega) (by rw [pv]; simp [eO]) (by simp [bK]) rfl fun a36 c37=>?_
  try dsimp only
  refine RN hT35 [1,4,5,6,7,8,9,10,11,12,13,14] rfl rfl<|cf rfl fun T38 hT38=>AV (aK.cells (aK.mk (aG.mk (ay.mk (aA.mk kA l.au.length kC)) l.bJ (aA.mk cA l.ag.length cC) (aA.mk bA l.aa.length bC) l.aB l.aZ l.aO) (aN.mk r.Start r.dw (aA.mk sgA r.ae.length sgC)) (aA.mk a36 ((bE l (b+1)).length) c37) (aA.mk (some ⟨b19,0,none⟩) l.aa.length l.aa.length) (aA.mk none 0 0) (aA.mk none 0 0))) rfl DQ rfl rfl<|RN hT38 [1,4,5,6,7,8,9,10,11,12,13,14] rfl rfl<|fJ rfl<|KK hK32<|aC<|rS (MV rfl)<|rS (SX (cl rfl rfl) rfl rfl)<|rS (FA 11 rfl lp rfl) ?_
  refine rS (L1 (Value.slice (some ⟨b19,0,none⟩) l.aa.length l.aa.length) 3 rfl qV rfl rfl)<|rS (MV rfl)<|k3 (kV:=iV) rfl rfl fun b39=>?_
  try dsimp only
  obtain ⟨x40,hx41⟩: ∃ y_,(bX fb l.aa.length)[b]? =some y_:=⟨(bX fb l.aa.length)[b]'(by omega),List.getElem?_eq_getElem _⟩
  have hx41m:(List.map oC (bX fb l.aa.length))[b]? =some (oC x40):=by rw [List.getElem?_map,hx41]; rfl
  refine rS (IA b rfl (ak (n:=l.aa.length) 5 rfl (by first|(simp; done)|(simp; omega))) ql (by decide) (by omega) (by omega)) ?_
  have hb42:((bX fb l.aa.length).set b (some b39))=(bX (fb++[b39]) l.aa.length):=by exact nd (by omega) (by omega)
  refine dy (k:=b) (o:=0) (vs:=[(Value.map (some b39))]) (es':=(List.map oC (bX (fb++[b39]) l.aa.length))) (C':=[_,_,_,_,_,(own (some ⟨b19,0,none⟩) l.aa.length 120 1 (List.map oC (bX (fb++[b39]) l.aa.length))),_,_,_,_,_,_,_,_,_,_]) 5 rfl rfl rfl A9 rfl rfl rfl rfl hx41m rfl (by decide) (by exact (List.map_set (f:=oC) (l:=(bX fb l.aa.length)) (i:=b) (a:=(some b39))).symm.trans (congrArg _ hb42)) rfl<|aX<|aL<|KK hK30<|aC<|rS (BI rfl (a9 ⟨by omega,by omega⟩))<|rS (MV rfl)<|aX<|v7 (X':=aP gJ (List.replicate (b+1) ([]:TM)) (fb++[b39])) 2 0 rfl rfl (vV hl9_1) ?_
  try dsimp only
  have hb43:(Value.int .i64 (((b+1):Nat):Int))=(Value.int .i64 (((b:Nat):Int)+1)):=by exact congrArg (Value.int .i64) (by omega)
  refine aY (hJ26 ⟨((b+1),a36,c37,(fb++[b39])),⟨by omega,by simp; omega⟩⟩ _ _ _ rfl (by first|omega|(simp; omega)) (an.cons rfl<|an.cons rfl<|an.cons rfl<|an.cons rfl<|an.cons rfl<|an.cons rfl<|an.cons rfl<|an.cons rfl<|a_ rfl hb43<|an.nil _) (fun w hs=>St.bB [0,2,3,4,5,6,7,8,9,10,11,12,13,14] rfl rfl hs))
 replace h29:=DF h29
 refine bM<|ai<|ai<|aI<|KK hK24<|aw fun _ hK44=>WS fun _ hK45=>rS (FA 2 rfl hH rfl)<|rS (L1 (Value.slice sgA r.ae.length sgC) 5 rfl nK rfl rfl)<|rS (LN rfl sE) ?_
 refine rS (MV rfl)<|RK hK45<|aH ?_
 rw [show (List.replicate b ([]:TM))=bf l r.ae 0 from by rw [qv,show b=l.aa.length by omega]]
 rw [show bE l b=bE l l.aa.length from by rw [show b=l.aa.length by omega]]
 have hinit:(0≤r.ae.length)∧(kG l r.ae 0):=by exact ⟨Nat.zero_le _,pk⟩
 refine cP (ι:={z:Nat // (z≤r.ae.length)∧(kG l r.ae z)}) (fun z=>[(2,(Value.slice (some ⟨gm,0,none⟩) 1 1)),(3,(Value.pointer (some ⟨b2,0,none⟩))),(4,(Value.pointer (some ⟨b3,0,none⟩))),(6,(Value.pointer none)),(7,(Value.int .i64 0)),(9,(Value.pointer (some ⟨b16,0,none⟩))),(10,(Value.pointer (some ⟨b22,0,none⟩))),(83,(Value.slice sgA r.ae.length sgC)),(84,(Value.int .i64 ((r.ae.length:Nat):Int))),(85,(Value.int .i64 ((z.1:Nat):Int)))]) (fun z=>[(bw (aP gJ (bf l r.ae z.1) fb)),(own a c 3 1 ((bE l l.aa.length).map iC)),(aU b22 117 (aK.cells (aK.mk (aG.mk (ay.mk (aA.mk kA l.au.length kC)) l.bJ (aA.mk cA l.ag.length cC) (aA.mk bA l.aa.length bC) l.aB l.aZ l.aO) (aN.mk r.Start r.dw (aA.mk sgA r.ae.length sgC)) (aA.mk a ((bE l l.aa.length).length) c) (aA.mk (some ⟨b19,0,none⟩) l.aa.length l.aa.length) (aA.mk none 0 0) (aA.mk none 0 0)))),(own (some ⟨b19,0,none⟩) l.aa.length 120 1 (List.map oC (bX fb l.aa.length))),(aU b16 67 (av.cells (fO r.ae z.1))),(aU b3 31 (aN.cells (aN.mk r.Start r.dw (aA.mk sgA r.ae.length sgC)))),(aU b2 28 (aG.cells (aG.mk (ay.mk (aA.mk kA l.au.length kC)) l.bJ (aA.mk cA l.ag.length cC) (aA.mk bA l.aa.length bC) l.aB l.aZ l.aO))),(rd kA l.au.length 9 (l.au.map ah.cells)).ro,(rd cA l.ag.length 2 (List.zipWith ao.cells l.ag az)).ro,(c_ (aP ao.eX l.ag az)).ro,(rd bA l.aa.length 4 (l.aa.map aT.cells)).ro,(rd sgA r.ae.length 2 (r.ae.map av.cells)).ro,X.ro,(aU gm 88 [f]).ro]) (fun z=>r.ae.length-z.1) ⟨0,hinit⟩ (an.cons rfl<|an.cons rfl<|an.cons rfl<|an.cons rfl<|an.cons rfl<|an.cons rfl<|an.cons rfl<|an.cons rfl<|an.cons rfl<|an.cons rfl<|an.nil _) (fun w hs=>St.bB [0,1,2,3,4,5,6,7,8,9,10,11,12,13] rfl rfl hs) ?_
 clear hinit
 rintro ⟨i,⟨hl15_0,hl15_1⟩⟩ J46 hJ46
 try dsimp only
 have htlen:(bf l r.ae i).length=l.aa.length:=dO
 have hlf:(bX fb l.aa.length).length=l.aa.length:=jQ (by omega)
 refine WS fun _ hK47=>rS (BI rfl cq)<|RK hK47<|aw fun _ hK48=>?_
 refine bp rfl (fun h49=>?_) (fun h49=>?_)
 rotate_left 1
 ·replace h49:=DF h49
  refine bM<|ai<|ai<|aI<|KK hK44<|aw fun _ hK79=>aw fun _ hK80=>?_
  have hro:c7 l r:=ib (by omega) (by omega) hl15_1 (by omega)
  refine aC<|rS (MV rfl)<|rS (LN rfl Bu)<|rS (MV rfl)<|RK hK80<|aH<|oe 2<|jK fun R81 hR81=>WS fun _ hK82=>rS (SX (gn (r:= .bool true) rfl rfl rfl cq) rfl rfl) ?_
  refine RK hK82<|aw fun _ hK83=>aW rfl<|WK hK83<|aw fun _ hK84=>aH<|WS fun _ hK85=>rS (ES 0 0 rfl Be rfl (by decide) rfl)<|rS (rY 13 rfl GD rfl)<|rS (AG rfl) ?_
  refine RK hK85<|WS fun _ hK86=>rS (MV rfl)<|rS (SX (o6 rfl rfl rfl (hf) (ax 12 rfl rfl<|ar)) rfl rfl)<|rS (AG rfl)<|RK hK86<|WS fun _ hK87=>rS (MV rfl)<|rS (BI rfl eB)<|RK hK87 ?_
  refine bp rfl (fun h156=>?_) (fun h156=>?_)
  ·replace h156:=XT h156
   refine WS fun _ hK88=>rS (MV rfl)<|rS (AG rfl)<|rS (AG rfl)<|RK hK88<|aE ?_
   refine hQ _ _ _ (bD (vs:=[(Value.pointer none),(Value.int .i64 me)]) ⟨rfl,rfl,trivial⟩ fun w hs=>fj (false,me,0,none,0,none,0,[],[],[],none,0,[],[],none,0) [] ?_ ?_ rfl rfl (by first|rfl|(show List.all _ _=true; simp only [cond_true,List.all_cons,List.all_nil,g4,ik,Bool.and_true]; rfl)) hs)
   ·rfl
   ·refine ⟨fun q=>Bool.noConfusion (show false=true from q),fun _=>?_⟩; first|(have e:=cY (r:=r) (me:=me) h21; exact ⟨e.symm,fun q=>h21 (e.symm.trans q)⟩)|(have e:=bq (me:=me) h10 (fun q:c7 l r=>by have q1:=q.time; have q2:=q.len; omega); exact ⟨e.symm,fun q=>absurd (e.symm.trans q) (by decide)⟩)|(have e:=bq (me:=me) h10 (eU hx (by unfold dK eb; omega)); exact ⟨e.symm,fun q=>absurd (e.symm.trans q) (by decide)⟩)|(have e:=ew h10 hro h156; exact ⟨e.symm,fun q=>h156 (e.symm.trans q)⟩)|(have e:=cV (me:=me) h10 hro (by first|rfl|exact h156) (show dJ (a6 l r)=[] from List.eq_nil_of_length_eq_zero (Int.natCast_eq_zero.1 h164)); exact ⟨e.symm,fun q=>absurd (e.symm.trans q) (by decide)⟩)
  replace h156:=XF h156
  refine cH<|aL<|KK hK84<|aC<|rS (SX (gn (r:= .int .i64 1) rfl rfl rfl (a9 ⟨by decide,by decide⟩)) rfl rfl)<|rS (MV rfl)<|RK hR81<|jK fun R89 hR89=>WS fun _ hK90=>rS (SX (gn (r:= .bool false) rfl rfl rfl cq) rfl rfl) ?_
  refine RK hK90<|aw fun _ hK91=>bH rfl<|bM<|ai<|ai<|aI<|KK hK79<|aw fun _ hK92=>?_
  rw [show bf l r.ae i=bf l r.ae r.ae.length from by rw [show i=r.ae.length by omega]]
  have htl:(bf l r.ae r.ae.length).length=l.aa.length:=dO
  rw [show (List.map oC (bX fb l.aa.length))=(List.zipWith cb (bf l r.ae r.ae.length) fb) from EE (by omega) htl]
  rw [show (aU b22 117 (aK.cells (aK.mk (aG.mk (ay.mk (aA.mk kA l.au.length kC)) l.bJ (aA.mk cA l.ag.length cC) (aA.mk bA l.aa.length bC) l.aB l.aZ l.aO) (aN.mk r.Start r.dw (aA.mk sgA r.ae.length sgC)) (aA.mk a ((bE l l.aa.length).length) c) (aA.mk (some ⟨b19,0,none⟩) l.aa.length l.aa.length) (aA.mk none 0 0) (aA.mk none 0 0))))=(aU b22 117 (aK.cells (aK.mk (aG.mk (ay.mk (aA.mk kA l.au.length kC)) l.bJ (aA.mk cA l.ag.length cC) (aA.mk bA l.aa.length bC) l.aB l.aZ l.aO) (aN.mk r.Start r.dw (aA.mk sgA r.ae.length sgC)) (aA.mk a ((bE l l.aa.length).length) c) (aA.mk (some ⟨b19,0,none⟩) ((bf l r.ae r.ae.length).length) l.aa.length) (aA.mk none 0 0) (aA.mk none 0 0)))) from by rw [htl]]
  have hwo:=iK htr hok hro
  have hlel:(bE l l.aa.length).length=l.aa.length:=bK
  refine aC<|rS (MV rfl) ?_
  refine oB 2 rfl rfl rfl rfl (tz (aG.mk (ay.mk (aA.mk kA l.au.length kC)) l.bJ (aA.mk cA l.ag.length cC) (aA.mk bA l.aa.length bC) l.aB l.aZ l.aO) (aN.mk r.Start r.dw (aA.mk sgA r.ae.length sgC)) (bE l l.aa.length) (bf l r.ae r.ae.length) a c fb (some ⟨b19,0,none⟩) l.aa.length b22 (by exact hwo) (by exact bK.symm) (by rw [htl]; omega)) rfl (mV 1 rfl rfl (er (by simp)) (mV 3 rfl rfl (er (by rw [List.length_zipWith]; omega)) (mV 0 rfl rfl gZ qI))) rfl (fun y101 hfo=>?_)
  obtain ⟨fs93,fb94,fA95,fC96,bs97,bb98,bA99,bC100⟩:=y101
  refine vP (X:=[(aU b22 117 (aK.cells (aK.mk (aG.mk (ay.mk (aA.mk kA l.au.length kC)) l.bJ (aA.mk cA l.ag.length cC) (aA.mk bA l.aa.length bC) l.aB l.aZ l.aO) (aN.mk r.Start r.dw (aA.mk sgA r.ae.length sgC)) (aA.mk a ((bE l l.aa.length).length) c) (aA.mk (some ⟨b19,0,none⟩) ((bf l r.ae r.ae.length).length) l.aa.length) (aA.mk fA95 fs93.length fC96) (aA.mk bA99 bs97.length bC100)))),(own fA95 fC96 122 1 (List.zipWith cb fs93 fb94)),(bw (aP e8 fs93 fb94)),(own bA99 bC100 122 1 (List.zipWith cb bs97 bb98)),(bw (aP e8 bs97 bb98))]) 2 rfl rfl ?_
  try dsimp only
  obtain ⟨hq1,hq2,hq3,hq4⟩:=hfo
  dsimp only at hq1 hq2 hq3 hq4
  refine RK hK92<|aw fun _ hK102=>WS fun _ hK103=>rS (MV rfl)<|cX (mT (aG.mk (ay.mk (aA.mk kA l.au.length kC)) l.bJ (aA.mk cA l.ag.length cC) (aA.mk bA l.aa.length bC) l.aB l.aZ l.aO) (aN.mk r.Start r.dw (aA.mk sgA r.ae.length sgC)) (bE l l.aa.length) (bf l r.ae r.ae.length) a c fb (some ⟨b19,0,none⟩) l.aa.length fs93 bs97 fb94 fA95 fC96 bb98 bA99 bC100 b22 (by exact hwo) (by first|assumption|omega|(simp; done)|(simp; omega)) (by exact bK.symm) (by exact hq1) (by first|assumption|omega|(simp; done)|(simp; omega))) (aF (ak (n:=(bE l l.aa.length).length) 6 rfl (by simp))<|aF (ak (n:=(bf l r.ae r.ae.length).length) 7 rfl (by rw [List.length_zipWith]; omega))<|aF (eo 5 rfl gF)<|aF (ak (n:=fs93.length) 1 rfl (by rw [List.length_zipWith]; omega))<|aF (eo 2 rfl gF)<|aF (ak (n:=bs97.length) 3 rfl (by rw [List.length_zipWith]; omega))<|aF (eo 4 rfl gF)<|ax 0 rfl rfl<|ar) rfl fun y104 hy105=>?_
  obtain ⟨a106,c107⟩:=y104
  try dsimp only
  refine rS (LN rfl jD)<|rS (BI rfl eC)<|RK hK103 ?_
  refine bp rfl (fun h164=>?_) (fun h164=>?_)
  rotate_left 1
  ·replace h164:=DF h164
   refine WK hK102<|WS fun _ hK109=>rS (MV rfl)<|rS (AG rfl)<|rS (AG rfl)<|RK hK109<|aE ?_
   refine hQ _ _ _ (bD (vs:=[(Value.pointer (some ⟨b22,0,none⟩)),(Value.int .i64 0)]) ⟨rfl,rfl,trivial⟩ fun w hs=>fj (true,0,b22,a,c,(some ⟨b19,0,none⟩),l.aa.length,fb,fs93,fb94,fA95,fC96,bs97,bb98,bA99,bC100) [1,7,8,6,2,3,4,5] ?_ ?_ rfl rfl (by first|rfl|(show List.all _ _=true; simp only [cond_true,List.all_cons,List.all_nil,g4,ik,Bool.and_true]; rfl)) hs)
   ·rfl
   ·exact ⟨fun _=>⟨iX h10 hro (by first|rfl|exact h156) (fun q=>h164 (congrArg (fun z:List Int=>((z.length:Nat):Int)) q)),hq1,hq2,hq3,hq4,by dsimp only; omega⟩,fun q=>Bool.noConfusion (show true=false from q)⟩
  replace h164:=DT h164
  refine WS fun _ hK108=>rS (AG rfl)<|rS (AG rfl)<|RK hK108<|aE ?_
  refine hQ _ _ _ (bD (vs:=[(Value.pointer none),(Value.int .i64 8)]) ⟨rfl,rfl,trivial⟩ fun w hs=>fj (false,8,0,none,0,none,0,[],[],[],none,0,[],[],none,0) [] ?_ ?_ rfl rfl (by first|rfl|(show List.all _ _=true; simp only [cond_true,List.all_cons,List.all_nil,g4,ik,Bool.and_true]; rfl)) hs)
  ·rfl
  ·refine ⟨fun q=>Bool.noConfusion (show false=true from q),fun _=>?_⟩; first|(have e:=cY (r:=r) (me:=me) h21; exact ⟨e.symm,fun q=>h21 (e.symm.trans q)⟩)|(have e:=bq (me:=me) h10 (fun q:c7 l r=>by have q1:=q.time; have q2:=q.len; omega); exact ⟨e.symm,fun q=>absurd (e.symm.trans q) (by decide)⟩)|(have e:=bq (me:=me) h10 (eU hx (by unfold dK eb; omega)); exact ⟨e.symm,fun q=>absurd (e.symm.trans q) (by decide)⟩)|(have e:=ew h10 hro h156; exact ⟨e.symm,fun q=>h156 (e.symm.trans q)⟩)|(have e:=cV (me:=me) h10 hro (by first|rfl|exact h156) (show dJ (a6 l r)=[] from List.eq_nil_of_length_eq_zero (Int.natCast_eq_zero.1 h164)); exact ⟨e.symm,fun q=>absurd (e.symm.trans q) (by decide)⟩)
 replace h49:=DT h49
 refine WK hK48<|aw fun _ hK50=>aH<|WS fun _ hK51=>rS (MV rfl) ?_
 obtain ⟨x,hx⟩: ∃ y_,r.ae[i]? =some y_:=⟨r.ae[i]'(by omega),List.getElem?_eq_getElem _⟩
 have hxm:(r.ae.map av.cells)[i]? =some (av.cells x):=by rw [List.getElem?_map,hx]; rfl
 refine rS (IA i rfl (aQ 11 rfl) sH (by decide) (by omega) (by omega))<|rS (kE i 0 (av.cells x) rfl iI (aQ 11 rfl) hxm rfl (by decide) rfl rfl)<|AL rfl qe fun b52=>rS (AG rfl)<|e7 rfl mJ rfl<|RK hK51<|aw fun _ hK53=>WS fun _ hK54=>rS (FA 3 rfl dQ rfl)<|rS (L1 (Value.slice bA l.aa.length bC) 7 rfl hP rfl rfl) ?_
 refine rS (LN rfl jz)<|rS (BI rfl (cr ⟨by omega,by omega⟩))<|rS (FA 0 rfl ei rfl)<|rS (L1 (Value.int .i64 x.cy) 0 rfl bk rfl rfl)<|dV (xs:=[.tmp 95]) (cs:=[(Value.int .i64 x.cy)]) rfl di kb rfl rfl rfl rfl (by simp [Value.cells]) rfl rfl fun b55=>rS (CL (dY.eq (d_ 0 (((l.aa.length:Nat):Int)-1) ([x.cy]) (some ⟨b55,0,none⟩) 1 (by first|assumption|omega|(simp; done)|(simp; omega))) cI) (aF (a4 0 rfl rfl (by simp [bO]) rfl)<|ar) rfl)<|rS (NT rfl)<|rS (MV rfl) ?_
 refine bo (t:=99) rfl (fun h99=>?_) (fun h99=>?_)
 ·replace h99:=XT h99
  refine rS (OX rfl)<|rS (OX rfl)<|rS (OX rfl)<|rS (OX rfl)<|rS (OX rfl)<|rS (PK rfl)<|rS (MV rfl)<|rS (OX rfl)<|rS (OX rfl)<|rS (OX rfl) ?_
  refine rS (OX rfl)<|rS (OX rfl)<|rS (PK rfl)<|rS (MV rfl)<|rS (OX rfl)<|rS (OX rfl)<|rS (OX rfl)<|rS (OX rfl)<|rS (OX rfl)<|rS (OX rfl) ?_
  refine rS (OX rfl)<|rS (OX rfl)<|rS (OX rfl)<|rS (OX rfl)<|rS (OX rfl)<|rS (OX rfl)<|rS (PK rfl)<|RK hK54<|aW rfl<|WS fun _ hK56=>?_
  refine rS (AG rfl)<|rS (AG rfl)<|RK hK56<|aE ?_
  refine hQ _ _ _ (bD (vs:=[(Value.pointer none),(Value.int .i64 51)]) ⟨rfl,rfl,trivial⟩ fun w hs=>fj (false,51,0,none,0,none,0,[],[],[],none,0,[],[],none,0) [] ?_ ?_ rfl rfl (by first|rfl|(show List.all _ _=true; simp only [cond_true,List.all_cons,List.all_nil,g4,ik,Bool.and_true]; rfl)) hs)
  ·rfl
  ·refine ⟨fun q=>Bool.noConfusion (show false=true from q),fun _=>?_⟩; first|(have e:=cY (r:=r) (me:=me) h21; exact ⟨e.symm,fun q=>h21 (e.symm.trans q)⟩)|(have e:=bq (me:=me) h10 (fun q:c7 l r=>by have q1:=q.time; have q2:=q.len; omega); exact ⟨e.symm,fun q=>absurd (e.symm.trans q) (by decide)⟩)|(have e:=bq (me:=me) h10 (eU hx (by unfold dK eb; omega)); exact ⟨e.symm,fun q=>absurd (e.symm.trans q) (by decide)⟩)|(have e:=ew h10 hro h156; exact ⟨e.symm,fun q=>h156 (e.symm.trans q)⟩)|(have e:=cV (me:=me) h10 hro (by first|rfl|exact h156) (show dJ (a6 l r)=[] from List.eq_nil_of_length_eq_zero (Int.natCast_eq_zero.1 h164)); exact ⟨e.symm,fun q=>absurd (e.symm.trans q) (by decide)⟩)
 replace h99:=XF h99
 refine rS (FA 1 rfl hZ rfl)<|rS (L1 (Value.int .i64 x.Read) 1 rfl bk rfl rfl)<|dV (xs:=[.tmp 101]) (cs:=[(Value.int .i64 x.Read)]) rfl di kb rfl rfl rfl rfl (by simp [Value.cells]) rfl rfl fun b57=>rS (CL (dY.eq (d_ 0 86400000 ([x.Read]) (some ⟨b57,0,none⟩) 1 (by first|assumption|omega|(simp; done)|(simp; omega))) cI) (aF (a4 0 rfl rfl (by simp [bO]) rfl)<|ar) rfl)<|rS (NT rfl)<|rS (PK rfl)<|rS (MV rfl) ?_
 refine bo (t:=106) rfl (fun h106=>?_) (fun h106=>?_)
 ·replace h106:=XT h106
  refine rS (OX rfl)<|rS (OX rfl)<|rS (OX rfl)<|rS (OX rfl)<|rS (OX rfl)<|rS (PK rfl)<|rS (MV rfl)<|rS (OX rfl)<|rS (OX rfl)<|rS (OX rfl) ?_
  refine rS (OX rfl)<|rS (OX rfl)<|rS (OX rfl)<|rS (OX rfl)<|rS (OX rfl)<|rS (OX rfl)<|rS (OX rfl)<|rS (OX rfl)<|rS (OX rfl)<|rS (PK rfl) ?_
  refine RK hK54<|aW rfl<|WS fun _ hK58=>rS (AG rfl)<|rS (AG rfl)<|RK hK58<|aE ?_
  refine hQ _ _ _ (bD (vs:=[(Value.pointer none),(Value.int .i64 51)]) ⟨rfl,rfl,trivial⟩ fun w hs=>fj (false,51,0,none,0,none,0,[],[],[],none,0,[],[],none,0) [] ?_ ?_ rfl rfl (by first|rfl|(show List.all _ _=true; simp only [cond_true,List.all_cons,List.all_nil,g4,ik,Bool.and_true]; rfl)) hs)
  ·rfl
  ·refine ⟨fun q=>Bool.noConfusion (show false=true from q),fun _=>?_⟩; first|(have e:=cY (r:=r) (me:=me) h21; exact ⟨e.symm,fun q=>h21 (e.symm.trans q)⟩)|(have e:=bq (me:=me) h10 (fun q:c7 l r=>by have q1:=q.time; have q2:=q.len; omega); exact ⟨e.symm,fun q=>absurd (e.symm.trans q) (by decide)⟩)|(have e:=bq (me:=me) h10 (eU hx (by unfold dK eb; omega)); exact ⟨e.symm,fun q=>absurd (e.symm.trans q) (by decide)⟩)|(have e:=ew h10 hro h156; exact ⟨e.symm,fun q=>h156 (e.symm.trans q)⟩)|(have e:=cV (me:=me) h10 hro (by first|rfl|exact h156) (show dJ (a6 l r)=[] from List.eq_nil_of_length_eq_zero (Int.natCast_eq_zero.1 h164)); exact ⟨e.symm,fun q=>absurd (e.symm.trans q) (by decide)⟩)
 replace h106:=XF h106
 refine rS (FA 0 rfl ei rfl)<|rS (L1 (Value.int .i64 x.cy) 2 rfl bk rfl rfl)<|rS (FA 0 rfl ei rfl)<|rS (L1 (Value.int .i64 ((fO r.ae i).cy)) 7 rfl bk rfl rfl)<|rS (BI rfl cq)<|rS (PK rfl)<|rS (MV rfl) ?_
 refine bo (t:=113) rfl (fun h113=>?_) (fun h113=>?_)
 ·replace h113:=DT h113
  refine rS (OX rfl)<|rS (OX rfl)<|rS (OX rfl)<|rS (OX rfl)<|rS (OX rfl)<|rS (OX rfl)<|rS (OX rfl)<|rS (OX rfl)<|rS (OX rfl)<|rS (OX rfl) ?_
  refine rS (OX rfl)<|rS (OX rfl)<|rS (PK rfl)<|RK hK54<|aW rfl<|WS fun _ hK59=>rS (AG rfl)<|rS (AG rfl)<|RK hK59<|aE ?_
  refine hQ _ _ _ (bD (vs:=[(Value.pointer none),(Value.int .i64 51)]) ⟨rfl,rfl,trivial⟩ fun w hs=>fj (false,51,0,none,0,none,0,[],[],[],none,0,[],[],none,0) [] ?_ ?_ rfl rfl (by first|rfl|(show List.all _ _=true; simp only [cond_true,List.all_cons,List.all_nil,g4,ik,Bool.and_true]; rfl)) hs)
  ·rfl
  ·refine ⟨fun q=>Bool.noConfusion (show false=true from q),fun _=>?_⟩; first|(have e:=cY (r:=r) (me:=me) h21; exact ⟨e.symm,fun q=>h21 (e.symm.trans q)⟩)|(have e:=bq (me:=me) h10 (fun q:c7 l r=>by have q1:=q.time; have q2:=q.len; omega); exact ⟨e.symm,fun q=>absurd (e.symm.trans q) (by decide)⟩)|(have e:=bq (me:=me) h10 (eU hx (by unfold dK eb; omega)); exact ⟨e.symm,fun q=>absurd (e.symm.trans q) (by decide)⟩)|(have e:=ew h10 hro h156; exact ⟨e.symm,fun q=>h156 (e.symm.trans q)⟩)|(have e:=cV (me:=me) h10 hro (by first|rfl|exact h156) (show dJ (a6 l r)=[] from List.eq_nil_of_length_eq_zero (Int.natCast_eq_zero.1 h164)); exact ⟨e.symm,fun q=>absurd (e.symm.trans q) (by decide)⟩)
 replace h113:=DF h113
 refine rS (FA 0 rfl ei rfl)<|rS (L1 (Value.int .i64 x.cy) 2 rfl bk rfl rfl)<|rS (FA 0 rfl ei rfl)<|rS (L1 (Value.int .i64 ((fO r.ae i).cy)) 7 rfl bk rfl rfl)<|rS (BI rfl eC)<|rS (MV rfl) ?_
 refine bo (t:=119) rfl (fun h119=>?_) (fun h119=>?_)
 rotate_left 1
 ·replace h119:=DF h119
  refine rS (OX rfl)<|rS (OX rfl)<|rS (OX rfl)<|rS (OX rfl)<|rS (OX rfl)<|rS (PK rfl)<|rS (PK rfl)<|RK hK54<|bH rfl<|WK hK53 ?_
  refine aw fun _ hK70=>WS fun _ hK71=>rS (LW 9 rfl eP rfl rfl)<|rS (LW 2 rfl iI rfl rfl)<|rS (CL (q4 l kA kC az cA cC bA bC x hin (by first|assumption|omega|(simp; done)|(simp; omega)) (by first|assumption|omega|(simp; done)|(simp; omega))) (ax 10 rfl rfl<|ax 11 rfl rfl<|ax 12 rfl rfl<|ax 13 rfl rfl<|ar) rfl)<|AL rfl dk fun b72=>e7 rfl cv rfl<|RK hK71<|WS fun _ hK73=>rS (FA 0 rfl bP rfl) ?_
  refine rS (L1 (Value.int .i64 ((cp l x).Lo)) 0 rfl bk rfl rfl)<|rS (FA 1 rfl bZ rfl)<|rS (L1 (Value.int .i64 ((cp l x).Hi)) 0 rfl bk rfl rfl)<|rS (BI rfl eT)<|RK hK73 ?_
  refine bp rfl (fun h134=>?_) (fun h134=>?_)
  rotate_left 1
  ·replace h134:=DF h134
   refine WK hK70<|aC<|rS (LW 3 rfl iI rfl rfl)<|EN rfl mJ rfl<|aX<|aL<|KK hK50 ?_
   have hb77:(av.cells x)=(av.cells (fO r.ae (i+1))):=by rw [g0 hx]
   rw [hb77]
   refine aC<|rS (BI rfl (a9 ⟨by omega,by omega⟩))<|rS (MV rfl)<|aX ?_
   rw [show (bf l r.ae i)=(bf l r.ae (i+1)) from (lO hx h134).symm]
   have hb78:(Value.int .i64 (((i+1):Nat):Int))=(Value.int .i64 (((i:Nat):Int)+1)):=by exact congrArg (Value.int .i64) (by omega)
   refine aY (hJ46 ⟨(i+1),⟨by omega,fT hl15_1 hx (by unfold dK eb; omega)⟩⟩ _ _ _ rfl (by first|omega|(simp; omega)) (an.cons rfl<|an.cons rfl<|an.cons rfl<|an.cons rfl<|an.cons rfl<|an.cons rfl<|an.cons rfl<|an.cons rfl<|an.cons rfl<|a_ rfl hb78<|an.nil _) (fun w hs=>St.bB [4,5,6,7,8,9,10,11,12,13,14,15,16,17] rfl rfl hs))
  replace h134:=DT h134
  obtain ⟨mb,hmb⟩: ∃ y_,(bf l r.ae i)[(x.cy).toNat]? =some y_:=⟨(bf l r.ae i)[(x.cy).toNat]'(by omega),List.getElem?_eq_getElem _⟩
  obtain ⟨ga,hga⟩: ∃ y_,fb[(x.cy).toNat]? =some y_:=⟨fb[(x.cy).toNat]'(by omega),List.getElem?_eq_getElem _⟩
  refine sa 4 hmb hga rfl rfl rfl ?_
  try dsimp only
  refine dj ct 10 (by kernel_rfl)<|dS (MV rfl)<|dS (SX (cl rfl rfl) rfl rfl)<|dS (FA 11 rfl lp rfl)<|dS (L1 (Value.slice (some ⟨b19,0,none⟩) l.aa.length l.aa.length) 7 rfl qV rfl rfl)<|dS (FA 0 rfl ei rfl)<|dS (L1 (Value.int .i64 x.cy) 5 rfl bk rfl rfl) ?_
  have hk74:(List.map oC (bX fb l.aa.length))[(x.cy).toNat]? =some (oC (some ga)):=l0 (js hga)
  refine dS (IA ((x.cy).toNat) rfl (ak (n:=l.aa.length) 8 rfl (by first|(simp; done)|(simp; omega))) ql (by decide) (by omega) (by omega))<|dS (ir ((x.cy).toNat) 0 (Value.map (some ga)) rfl sc (ak (n:=(bX fb l.aa.length).length) 8 rfl (by simp)) hk74 rfl (by decide) rfl)<|dS (MV rfl)<|dS (LW 2 rfl cB rfl rfl)<|cE<|g8 (kV:=iV) (x:=((i:Nat):Int)) (C':=[(jr iV ga (bu kr (dz mb ((i:Nat):Int) (cp l x)))),_,_,_,_,_,_,_,_,_,_,_,_,_,_,_,_,_,_]) 0 rfl rfl rfl rfl tr (jo rl) rfl (e9 _ _ _ _).symm rfl<|RK hK70<|aC<|rS (LW 5 rfl iI rfl rfl)<|EO rfl mJ rfl ?_
  refine aX<|aL<|KK hK50 ?_
  have hb75:(av.cells x)=(av.cells (fO r.ae (i+1))):=by rw [g0 hx]
  rw [hb75]
  refine aC<|rS (BI rfl (a9 ⟨by omega,by omega⟩))<|rS (MV rfl)<|aX<|sJ (f:=gJ) (ms:=(bf l r.ae i)) (m:=(dz mb ((i:Nat):Int) (cp l x))) 1 0 (by rw [dO]; omega) hga rfl rfl rfl ?_
  rw [nc hx (by omega) h134 hmb]
  have hb76:(Value.int .i64 (((i+1):Nat):Int))=(Value.int .i64 (((i:Nat):Int)+1)):=by exact congrArg (Value.int .i64) (by omega)
  refine aY (hJ46 ⟨(i+1),⟨by omega,fT hl15_1 hx (by unfold dK eb; omega)⟩⟩ _ _ _ rfl (by first|omega|(simp; omega)) (an.cons rfl<|an.cons rfl<|an.cons rfl<|an.cons rfl<|an.cons rfl<|an.cons rfl<|an.cons rfl<|an.cons rfl<|an.cons rfl<|a_ rfl hb76<|an.nil _) (fun w hs=>St.bB [0,5,6,7,8,9,10,11,12,13,14,15,16,17] rfl rfl hs))
 replace h119:=DT h119
 refine rS (FA 1 rfl hZ rfl)<|rS (L1 (Value.int .i64 x.Read) 2 rfl bk rfl rfl)<|rS (FA 1 rfl hZ rfl)<|rS (L1 (Value.int .i64 ((fO r.ae i).Read)) 7 rfl bk rfl rfl)<|rS (BI rfl eT)<|rS (PK rfl)<|rS (PK rfl)<|RK hK54 ?_
 refine bp rfl (fun h126=>?_) (fun h126=>?_)
 ·replace h126:=DT h126
  refine WS fun _ hK60=>rS (AG rfl)<|rS (AG rfl)<|RK hK60<|aE ?_
  refine hQ _ _ _ (bD (vs:=[(Value.pointer none),(Value.int .i64 51)]) ⟨rfl,rfl,trivial⟩ fun w hs=>fj (false,51,0,none,0,none,0,[],[],[],none,0,[],[],none,0) [] ?_ ?_ rfl rfl (by first|rfl|(show List.all _ _=true; simp only [cond_true,List.all_cons,List.all_nil,g4,ik,Bool.and_true]; rfl)) hs)
  ·rfl
  ·refine ⟨fun q=>Bool.noConfusion (show false=true from q),fun _=>?_⟩; first|(have e:=cY (r:=r) (me:=me) h21; exact ⟨e.symm,fun q=>h21 (e.symm.trans q)⟩)|(have e:=bq (me:=me) h10 (fun q:c7 l r=>by have q1:=q.time; have q2:=q.len; omega); exact ⟨e.symm,fun q=>absurd (e.symm.trans q) (by decide)⟩)|(have e:=bq (me:=me) h10 (eU hx (by unfold dK eb; omega)); exact ⟨e.symm,fun q=>absurd (e.symm.trans q) (by decide)⟩)|(have e:=ew h10 hro h156; exact ⟨e.symm,fun q=>h156 (e.symm.trans q)⟩)|(have e:=cV (me:=me) h10 hro (by first|rfl|exact h156) (show dJ (a6 l r)=[] from List.eq_nil_of_length_eq_zero (Int.natCast_eq_zero.1 h164)); exact ⟨e.symm,fun q=>absurd (e.symm.trans q) (by decide)⟩)
 replace h126:=DF h126
 refine WK hK53<|aw fun _ hK61=>WS fun _ hK62=>rS (LW 9 rfl eP rfl rfl)<|rS (LW 2 rfl iI rfl rfl)<|rS (CL (q4 l kA kC az cA cC bA bC x hin (by first|assumption|omega|(simp; done)|(simp; omega)) (by first|assumption|omega|(simp; done)|(simp; omega))) (ax 10 rfl rfl<|ax 11 rfl rfl<|ax 12 rfl rfl<|ax 13 rfl rfl<|ar) rfl)<|AL rfl dk fun b63=>e7 rfl cv rfl<|RK hK62<|WS fun _ hK64=>?_
 refine rS (FA 0 rfl bP rfl)<|rS (L1 (Value.int .i64 ((cp l x).Lo)) 0 rfl bk rfl rfl)<|rS (FA 1 rfl bZ rfl)<|rS (L1 (Value.int .i64 ((cp l x).Hi)) 0 rfl bk rfl rfl)<|rS (BI rfl eT)<|RK hK64 ?_
 refine bp rfl (fun h134=>?_) (fun h134=>?_)
 rotate_left 1
 ·replace h134:=DF h134
  refine WK hK61<|aC<|rS (LW 3 rfl iI rfl rfl)<|EN rfl mJ rfl<|aX<|aL<|KK hK50 ?_
  have hb68:(av.cells x)=(av.cells (fO r.ae (i+1))):=by rw [g0 hx]
  rw [hb68]
  refine aC<|rS (BI rfl (a9 ⟨by omega,by omega⟩))<|rS (MV rfl)<|aX ?_
  rw [show (bf l r.ae i)=(bf l r.ae (i+1)) from (lO hx h134).symm]
  have hb69:(Value.int .i64 (((i+1):Nat):Int))=(Value.int .i64 (((i:Nat):Int)+1)):=by exact congrArg (Value.int .i64) (by omega)
  refine aY (hJ46 ⟨(i+1),⟨by omega,fT hl15_1 hx (by unfold dK eb; omega)⟩⟩ _ _ _ rfl (by first|omega|(simp; omega)) (an.cons rfl<|an.cons rfl<|an.cons rfl<|an.cons rfl<|an.cons rfl<|an.cons rfl<|an.cons rfl<|an.cons rfl<|an.cons rfl<|a_ rfl hb69<|an.nil _) (fun w hs=>St.bB [4,5,6,7,8,9,10,11,12,13,14,15,16,17] rfl rfl hs))
 replace h134:=DT h134
 obtain ⟨mb,hmb⟩: ∃ y_,(bf l r.ae i)[(x.cy).toNat]? =some y_:=⟨(bf l r.ae i)[(x.cy).toNat]'(by omega),List.getElem?_eq_getElem _⟩
 obtain ⟨ga,hga⟩: ∃ y_,fb[(x.cy).toNat]? =some y_:=⟨fb[(x.cy).toNat]'(by omega),List.getElem?_eq_getElem _⟩
 refine sa 4 hmb hga rfl rfl rfl ?_
 try dsimp only
 refine dj ct 10 (by kernel_rfl)<|dS (MV rfl)<|dS (SX (cl rfl rfl) rfl rfl)<|dS (FA 11 rfl lp rfl)<|dS (L1 (Value.slice (some ⟨b19,0,none⟩) l.aa.length l.aa.length) 7 rfl qV rfl rfl)<|dS (FA 0 rfl ei rfl)<|dS (L1 (Value.int .i64 x.cy) 5 rfl bk rfl rfl) ?_
 have hk65:(List.map oC (bX fb l.aa.length))[(x.cy).toNat]? =some (oC (some ga)):=l0 (js hga)
 refine dS (IA ((x.cy).toNat) rfl (ak (n:=l.aa.length) 8 rfl (by first|(simp; done)|(simp; omega))) ql (by decide) (by omega) (by omega))<|dS (ir ((x.cy).toNat) 0 (Value.map (some ga)) rfl sc (ak (n:=(bX fb l.aa.length).length) 8 rfl (by simp)) hk65 rfl (by decide) rfl)<|dS (MV rfl)<|dS (LW 2 rfl cB rfl rfl)<|cE<|g8 (kV:=iV) (x:=((i:Nat):Int)) (C':=[(jr iV ga (bu kr (dz mb ((i:Nat):Int) (cp l x)))),_,_,_,_,_,_,_,_,_,_,_,_,_,_,_,_,_,_]) 0 rfl rfl rfl rfl tr (jo rl) rfl (e9 _ _ _ _).symm rfl<|RK hK61<|aC<|rS (LW 5 rfl iI rfl rfl)<|EO rfl mJ rfl ?_
 refine aX<|aL<|KK hK50 ?_
 have hb66:(av.cells x)=(av.cells (fO r.ae (i+1))):=by rw [g0 hx]
 rw [hb66]
 refine aC<|rS (BI rfl (a9 ⟨by omega,by omega⟩))<|rS (MV rfl)<|aX<|sJ (f:=gJ) (ms:=(bf l r.ae i)) (m:=(dz mb ((i:Nat):Int) (cp l x))) 1 0 (by rw [dO]; omega) hga rfl rfl rfl ?_
 rw [nc hx (by omega) h134 hmb]
 have hb67:(Value.int .i64 (((i+1):Nat):Int))=(Value.int .i64 (((i:Nat):Int)+1)):=by exact congrArg (Value.int .i64) (by omega)
 refine aY (hJ46 ⟨(i+1),⟨by omega,fT hl15_1 hx (by unfold dK eb; omega)⟩⟩ _ _ _ rfl (by first|omega|(simp; omega)) (an.cons rfl<|an.cons rfl<|an.cons rfl<|an.cons rfl<|an.cons rfl<|an.cons rfl<|an.cons rfl<|an.cons rfl<|an.cons rfl<|a_ rfl hb67<|an.nil _) (fun w hs=>St.bB [0,5,6,7,8,9,10,11,12,13,14,15,16,17] rfl rfl hs))
end
section
open Go.RowKit
set_option linter.unusedVariables false
set_option maxRecDepth 100000 in
set_option maxHeartbeats 400000 in
theorem ld (l:aV) (kA:Option Addr) (kC:Nat) (az:List RA) (cA:Option Addr) (cC:Nat) (bA:Option Addr) (bC:Nat) (r:bj) (sgA:Option Addr) (sgC:Nat) (bq_:Int) (hin:dM l az) (hsl:r.ae.length≤1000000):
 dY Tryz.prog 15 [(Value.agg (aG.cells (aG.mk (ay.mk (aA.mk kA l.au.length kC)) l.bJ (aA.mk cA l.ag.length cC) (aA.mk bA l.aa.length bC) l.aB l.aZ l.aO)).toArray),(Value.agg (aN.cells (aN.mk r.Start r.dw (aA.mk sgA r.ae.length sgC))).toArray),(Value.int .i64 bq_)] [(rd kA l.au.length 9 (l.au.map ah.cells)),(rd cA l.ag.length 2 (List.zipWith ao.cells l.ag az)),(c_ (aP ao.eX l.ag az)),(rd bA l.aa.length 4 (l.aa.map aT.cells)),(rd sgA r.ae.length 2 (r.ae.map av.cells))] (Value.tuple [(Value.agg (ab.cells (bR l r bq_)).toArray),(Value.int .i64 (cS l r bq_))].toArray):=by
 have htk:=hin.o0
 have hck:=hin.oZ
 have has:=hin.oG
 have hbm:=hin.oI
 have hsd:=hin.side
 refine bG F5 Tryz.func15 rfl rfl fun w0 Q hQ hN=>?_
 try dsimp only
 refine WS fun _ hK1=>gv rfl fun b2=>gv rfl fun b3=>vY rfl rfl fun b4=>AL rfl dk fun b5=>rS (AG rfl)<|RK hK1<|WS fun _ hK6=>rS (LW 3 rfl eP rfl rfl)<|rS (LW 2 rfl gE rfl rfl) ?_
 refine rS (FU rfl)<|dV (xs:=[.tmp 17]) (cs:=[(Value.func (.func 38) [].toArray [(Value.pointer (some ⟨b2,0,none⟩)),(Value.pointer (some ⟨b4,0,none⟩))].toArray)]) rfl Be Gt rfl rfl rfl rfl (by simp [Value.cells]) rfl rfl fun b7=>cX (AH l kA kC az cA cC bA bC r sgA sgC (Value.func (.func 38) [].toArray [(Value.pointer (some ⟨b2,0,none⟩)),(Value.pointer (some ⟨b4,0,none⟩))].toArray) (c_ [(rd kA l.au.length 9 (l.au.map ah.cells)),(rd cA l.ag.length 2 (List.zipWith ao.cells l.ag az)),(c_ (aP ao.eX l.ag az)),(rd bA l.aa.length 4 (l.aa.map aT.cells)),(aU b2 28 (aG.cells (aG.mk (ay.mk (aA.mk kA l.au.length kC)) l.bJ (aA.mk cA l.ag.length cC) (aA.mk bA l.aa.length bC) l.aB l.aZ l.aO))),(aU b4 3 [(Value.int .i64 bq_)])]) (fI l bq_) b7 (by exact mg (fi:=[]) (ca:=[(Value.pointer (some ⟨b2,0,none⟩)),(Value.pointer (some ⟨b4,0,none⟩))]) (lk (uY l kA kC az cA cC bA bC b2 bq_ b4 (by first|assumption|omega)) (ax 0 rfl rfl<|ax 1 rfl rfl<|ax 2 rfl rfl<|ax 3 rfl rfl<|ax 4 rfl rfl<|ax 5 rfl rfl<|ar))) hin hsl) (ax 5 rfl rfl<|ax 6 rfl rfl<|ax 7 rfl rfl<|ax 8 rfl rfl<|ax 9 rfl rfl<|aF (lN (ax 5 rfl rfl<|ax 6 rfl rfl<|ax 7 rfl rfl<|ax 8 rfl rfl<|ax 4 rfl rfl<|ax 2 rfl rfl<|ar))<|ax 0 rfl rfl<|ar) rfl fun y8 hy9=>?_
 obtain ⟨ok25,ec10,gw11,eA12,eC13,tA14,tC15,tb16,fs17,fb18,fA19,fC20,bs21,bb22,qA23,qC24⟩:=y8
 cases ok25
 ·obtain ⟨hec,he⟩:=hy9.2 rfl
  try dsimp only at hec he
  subst hec
  try dsimp only [cond_true,cond_false,List.cons_append,List.nil_append]
  refine rS (MV rfl)<|rS (EX rfl)<|rS (EX rfl)<|rS (AG rfl)<|rS (AG rfl)<|RK hK6<|aw fun _ hK26=>WS fun _ hK27=>rS (MV rfl)<|rS (BI rfl eB) ?_
  refine RK hK27 ?_
  refine bp rfl (fun h23=>?_) (fun h23=>?_)
  rotate_left 1
  ·replace h23:=XF h23
   exact absurd h23 he
  replace h23:=XT h23
  refine WS fun _ hK28=>rS (SX (aS (xs:=[]) (cs:=(ab.cells (ab.mk 0 0))) rfl rfl (aR fG rfl)) rfl rfl)<|rS (MV rfl)<|oL rfl cv rfl<|rS (AG rfl)<|RK hK28<|aE ?_
  refine hQ _ _ _ (bD (vs:=[(Value.agg (ab.cells (ab.mk 0 0)).toArray),(Value.int .i64 (cD l r (fI l bq_)))]) ⟨⟨_,rfl,.inl ⟨_,_,cB,cd (vs:=(ab.cells (ab.mk 0 0))) 1 rfl rfl,rfl,rfl⟩⟩,rfl,trivial⟩ fun w hs=>eR ?_ hs)
  show (Value.tuple [(Value.agg (ab.cells (ab.mk 0 0)).toArray),(Value.int .i64 (cD l r (fI l bq_)))].toArray)=(Value.tuple [(Value.agg (ab.cells (bR l r bq_)).toArray),(Value.int .i64 (cS l r bq_))].toArray)
  clear hs w hQ hN hK28 hK27 hK26 hK6 hK1
  first|(have e:=gW (b:=bq_) he; rw [e.1,e.2]<;>rfl)|(rw [hbq] at he ⊢; have hh:h=j0 l r b:=o8 (hfw.min _ _ hm1) (hbw.max _ _ hm2) (hfw.keys _ _ hm1) (hbw.keys _ _ hm2) hr1 hfin hr0; first|(have e:=iA he (hh.symm.trans h50); rw [e.1,e.2]<;>rfl)|(have e:=fr he (fun q=>h50 (hh.trans q)); rw [e.1,e.2,hh]<;>rfl))
 obtain ⟨he,hfw,hbw,hfl,hbl,htl⟩:=hy9.1 rfl
 try dsimp only [cond_true,cond_false,List.cons_append,List.nil_append]
 dsimp only at hfw hbw hfl hbl htl
 obtain ⟨h10,hro,hme,hnn⟩:=fF he
 obtain ⟨htr,hok⟩:=dD h10
 have hhd:=hok.head
 unfold cU at hhd
 have hwo:=iK htr hok hro
 have hrt:=hro.time
 have hrl:=hro.len
 have hlel:(bE l l.aa.length).length=l.aa.length:=bK
 have htll:(bf l r.ae r.ae.length).length=l.aa.length:=dO
 have hfn:fs17.length=l.aa.length+1:=by have:=hfw.len; rw [show (a6 l r).n=l.aa.length from bK] at this; exact this
 have hbn:bs21.length=l.aa.length+1:=by have:=hbw.len; rw [show (a6 l r).n=l.aa.length from bK] at this; exact this
 obtain ⟨hb0,hb1⟩:=vn hme
 obtain ⟨b,hbq⟩: ∃ b:Nat,bq_=((b:Nat):Int):=⟨bq_.toNat,by omega⟩
 rw [hbq]
 refine rS (MV rfl)<|rS (EX rfl)<|rS (EX rfl)<|rS (AG rfl)<|rS (AG rfl)<|RK hK6<|aw fun _ hK29=>WS fun _ hK30=>rS (MV rfl)<|rS (SX (gn (r:= .bool false) rfl rfl rfl eB) rfl rfl) ?_
 refine RK hK30<|bH rfl<|WK hK29<|WS fun _ hK31=>rS (SX (aS (xs:=[(0,.const (Value.int .i64 1))]) (cs:=(ab.cells (ab.mk 1 0))) rfl rfl (aR fG rfl)) rfl rfl)<|AL rfl dk fun b32=>e7 rfl cv rfl<|RK hK31<|WS fun _ hK33=>rS (LW 0 rfl cB rfl rfl) ?_
 refine AL rfl dk fun b34=>e7 rfl cv rfl<|RK hK33<|aw fun _ hK35=>WS fun _ hK36=>rS (MV rfl)<|rS (jc 12 rfl bk rfl) ?_
 obtain ⟨mf,hm1⟩: ∃ y_,fs17[b]? =some y_:=⟨fs17[b]'(by omega),List.getElem?_eq_getElem _⟩
 obtain ⟨mb,hm2⟩: ∃ y_,bs21[b+1]? =some y_:=⟨bs21[b+1]'(by omega),List.getElem?_eq_getElem _⟩
 refine cX (qq gw11 b) (ar) rfl fun y37 hy38=>?_
 obtain ⟨x139,x240⟩:=y37
 try dsimp only
 refine RK hK36<|aH ?_
 refine kT (L0:=[(3,(Value.pointer (some ⟨b2,0,none⟩))),(4,(Value.pointer (some ⟨b3,0,none⟩))),(5,(Value.pointer (some ⟨b4,0,none⟩))),(6,(Value.pointer (some ⟨b5,0,none⟩))),(7,(Value.int .i64 0)),(10,(Value.pointer (some ⟨b32,0,none⟩))),(11,(Value.pointer (some ⟨b34,0,none⟩)))]) (F:=[(own eA12 eC13 3 1 ((bE l l.aa.length).map iC)),(own tA14 tC15 120 1 (List.zipWith cb (bf l r.ae r.ae.length) tb16)),(bw (aP gJ (bf l r.ae r.ae.length) tb16)),(own fA19 fC20 122 1 (List.zipWith cb fs17 fb18)),(bw (aP e8 fs17 fb18)),(own qA23 qC24 122 1 (List.zipWith cb bs21 bb22)),(bw (aP e8 bs21 bb22)),(aU gw11 117 (aK.cells (aK.mk (aG.mk (ay.mk (aA.mk kA l.au.length kC)) l.bJ (aA.mk cA l.ag.length cC) (aA.mk bA l.aa.length bC) l.aB l.aZ l.aO) (aN.mk r.Start r.dw (aA.mk sgA r.ae.length sgC)) (aA.mk eA12 ((bE l l.aa.length).length) eC13) (aA.mk tA14 ((bf l r.ae r.ae.length).length) tC15) (aA.mk fA19 fs17.length fC20) (aA.mk qA23 bs21.length qC24)))),(aU x139 77 [(Value.pointer (some ⟨gw11,0,none⟩))]),(aU x240 3 [(Value.int .i64 ((b:Nat):Int))])]) (fun k (y:ab)=>(jA k y)∧(∀ q∈k,q∈jE (a6 l r) b mf mb)) (fun k y=>[(aU b34 47 (ab.cells y)),(aU b32 47 (ab.cells (ab.mk 1 0))),(aU b5 47 (ab.cells (ab.mk 0 0))),(aU b4 3 [(Value.int .i64 ((b:Nat):Int))]),(aU b3 31 (aN.cells (aN.mk r.Start r.dw (aA.mk sgA r.ae.length sgC)))),(aU b2 28 (aG.cells (aG.mk (ay.mk (aA.mk kA l.au.length kC)) l.bJ (aA.mk cA l.ag.length cC) (aA.mk bA l.aa.length bC) l.aB l.aZ l.aO))),(rd kA l.au.length 9 (l.au.map ah.cells)).ro,(rd cA l.ag.length 2 (List.zipWith ao.cells l.ag az)).ro,(c_ (aP ao.eX l.ag az)).ro,(rd bA l.aa.length 4 (l.aa.map aT.cells)).ro,(rd sgA r.ae.length 2 (r.ae.map av.cells)).ro]) (fun _ (_:Unit)=>False) (fun _ _=>[]) [2,3,13,14,15,16,17,18,19,20,21] [5,6,7,8,9,10,11,4,0,1] gT rfl rfl (o4 (aG.mk (ay.mk (aA.mk kA l.au.length kC)) l.bJ (aA.mk cA l.ag.length cC) (aA.mk bA l.aa.length bC) l.aB l.aZ l.aO) (aN.mk r.Start r.dw (aA.mk sgA r.ae.length sgC)) (bE l l.aa.length) (bf l r.ae r.ae.length) eA12 eC13 tb16 tA14 tC15 fs17 bs21 fb18 fA19 fC20 bb22 qA23 qC24 gw11 b x139 x240 mf mb (by rw [hlel]; omega) (by exact hwo) (by rw [htll]; omega) (by exact hfw) (by omega) (by exact hbw) (by omega) (by show r.ae.length≤1000; omega) (by exact hm1) (by exact hm2)) rfl rfl rfl (by exact ⟨ud,fun q hq=>by cases hq⟩) (by simp only [List.forall_mem_cons,List.not_mem_nil,false_imp_iff,implies_true,and_true]; exact ⟨⟨_,List.mem_of_getElem? (i:=0) rfl,(er (by simp))⟩,⟨_,List.mem_of_getElem? (i:=1) rfl,(er (by rw [List.length_zipWith]; omega))⟩,⟨_,List.mem_of_getElem? (i:=2) rfl,gZ⟩,⟨_,List.mem_of_getElem? (i:=3) rfl,(er (by rw [List.length_zipWith]; omega))⟩,⟨_,List.mem_of_getElem? (i:=4) rfl,gZ⟩,⟨_,List.mem_of_getElem? (i:=5) rfl,(er (by rw [List.length_zipWith]; omega))⟩,⟨_,List.mem_of_getElem? (i:=6) rfl,gZ⟩,⟨_,List.mem_of_getElem? (i:=7) rfl,(cT _)⟩,⟨_,List.mem_of_getElem? (i:=8) rfl,(cT _)⟩,⟨_,List.mem_of_getElem? (i:=9) rfl,(cT _)⟩⟩) (by rintro k x k2 ⟨o,_,rfl,_⟩; rfl) rfl (an.cons rfl<|an.cons rfl<|an.cons rfl<|an.cons rfl<|an.cons rfl<|an.cons rfl<|an.cons rfl<|an.nil _) ?_ ?_ (fun _ _ _ h=>h.elim) (fun _ _ h=>h.elim)
 ·rintro k x k2 h lr ra rb S w1 K41 Qr42 hsz hx hin43 hK41 hQr42 xQr42 yQr42
  obtain ⟨q,hq,rfl,rfl⟩:=hx
  obtain ⟨hr0,hr1⟩:=hin43
  try dsimp only
  refine aC<|AL rfl dk fun b44=>e7 rfl cv rfl<|aX<|iz (fun _ _ h=>h) (fun w hs=>St.bB [1,0,2,3,4,5,6,7,8,9,10,11,12] rfl rfl hs) ?_
  refine aY (hK41 _ _ ?_)
  refine aH<|aw fun _ hK45=>WS fun _ hK46=>rS (LW 2 rfl cB rfl rfl)<|rS (LW 3 rfl cB rfl rfl)<|rS (BI rfl (Dw _ _ h (ab.mk 1 0)))<|RK hK46 ?_
  refine bp rfl (fun h35=>?_) (fun h35=>?_)
  rotate_left 1
  ·replace h35:=XF h35
   refine WK hK45<|aC<|rS (LW 1 rfl cB rfl rfl)<|sL rfl cv rfl<|aX<|aL ?_
   exact hQr42 q.2 _ _ (by refine ⟨rU hr0 (g9 hq) ?_,fun z hz=>?_⟩; (first|exact if_neg h35|exact if_pos h35); (rcases List.mem_append.1 hz with hz|hz; exact hr1 z hz; (rw [List.mem_singleton.1 hz]; exact hq))) (fun w hs=>St.bB [0,2,3,4,5,6,7,8,9,10,11,12] rfl rfl hs)
  replace h35:=XT h35
  refine aC<|rS (FA 0 rfl bP rfl)<|rS (L1 (Value.int .i64 q.2.Lo) 1 rfl bk rfl rfl)<|rS (FA 0 rfl bP rfl)<|rS (L1 (Value.int .i64 h.Lo) 2 rfl bk rfl rfl)<|rS (MN rfl)<|rS (FA 1 rfl bZ rfl)<|rS (L1 (Value.int .i64 q.2.Hi) 1 rfl bk rfl rfl)<|rS (FA 1 rfl bZ rfl)<|rS (L1 (Value.int .i64 h.Hi) 2 rfl bk rfl rfl) ?_
  refine rS (MX rfl)<|rS (SX (aS (xs:=[(0,.tmp 40),(1,.tmp 45)]) (cs:=(ab.cells (ab.mk (min q.2.Lo h.Lo) (max q.2.Hi h.Hi)))) rfl rfl (aR fG rfl)) rfl rfl)<|oL rfl cv rfl<|RK hK45<|aC<|rS (LW 1 rfl cB rfl rfl)<|sL rfl cv rfl<|aX<|aL ?_
  exact hQr42 (ab.mk (min q.2.Lo h.Lo) (max q.2.Hi h.Hi)) _ _ (by refine ⟨rU hr0 (g9 hq) ?_,fun z hz=>?_⟩; (first|exact if_neg h35|exact if_pos h35); (rcases List.mem_append.1 hz with hz|hz; exact hr1 z hz; (rw [List.mem_singleton.1 hz]; exact hq))) (fun w hs=>St.bB [0,2,3,4,5,6,7,8,9,10,11,12] rfl rfl hs)
 rintro r47 k h hfin hin48
 obtain ⟨hr0,hr1⟩:=hin48
 try dsimp only
 refine aL<|KK hK35<|aw fun _ hK49=>WS fun _ hK50=>rS (LW 11 rfl cB rfl rfl)<|rS (LW 12 rfl cB rfl rfl)<|rS (BI rfl (rX _ _ h (ab.mk 1 0)))<|RK hK50 ?_
 refine bp rfl (fun h50=>?_) (fun h50=>?_)
 rotate_left 1
 ·replace h50:=DF h50
  refine WK hK49<|WS fun _ hK52=>rS (LW 11 rfl cB rfl rfl)<|nU (vs:=(ab.cells h)) (cs':=(ab.cells h)) (C':=[_,_,_,_,_,_,_,_,_,_,_,_,_,(aU b5 47 (ab.cells h)),_,_,_,_,_,_,_,_]) 13 rfl rfl rfl cv rfl rfl rfl rfl rfl rfl rfl<|rS (AG rfl)<|RK hK52<|aE ?_
  refine hQ _ _ _ (o2 0 rfl rfl<|bD (vs:=[(Value.agg (ab.cells h).toArray),(Value.int .i64 0)]) ⟨⟨_,rfl,.inl ⟨_,_,cB,cd (vs:=(ab.cells h)) 13 rfl rfl,rfl,rfl⟩⟩,rfl,trivial⟩ fun w hs=>eR ?_ hs)
  show (Value.tuple [(Value.agg (ab.cells h).toArray),(Value.int .i64 0)].toArray)=(Value.tuple [(Value.agg (ab.cells (bR l r bq_)).toArray),(Value.int .i64 (cS l r bq_))].toArray)
  clear hs w hQ hN hK52 hK50 hK49 hK36 hK35 hK33 hK31 hK30 hK29 hK6 hK1
  first|(have e:=gW (b:=bq_) he; rw [e.1,e.2]<;>rfl)|(rw [hbq] at he ⊢; have hh:h=j0 l r b:=o8 (hfw.min _ _ hm1) (hbw.max _ _ hm2) (hfw.keys _ _ hm1) (hbw.keys _ _ hm2) hr1 hfin hr0; first|(have e:=iA he (hh.symm.trans h50); rw [e.1,e.2]<;>rfl)|(have e:=fr he (fun q=>h50 (hh.trans q)); rw [e.1,e.2,hh]<;>rfl))
 replace h50:=DT h50
 refine WS fun _ hK51=>rS (SX (aS (xs:=[]) (cs:=(ab.cells (ab.mk 0 0))) rfl rfl (aR fG rfl)) rfl rfl)<|nU (vs:=(ab.cells (ab.mk 0 0))) (cs':=(ab.cells (ab.mk 0 0))) (C':=[_,_,_,_,_,_,_,_,_,_,_,_,_,(aU b5 47 (ab.cells (ab.mk 0 0))),_,_,_,_,_,_,_,_]) 13 rfl rfl rfl cv rfl rfl rfl rfl rfl rfl rfl<|rS (AG rfl)<|RK hK51<|aE ?_
 refine hQ _ _ _ (o2 0 rfl rfl<|bD (vs:=[(Value.agg (ab.cells (ab.mk 0 0)).toArray),(Value.int .i64 6)]) ⟨⟨_,rfl,.inl ⟨_,_,cB,cd (vs:=(ab.cells (ab.mk 0 0))) 13 rfl rfl,rfl,rfl⟩⟩,rfl,trivial⟩ fun w hs=>eR ?_ hs)
 show (Value.tuple [(Value.agg (ab.cells (ab.mk 0 0)).toArray),(Value.int .i64 6)].toArray)=(Value.tuple [(Value.agg (ab.cells (bR l r bq_)).toArray),(Value.int .i64 (cS l r bq_))].toArray)
 clear hs w hQ hN hK51 hK50 hK49 hK36 hK35 hK33 hK31 hK30 hK29 hK6 hK1
 first|(have e:=gW (b:=bq_) he; rw [e.1,e.2]<;>rfl)|(rw [hbq] at he ⊢; have hh:h=j0 l r b:=o8 (hfw.min _ _ hm1) (hbw.max _ _ hm2) (hfw.keys _ _ hm1) (hbw.keys _ _ hm2) hr1 hfin hr0; first|(have e:=iA he (hh.symm.trans h50); rw [e.1,e.2]<;>rfl)|(have e:=fr he (fun q=>h50 (hh.trans q)); rw [e.1,e.2,hh]<;>rfl))
set_option maxRecDepth 100000 in
set_option maxHeartbeats 400000 in
theorem ux (l:aV) (kA:Option Addr) (kC:Nat) (az:List RA) (cA:Option Addr) (cC:Nat) (bA:Option Addr) (bC:Nat) (r:bj) (sgA:Option Addr) (sgC:Nat) (hin:dM l az) (hsl:r.ae.length≤1000000):
 dY Tryz.prog 17 [(Value.agg (aG.cells (aG.mk (ay.mk (aA.mk kA l.au.length kC)) l.bJ (aA.mk cA l.ag.length cC) (aA.mk bA l.aa.length bC) l.aB l.aZ l.aO)).toArray),(Value.agg (aN.cells (aN.mk r.Start r.dw (aA.mk sgA r.ae.length sgC))).toArray)] [(rd kA l.au.length 9 (l.au.map ah.cells)),(rd cA l.ag.length 2 (List.zipWith ao.cells l.ag az)),(c_ (aP ao.eX l.ag az)),(rd bA l.aa.length 4 (l.aa.map aT.cells)),(rd sgA r.ae.length 2 (r.ae.map av.cells))] (Value.tuple [(Value.agg (ab.cells (l6 l r)).toArray),(Value.int .i64 (cS l r l.aB))].toArray):=by
 have htk:=hin.o0
 have hck:=hin.oZ
 have has:=hin.oG
 have hbm:=hin.oI
 have hsd:=hin.side
 refine bG E6 Tryz.func17 rfl rfl fun w0 Q hQ hN=>?_
 try dsimp only
 refine WS fun _ hK1=>gv rfl fun b2=>gv rfl fun b3=>AL rfl dk fun b4=>rS (AG rfl)<|RK hK1<|WS fun _ hK5=>rS (LW 2 rfl eP rfl rfl)<|rS (LW 1 rfl gE rfl rfl)<|rS (FA 4 rfl fV rfl) ?_
 refine rS (L1 (Value.int .i64 l.aB) 2 rfl bk rfl rfl)<|rS (CL (ld l kA kC az cA cC bA bC r sgA sgC l.aB hin hsl) (ax 3 rfl rfl<|ax 4 rfl rfl<|ax 5 rfl rfl<|ax 6 rfl rfl<|ax 7 rfl rfl<|ar) rfl)<|rS (MV rfl)<|rS (EX rfl)<|rS (EX rfl)<|AL rfl dk fun b6=>e7 rfl cv rfl<|rS (AG rfl)<|RK hK5<|aw fun _ hK7=>?_
 refine WS fun _ hK8=>rS (MV rfl)<|rS (BI rfl eB)<|RK hK8 ?_
 refine bp rfl (fun h17=>?_) (fun h17=>?_)
 ·replace h17:=XT h17
  refine WS fun _ hK9=>rS (SX (aS (xs:=[]) (cs:=(ab.cells (ab.mk 0 0))) rfl rfl (aR fG rfl)) rfl rfl)<|rS (MV rfl)<|oL rfl cv rfl<|rS (AG rfl)<|RK hK9<|aE ?_
  refine hQ _ _ _ (bD (vs:=[(Value.agg (ab.cells (ab.mk 0 0)).toArray),(Value.int .i64 (cS l r l.aB))]) ⟨⟨_,rfl,.inl ⟨_,_,cB,cd (vs:=(ab.cells (ab.mk 0 0))) 1 rfl rfl,rfl,rfl⟩⟩,rfl,trivial⟩ fun w hs=>eR ?_ hs)
  show (Value.tuple [(Value.agg (ab.cells (ab.mk 0 0)).toArray),(Value.int .i64 (cS l r l.aB))].toArray)=(Value.tuple [(Value.agg (ab.cells (l6 l r)).toArray),(Value.int .i64 (cS l r l.aB))].toArray)
  clear hs w hQ hN hK9 hK8 hK7 hK5 hK1
  first|(rw [yT h17]<;>rfl)|(rw [sh h17,h17]<;>rfl)
 replace h17:=XF h17
 refine WK hK7<|WS fun _ hK10=>rS (FA 0 rfl bP rfl)<|rS (L1 (Value.int .i64 ((bR l r l.aB).Lo)) 0 rfl bk rfl rfl)<|rS (FA 0 rfl fH rfl)<|rS (L1 (Value.int .i64 r.Start) 2 rfl bk rfl rfl) ?_
 have hpb:=zc h17
 have hpr:=(tG h17).time
 refine rS (BI rfl (cr ⟨by omega,by omega⟩))<|rS (FA 1 rfl bZ rfl)<|rS (L1 (Value.int .i64 ((bR l r l.aB).Hi)) 0 rfl bk rfl rfl)<|rS (FA 0 rfl fH rfl)<|rS (L1 (Value.int .i64 r.Start) 2 rfl bk rfl rfl)<|rS (BI rfl (cr ⟨by omega,by omega⟩))<|rS (SX (aS (xs:=[(0,.tmp 24),(1,.tmp 29)]) (cs:=(ab.cells (ab.mk (((bR l r l.aB).Lo)-r.Start) (((bR l r l.aB).Hi)-r.Start)))) rfl rfl (aR fG rfl)) rfl rfl)<|oL rfl cv rfl<|rS (AG rfl)<|RK hK10 ?_
 refine aE ?_
 refine hQ _ _ _ (bD (vs:=[(Value.agg (ab.cells (ab.mk (((bR l r l.aB).Lo)-r.Start) (((bR l r l.aB).Hi)-r.Start))).toArray),(Value.int .i64 0)]) ⟨⟨_,rfl,.inl ⟨_,_,cB,cd (vs:=(ab.cells (ab.mk (((bR l r l.aB).Lo)-r.Start) (((bR l r l.aB).Hi)-r.Start)))) 1 rfl rfl,rfl,rfl⟩⟩,rfl,trivial⟩ fun w hs=>eR ?_ hs)
 show (Value.tuple [(Value.agg (ab.cells (ab.mk (((bR l r l.aB).Lo)-r.Start) (((bR l r l.aB).Hi)-r.Start))).toArray),(Value.int .i64 0)].toArray)=(Value.tuple [(Value.agg (ab.cells (l6 l r)).toArray),(Value.int .i64 (cS l r l.aB))].toArray)
 clear hs w hQ hN hK10 hK8 hK7 hK5 hK1
 first|(rw [yT h17]<;>rfl)|(rw [sh h17,h17]<;>rfl)
end
section
open Go.RowKit
set_option linter.unusedVariables false
section
variable {K:Type} [DecidableEq K] {kV:K→Value}
variable {E:eu} {ops:Array Oper} {Q:cZ} {rest:List Oper} {D:List Deferred} {L:List (Nat×Value)} {C:List aD}
variable {ty:TypeId} {ps:String} {af:Array Edge} {g:Option (Nat×Bool)}
theorem uL {t kt et:TypeId} {xm xk:Operand} {ts:Array TypeId} {b:Nat} {x:K} {m m':List (K×Value)} {C':List aD} (i:Nat) (hg:iD ops L g=true) (hm:ev L xm=some (.map (some b))) (hk:ev L xk=some (kV x)) (hts:ts[0]? =some t)
 (ht:E.P.underlying t=some (.map kt et)) (hkt:qX E.P kt kV) (hC:C[i]? =some (jr kV b m)) (hm':cL m x=m') (hC':C.set i (jr kV b m')=C') (k:RJ E ops Q rest D L C'):
 RJ E ops Q (⟨none,.call {callee:= .builtin .delete,args:= #[xm,xk],argTypes:=ts},ty,ps,af,g⟩::rest) D L C:=by
 subst hm' hC'
 intro a w hfr hs
 unfold nQ
 rw [if_pos (dg hfr hg)]
 obtain ⟨es,c,he,hi⟩:=hs.holds _ (List.mem_of_getElem? hC)
 have hget:(getObj b).run E.P w= .ok (.map es c) w:=MapKept.run_getObj_map he
 rcases m_ (P:=E.P) (w:=w) (x:=x) hkt hi with ⟨h1,h2⟩|⟨j,v0,h1,h2,h3⟩
 ·refine fz (v:= .tuple #[]) (w':={w with heap:=w.heap.setIfInBounds b (.map es c)}) (by simp) ?_ ?_
  ·simp [execOp,resolve,invoke,builtin,hfr.ev hm,hfr.ev hk,Builtin.delete_,hts,run_underlying ht,hget,gY hkt,h1,MapKept.run_setObj_map _ he]
  ·refine k _ _ ⟨hfr.defers,hfr.size,hfr.at_⟩ (hs.uG (b:=b) i hC rfl rfl (jS _) (fun _ h=>h) ⟨_,_,lg he,?_⟩)
   rw [vq h2]; exact hi
 ·refine fz (v:= .tuple #[]) (w':={w with heap:=w.heap.setIfInBounds b (.map (es.eraseIdxIfInBounds j) c)}) (by simp) ?_ ?_
  ·simp [execOp,resolve,invoke,builtin,hfr.ev hm,hfr.ev hk,Builtin.delete_,hts,run_underlying ht,hget,gY hkt,h1,MapKept.run_setObj_map _ he]
  ·exact k _ _ ⟨hfr.defers,hfr.size,hfr.at_⟩ (hs.uG (b:=b) i hC rfl rfl (jS _) (fun _ h=>h) ⟨_,_,lg he,hi.del h2⟩)
end
end
section
open Go.RowKit
set_option linter.unusedVariables false
set_option maxRecDepth 100000 in
set_option maxHeartbeats 400000 in
theorem AF (x:Int):
 dY Tryz.prog 129 [(Value.int .i64 x)] [] (Value.bool false):=by
 refine bG Es Tryz.func129 rfl rfl fun w0 Q hQ hN=>?_
 try dsimp only
 refine WS fun _ hK1=>rS (AG rfl)<|RK hK1<|WS fun _ hK2=>rS (MV rfl)<|rS (MV rfl)<|rS (BI rfl eB)<|rS (AG rfl)<|RK hK2<|aE ?_
 refine Q1 hQ rfl rfl rfl ?_
 simp
set_option maxRecDepth 100000 in
set_option maxHeartbeats 400000 in
theorem AI (x:Int) (y:Int):
 dY Tryz.prog 99 [(Value.int .i64 x),(Value.int .i64 y)] [] (Value.bool (decide (x<y))):=by
 refine bG Gv Tryz.func99 rfl rfl fun w0 Q hQ hN=>?_
 try dsimp only
 refine WS fun _ hK1=>rS (AG rfl)<|RK hK1<|WS fun _ hK2=>rS (MV rfl)<|rS (CL (AF x) (ar) rfl)<|rS (MV rfl)<|rS (OX rfl)<|rS (OX rfl)<|rS (OX rfl) ?_
 refine rS (PK rfl)<|rS (MV rfl)<|rS (MV rfl)<|rS (MV rfl)<|rS (BI rfl cq)<|rS (PK rfl)<|rS (AG rfl)<|RK hK2<|aE<|Q1 hQ rfl rfl rfl ?_
 exact congrArg Value.bool (decide_eq_decide.2 (by omega))
set_option maxRecDepth 100000 in
set_option maxHeartbeats 400000 in
theorem wP (l:List Int) (lA:Option Addr) (lC:Nat) (hlen:l.length≤1000000):
 CT Tryz.prog 93 [(Value.slice lA l.length lC),(Value.int .i64 0),(Value.int .i64 ((l.length:Nat):Int))] [] (own lA lC 3 1 (l.map iC)) (fun (x:(List Int))=>(Value.tuple [].toArray)) (fun (x:(List Int))=>x.Perm l∧x.Pairwise (· ≤ ·)) (fun (x:(List Int))=>(own lA lC 3 1 (x.map iC))):=by
 refine sT GU Tryz.func93 rfl rfl fun w0 Q hQ hN=>?_
 try dsimp only
 refine WS fun _ hK1=>rS (MV rfl)<|rS (SX (gn (r:= .int .i64 1) rfl rfl rfl (a9 ⟨by decide,by decide⟩)) rfl rfl)<|rS (AG rfl)<|RK hK1<|aH ?_
 have hinit:(1≤1∧(1≤l.length∨1=1))∧(l.length=l.length)∧(l.Perm l)∧(BT l 1):=by exact ⟨by omega,rfl,List.Perm.refl _,z3⟩
 refine cP (ι:={z:Nat×(List Int) // (1≤z.1∧(z.1≤l.length∨z.1=1))∧(z.2.length=l.length)∧(z.2.Perm l)∧(BT z.2 z.1)}) (fun z=>[(0,(Value.slice lA l.length lC)),(1,(Value.int .i64 0)),(2,(Value.int .i64 ((l.length:Nat):Int))),(6,(Value.int .i64 (z.1.1:Int)))]) (fun z=>[(own lA lC 3 1 (z.1.2.map iC))]) (fun z=>l.length-z.1.1) ⟨(1,l),hinit⟩ (an.cons rfl<|an.cons rfl<|an.cons rfl<|an.cons rfl<|an.nil _) (fun w hs=>St.bB [0] rfl rfl hs) ?_
 clear hinit
 rintro ⟨⟨i,m⟩,⟨hl1_0,hl1_1,hl1_2,hl1_3⟩⟩ J2 hJ2
 try dsimp only at hl1_0 hl1_1 hl1_2 hl1_3
 try dsimp only
 refine aw fun _ hK3=>WS fun _ hK4=>rS (MV rfl)<|rS (MV rfl)<|rS (BI rfl cq)<|RK hK4 ?_
 refine bp rfl (fun h5=>?_) (fun h5=>?_)
 rotate_left 1
 ·replace h5:=DF h5
  refine bM<|ai<|ai<|aI ?_
  refine hN _ _ _ (bD (vs:=[]) trivial fun w hs=>z6 m 0 ?_ ?_ rfl rfl hs)
  ·clear hs w hQ hN hK4 hK3 hK1; rfl
  ·clear hs w hQ hN hK4 hK3 hK1; exact ⟨hl1_2,Ap hl1_3 (by omega)⟩
 replace h5:=DT h5
 refine WK hK3<|aw fun _ hK6=>aH<|WS fun _ hK7=>rS (MV rfl)<|rS (AG rfl)<|RK hK7<|aH ?_
 have hinit:(i≤i)∧(m.length=l.length)∧(m.Perm l)∧(Cn m i i):=by exact ⟨Nat.le_refl _,hl1_1,hl1_2,wZ hl1_3 (by omega)⟩
 refine cP (ι:={z:Nat×(List Int) // (z.1≤i)∧(z.2.length=l.length)∧(z.2.Perm l)∧(Cn z.2 i z.1)}) (fun z=>[(0,(Value.slice lA l.length lC)),(1,(Value.int .i64 0)),(2,(Value.int .i64 ((l.length:Nat):Int))),(6,(Value.int .i64 (i:Int))),(7,(Value.int .i64 ((z.1.1:Nat):Int)))]) (fun z=>[(own lA lC 3 1 (z.1.2.map iC))]) (fun z=>z.1.1) ⟨(i,m),hinit⟩ (an.cons rfl<|an.cons rfl<|an.cons rfl<|an.cons rfl<|an.cons rfl<|an.nil _) (fun w hs=>St.bB [0] rfl rfl hs) ?_
 clear hinit
 rintro ⟨⟨j,q⟩,⟨hl4_0,hl4_1,hl4_2,hl4_3⟩⟩ J8 hJ8
 try dsimp only at hl4_0 hl4_1 hl4_2 hl4_3
 try dsimp only
 refine aw fun _ hK9=>aw fun _ hK10=>dj ct 15 (by kernel_rfl)<|dS (MV rfl)<|dS (MV rfl)<|dS (BI rfl eL)<|dS (MV rfl) ?_
 refine db (t:=19) rfl (fun hj=>?_) (fun hj=>?_)
 rotate_left 1
 ·replace hj:=DF hj
  refine dS (OX rfl)<|dS (OX rfl)<|dS (OX rfl)<|dS (OX rfl)<|dS (OX rfl)<|dS (OX rfl)<|dS (OX rfl)<|dS (OX rfl)<|dS (OX rfl)<|dS (OX rfl) ?_
  refine dS (PK rfl)<|cE<|RK hK10<|bH rfl<|bM<|ai<|ai<|aI<|aL<|KK hK6 ?_
  refine aC<|rS (MV rfl)<|rS (BI rfl (a9 ⟨by omega,by omega⟩))<|rS (AG rfl)<|aX ?_
  refine aY (hJ2 ⟨((i+1),q),⟨by omega,hl4_1,hl4_2,by first|exact tR (by omega) hl4_3|exact tq hx hy (by omega) hl4_0 hless hl4_3⟩⟩ _ _ _ rfl (by simp only []; omega) (an.cons rfl<|an.cons rfl<|an.cons rfl<|an.cons rfl<|an.nil _) (fun w hs=>St.bB [0] rfl rfl hs))
 replace hj:=DT hj
 refine dS (MV rfl)<|dS (MV rfl) ?_
 obtain ⟨x,hx⟩: ∃ y_,q[j]? =some y_:=⟨q[j]'(by omega),List.getElem?_eq_getElem _⟩
 have hxm:(q.map iC)[j]? =some (iC x):=by rw [List.getElem?_map,hx]; rfl
 refine dS (IA j rfl (ak (n:=l.length) 0 rfl (by first|(simp; done)|(simp; omega))) di (by decide) (by omega) (by omega))<|dS (ir j 0 (Value.int .i64 x) rfl bk (ak (n:=q.length) 0 rfl (by simp)) hxm rfl (by decide) rfl)<|dS (MV rfl)<|dS (MV rfl)<|dS (BI rfl (cr ⟨by omega,by omega⟩)) ?_
 obtain ⟨y,hy⟩: ∃ y_,q[(j-1)]? =some y_:=⟨q[(j-1)]'(by omega),List.getElem?_eq_getElem _⟩
 have hym:(q.map iC)[(j-1)]? =some (iC y):=by rw [List.getElem?_map,hy]; rfl
 refine dS (IA (j-1) rfl (ak (n:=l.length) 0 rfl (by first|(simp; done)|(simp; omega))) di (by decide) (by omega) (by omega))<|dS (ir (j-1) 0 (Value.int .i64 y) rfl bk (ak (n:=q.length) 0 rfl (by simp)) hym rfl (by decide) rfl)<|dS (CL (AI x y) (ar) rfl)<|dS (PK rfl)<|cE<|RK hK10 ?_
 refine bp rfl (fun hless=>?_) (fun hless=>?_)
 rotate_left 1
 ·replace hless:=DF hless
  refine bM<|ai<|ai<|aI<|aL<|KK hK6<|aC<|rS (MV rfl)<|rS (BI rfl (a9 ⟨by omega,by omega⟩))<|rS (AG rfl) ?_
  refine aX ?_
  refine aY (hJ2 ⟨((i+1),q),⟨by omega,hl4_1,hl4_2,by first|exact tR (by omega) hl4_3|exact tq hx hy (by omega) hl4_0 hless hl4_3⟩⟩ _ _ _ rfl (by simp only []; omega) (an.cons rfl<|an.cons rfl<|an.cons rfl<|an.cons rfl<|an.nil _) (fun w hs=>St.bB [0] rfl rfl hs))
 replace hless:=DT hless
 refine WK hK9<|aw fun _ hK11=>aH<|dA ct [0,1,2,3,4,5,6,7,8,9,10,11,12,13,14] [15,16,17] [false,false,false,false,false,false,false,false,true,true,false,false,true,true,true] [false,false,false] [] [(own lA lC 3 1 (q.map iC))] (by kernel_rfl) (fun w hs=>St.bB [] rfl rfl hs) (fun w hs=>St.bB [0] rfl rfl hs)<|eS rfl (MV rfl)<|eS rfl (MV rfl)<|eS rfl (MV rfl)<|eS rfl (MV rfl)<|eS rfl (BI rfl (cr ⟨by omega,by omega⟩))<|eS rfl (MV rfl) ?_
 refine eS rfl (MV rfl)<|eS rfl (BI rfl (cr ⟨by omega,by omega⟩))<|fS rfl (IA (j-1) rfl (ak (n:=l.length) 0 rfl (by first|(simp; done)|(simp; omega))) di (by decide) (by omega) (by omega))<|fS rfl (ir (j-1) 0 (Value.int .i64 y) rfl bk (ak (n:=q.length) 0 rfl (by simp)) hym rfl (by decide) rfl)<|eS rfl (MV rfl)<|eS rfl (MV rfl)<|fS rfl (IA j rfl (ak (n:=l.length) 0 rfl (by first|(simp; done)|(simp; omega))) di (by decide) (by omega) (by omega))<|fS rfl (ir j 0 (Value.int .i64 x) rfl bk (ak (n:=q.length) 0 rfl (by simp)) hxm rfl (by decide) rfl)<|fS rfl (IA j rfl (ak (n:=l.length) 0 rfl (by first|(simp; done)|(simp; omega))) di (by decide) (by omega) (by omega))<|eJ rfl ?_
 refine cf rfl fun T12 hT12=>dy (k:=j) (o:=0) (vs:=[(Value.int .i64 y)]) (es':=(List.map iC (q.set j y))) (C':=[(own lA lC 3 1 (List.map iC (q.set j y)))]) 0 rfl rfl rfl uQ rfl rfl rfl rfl hxm rfl (by decide) (by exact (List.map_set (f:=iC) (l:=q) (i:=j) (a:=y)).symm) rfl<|RN hT12 [] rfl rfl<|cf rfl fun T13 hT13=>?_
 obtain ⟨x14,hx15⟩: ∃ y_,(q.set j y)[(j-1)]? =some y_:=⟨(q.set j y)[(j-1)]'(by first|omega|(simp; omega)),List.getElem?_eq_getElem _⟩
 have hx15m:(List.map iC (q.set j y))[(j-1)]? =some (iC x14):=by rw [List.getElem?_map,hx15]; rfl
 refine rS (IA (j-1) rfl (ak (n:=l.length) 0 rfl (by first|(simp; done)|(simp; omega))) di (by decide) (by omega) (by omega))<|RN hT13 [] rfl rfl<|cf rfl fun T16 hT16=>dy (k:=(j-1)) (o:=0) (vs:=[(Value.int .i64 x)]) (es':=(List.map iC ((q.set j y).set (j-1) x))) (C':=[(own lA lC 3 1 (List.map iC ((q.set j y).set (j-1) x)))]) 0 rfl rfl rfl uQ rfl rfl rfl rfl hx15m rfl (by decide) (by exact (List.map_set (f:=iC) (l:=(q.set j y)) (i:=(j-1)) (a:=x)).symm) rfl<|RN hT16 [] rfl rfl<|fJ rfl<|aL<|KK hK11<|aC<|rS (MV rfl) ?_
 refine rS (BI rfl (cr ⟨by omega,by omega⟩))<|rS (AG rfl)<|aX ?_
 have hb17:(Value.int .i64 (((j-1):Nat):Int))=(Value.int .i64 (((j:Nat):Int)-1)):=by exact congrArg (Value.int .i64) (by omega)
 refine aY (hJ8 ⟨((j-1),((q.set j y).set (j-1) x)),⟨by omega,by simp; exact hl4_1,(xy hx hy).trans hl4_2,yi hx hy (by omega) hl4_0 hless hl4_3⟩⟩ _ _ _ rfl (by simp only []; omega) (an.cons rfl<|an.cons rfl<|an.cons rfl<|an.cons rfl<|a_ rfl hb17<|an.nil _) (fun w hs=>St.bB [0] rfl rfl hs))
set_option maxRecDepth 100000 in
set_option maxHeartbeats 400000 in
theorem Az (x:Int) (hx:0≤x∧x≤100):
 rM Tryz.prog 103 [(Value.int .u64 x)] [] (fun (x:Int)=>(Value.int .i64 x)) (fun (x:Int)=>True) (fun (x:Int)=>[]):=by
 refine gX D4 Tryz.func103 rfl rfl fun w0 Q hQ hN=>?_
 try dsimp only
 refine WS fun _ hK1=>rS (AG rfl)<|RK hK1<|aw fun _ hK2=>WS fun _ hK3=>rS (MV rfl)<|rS (BI rfl il)<|RK hK3 ?_
 refine bp rfl (fun h4=>?_) (fun h4=>?_)
 ·replace h4:=DT h4
  exfalso; omega
 replace h4:=DF h4
 refine WK hK2<|aw fun _ hK5=>WS fun _ hK6=>rS (MV rfl)<|rS (BI rfl il)<|RK hK6 ?_
 refine bp rfl (fun h7=>?_) (fun h7=>?_)
 ·replace h7:=DT h7
  exfalso; omega
 replace h7:=DF h7
 refine WK hK5<|aw fun _ hK8=>WS fun _ hK9=>rS (MV rfl)<|rS (BI rfl il)<|RK hK9 ?_
 refine bp rfl (fun h10=>?_) (fun h10=>?_)
 ·replace h10:=DT h10
  exfalso; omega
 replace h10:=DF h10
 refine WK hK8<|WS fun _ hK11=>rS (MV rfl)<|rS (MV rfl)<|rS (SX (nW (m:=x) rfl rfl Ew EP (te (by first|assumption|omega))) rfl rfl)<|BY (k:=(x).toNat) rfl rfl rfl Hb (by omega) (Nat.lt_of_lt_of_le (m:=200) (by omega) (of_decide_eq_true (by kernel_rfl))) rfl fun b12 hb13=>rS (SX (nW (m:=b12) rfl rfl EP rl (pA (by first|assumption|omega))) rfl rfl)<|rS (BI rfl (a9 ⟨by omega,by omega⟩))<|rS (AG rfl)<|RK hK11 ?_
 refine aE ?_
 refine hQ _ _ _ (bD (vs:=[(Value.int .i64 (0+b12))]) ⟨rfl,trivial⟩ fun w hs=>fj (0+b12) [] ?_ ?_ rfl rfl rfl hs)
 ·rfl
 ·trivial
set_option maxRecDepth 100000 in
set_option maxHeartbeats 400000 in
theorem Cj (x:Int) (hx:0≤x∧x≤100):
 rM Tryz.prog 74 [(Value.int .u64 x)] [] (fun (x:Int)=>(Value.int .i64 x)) (fun (x:Int)=>True) (fun (x:Int)=>[]):=by
 refine gX FB Tryz.func74 rfl rfl fun w0 Q hQ hN=>?_
 try dsimp only
 refine WS fun _ hK1=>rS (AG rfl)<|RK hK1<|aw fun _ hK2=>bH rfl<|WK hK2<|WS fun _ hK3=>rS (MV rfl)<|cX (Az x hx) (ar) rfl fun n6 hy5=>?_
 try dsimp only
 refine rS (AG rfl)<|RK hK3<|aE ?_
 refine hQ _ _ _ (bD (vs:=[(Value.int .i64 n6)]) ⟨rfl,trivial⟩ fun w hs=>fj n6 [] ?_ ?_ rfl rfl rfl hs)
 ·rfl
 ·trivial
set_option maxRecDepth 100000 in
set_option maxHeartbeats 400000 in
theorem C7 (l:List Int) (lA:Option Addr) (lC:Nat) (u:Int) (hlen:l.length≤12):
 CT Tryz.prog 73 [(Value.slice lA l.length lC),(Value.int .i64 0),(Value.int .i64 ((l.length:Nat):Int)),(Value.int .i64 u)] [] (own lA lC 3 1 (l.map iC)) (fun (x:(List Int))=>(Value.tuple [].toArray)) (fun (x:(List Int))=>x.Perm l∧x.Pairwise (· ≤ ·)) (fun (x:(List Int))=>(own lA lC 3 1 (x.map iC))):=by
 refine sT Gd Tryz.func73 rfl rfl fun w0 Q hQ hN=>?_
 try dsimp only
 refine WS fun _ hK1=>rS (AG rfl)<|RK hK1<|WS fun _ hK2=>rS (AG rfl)<|RK hK2<|aH<|oe 1<|jK fun R3 hR3=>aH ?_
 refine WS fun _ hK4=>rS (MV rfl)<|rS (MV rfl)<|rS (BI rfl (cr ⟨by omega,by omega⟩))<|rS (AG rfl)<|RK hK4<|aw fun _ hK5=>WS fun _ hK6=>rS (MV rfl)<|rS (BI rfl eT) ?_
 refine RK hK6 ?_
 refine bp rfl (fun h7=>?_) (fun h7=>?_)
 rotate_left 1
 ·replace h7:=DF h7
  exfalso; omega
 replace h7:=DT h7
 refine WS fun _ hK8=>rS (MV rfl)<|rS (MV rfl)<|rS (MV rfl) ?_
 refine oB 0 rfl rfl rfl rfl (wP l lA lC (by first|assumption|omega|(simp; done)|(simp; omega))) rfl qI rfl (fun m9 hy11=>?_)
 try dsimp only
 refine RK hK8<|aE ?_
 refine hQ _ _ _ (bD (vs:=[]) trivial fun w hs=>z6 m9 0 ?_ ?_ rfl rfl hs)
 ·clear hs w hQ hN hK8 hK6 hK5 hK4 hK2 hK1; rfl
 ·clear hs w hQ hN hK8 hK6 hK5 hK4 hK2 hK1; assumption
set_option maxRecDepth 100000 in
set_option maxHeartbeats 400000 in
theorem BZ (l:List Int) (lA:Option Addr) (lC:Nat) (hlen:l.length≤12):
 CT Tryz.prog 45 [(Value.slice lA l.length lC)] [] (own lA lC 3 1 (l.map iC)) (fun (x:(List Int))=>(Value.tuple [].toArray)) (fun (x:(List Int))=>x.Perm l∧x.Pairwise (· ≤ ·)) (fun (x:(List Int))=>(own lA lC 3 1 (x.map iC))):=by
 refine sT GB Tryz.func45 rfl rfl fun w0 Q hQ hN=>?_
 try dsimp only
 refine WS fun _ hK1=>rS (MV rfl)<|rS (LN rfl jD)<|rS (AG rfl)<|RK hK1<|aC<|rS (MV rfl)<|rS (MV rfl)<|rS (MV rfl)<|rS (SX (nW (m:=((l.length:Nat):Int)) rfl rfl rl DI (sO (by first|assumption|omega))) rfl rfl) ?_
 refine cX (Cj ((l.length:Nat):Int) (by first|assumption|omega|(simp; done)|(simp; omega))) (ar) rfl fun n4 hy3=>?_
 try dsimp only
 refine oB 0 rfl rfl rfl rfl (C7 l lA lC n4 hlen) rfl qI rfl (fun m5 hy7=>?_)
 try dsimp only
 refine aX ?_
 refine hN _ _ _ (bD (vs:=[]) trivial fun w hs=>z6 m5 0 ?_ ?_ rfl rfl hs)
 ·clear hs w hQ hN hK1; rfl
 ·clear hs w hQ hN hK1; assumption
end
section
open Go.RowKit
set_option linter.unusedVariables false
set_option maxRecDepth 100000 in
set_option maxHeartbeats 400000 in
theorem Av (l:aV) (kA:Option Addr) (kC:Nat) (az:List RA) (cA:Option Addr) (cC:Nat) (bA:Option Addr) (bC:Nat) (r:bj) (sgA:Option Addr) (sgC:Nat) (hin:dM l az) (hsl:r.ae.length≤1000000):
 rM Tryz.prog 19 [(Value.agg (aG.cells (aG.mk (ay.mk (aA.mk kA l.au.length kC)) l.bJ (aA.mk cA l.ag.length cC) (aA.mk bA l.aa.length bC) l.aB l.aZ l.aO)).toArray),(Value.agg (aN.cells (aN.mk r.Start r.dw (aA.mk sgA r.ae.length sgC))).toArray)] [(rd kA l.au.length 9 (l.au.map ah.cells)),(rd cA l.ag.length 2 (List.zipWith ao.cells l.ag az)),(c_ (aP ao.eX l.ag az)),(rd bA l.aa.length 4 (l.aa.map aT.cells)),(rd sgA r.ae.length 2 (r.ae.map av.cells))] (fun (x:(Option Addr)×Nat)=>(Value.tuple [(Value.slice x.1 ((eN l r).length) x.2),(Value.int .i64 (cD l r 0))].toArray)) (fun (x:(Option Addr)×Nat)=>True) (fun (x:(Option Addr)×Nat)=>[(own x.1 x.2 3 1 ((eN l r).map iC))]):=by
 have htk:=hin.o0
 have hck:=hin.oZ
 have has:=hin.oG
 have hbm:=hin.oI
 have hsd:=hin.side
 refine gX GH Tryz.func19 rfl rfl fun w0 Q hQ hN=>?_
 try dsimp only
 refine WS fun _ hK1=>gv rfl fun b2=>gv rfl fun b3=>rS (AG rfl)<|rS (AG rfl)<|RK hK1<|WS fun _ hK4=>rS (LW 1 rfl eP rfl rfl)<|rS (LW 0 rfl gE rfl rfl)<|cX (sK l kA kC az cA cC bA bC r sgA sgC hin hsl) (ax 2 rfl rfl<|ax 3 rfl rfl<|ax 4 rfl rfl<|ax 5 rfl rfl<|ax 6 rfl rfl<|ar) rfl fun y5 hy6=>?_
 obtain ⟨ok22,ec7,gw8,eA9,eC10,tA11,tC12,tb13,fs14,fb15,fA16,fC17,bs18,bb19,qA20,qC21⟩:=y5
 cases ok22
 ·obtain ⟨hec,he⟩:=hy6.2 rfl
  try dsimp only at hec he
  subst hec
  try dsimp only [cond_true,cond_false,List.cons_append,List.nil_append]
  refine rS (MV rfl)<|rS (EX rfl)<|rS (EX rfl)<|rS (AG rfl)<|rS (AG rfl)<|RK hK4<|aw fun _ hK23=>WS fun _ hK24=>rS (MV rfl)<|rS (BI rfl eB) ?_
  refine RK hK24 ?_
  refine bp rfl (fun h21=>?_) (fun h21=>?_)
  rotate_left 1
  ·replace h21:=XF h21
   exact absurd h21 he
  replace h21:=XT h21
  refine WS fun _ hK25=>oS 3 1 ?_
  rw [show (own none 0 3 1 ([]:List (List Value)))=own none 0 3 1 ((eN l r).map iC) from by rw [mP he]; rfl]
  refine rS (MV rfl)<|rS (AG rfl)<|rS (AG rfl)<|RK hK25<|aE ?_
  refine hQ _ _ _ (bD (vs:=[(Value.slice none 0 0),(Value.int .i64 (cD l r 0))]) ⟨rfl,rfl,trivial⟩ fun w hs=>fj (none,0) [0] ?_ ?_ rfl rfl rfl hs)
  ·first|(rw [mP he]; rfl)|(rw [he,show (eN l r).length=ys.length from by rw [← hsf]; exact hso.1.length_eq]; rfl)
  ·trivial
 obtain ⟨he,hfw,hbw,hfl,hbl,htl⟩:=hy6.1 rfl
 try dsimp only [cond_true,cond_false,List.cons_append,List.nil_append]
 dsimp only at hfw hbw hfl hbl htl
 obtain ⟨h10,hro,hme,hnn⟩:=fF he
 obtain ⟨htr,hok⟩:=dD h10
 have hhd:=hok.head
 unfold cU at hhd
 have hwo:=iK htr hok hro
 have hrt:=hro.time
 have hrl:=hro.len
 have hlel:(bE l l.aa.length).length=l.aa.length:=bK
 have htll:(bf l r.ae r.ae.length).length=l.aa.length:=dO
 have hfn:fs14.length=l.aa.length+1:=by have:=hfw.len; rw [show (a6 l r).n=l.aa.length from bK] at this; exact this
 have hbn:bs18.length=l.aa.length+1:=by have:=hbw.len; rw [show (a6 l r).n=l.aa.length from bK] at this; exact this
 refine rS (MV rfl)<|rS (EX rfl)<|rS (EX rfl)<|rS (AG rfl)<|rS (AG rfl)<|RK hK4<|aw fun _ hK26=>WS fun _ hK27=>rS (MV rfl)<|rS (SX (gn (r:= .bool false) rfl rfl rfl eB) rfl rfl) ?_
 refine RK hK27<|bH rfl<|WK hK26<|WS fun _ hK28=>k3 (kV:=iV) rfl rfl fun b29=>?_
 try dsimp only
 refine AL rfl F_ fun b30=>zH rfl GG rfl rfl<|RK hK28<|aw fun _ hK31=>WS fun _ hK32=>rS (FA 2 rfl hH rfl)<|rS (L1 (Value.slice sgA r.ae.length sgC) 10 rfl nK rfl rfl)<|rS (LN rfl sE)<|rS (MV rfl)<|RK hK32 ?_
 refine aH ?_
 have hinit:(0≤r.ae.length):=by exact Nat.zero_le _
 refine cP (ι:={z:Nat // (z≤r.ae.length)}) (fun z=>[(2,(Value.pointer (some ⟨b2,0,none⟩))),(3,(Value.pointer (some ⟨b3,0,none⟩))),(6,(Value.pointer (some ⟨gw8,0,none⟩))),(8,(Value.pointer (some ⟨b30,0,none⟩))),(26,(Value.int .i64 ((r.ae.length:Nat):Int))),(27,(Value.int .i64 ((z.1:Nat):Int)))]) (fun z=>[(aU b30 95 [(Value.map (some b29))]),(jr iV b29 (bu Value.bool (hO z.1))),(aU gw8 117 (aK.cells (aK.mk (aG.mk (ay.mk (aA.mk kA l.au.length kC)) l.bJ (aA.mk cA l.ag.length cC) (aA.mk bA l.aa.length bC) l.aB l.aZ l.aO) (aN.mk r.Start r.dw (aA.mk sgA r.ae.length sgC)) (aA.mk eA9 ((bE l l.aa.length).length) eC10) (aA.mk tA11 ((bf l r.ae r.ae.length).length) tC12) (aA.mk fA16 fs14.length fC17) (aA.mk qA20 bs18.length qC21)))),(own eA9 eC10 3 1 ((bE l l.aa.length).map iC)),(own tA11 tC12 120 1 (List.zipWith cb (bf l r.ae r.ae.length) tb13)),(bw (aP gJ (bf l r.ae r.ae.length) tb13)),(own fA16 fC17 122 1 (List.zipWith cb fs14 fb15)),(bw (aP e8 fs14 fb15)),(own qA20 qC21 122 1 (List.zipWith cb bs18 bb19)),(bw (aP e8 bs18 bb19)),(aU b3 31 (aN.cells (aN.mk r.Start r.dw (aA.mk sgA r.ae.length sgC)))),(aU b2 28 (aG.cells (aG.mk (ay.mk (aA.mk kA l.au.length kC)) l.bJ (aA.mk cA l.ag.length cC) (aA.mk bA l.aa.length bC) l.aB l.aZ l.aO))),(rd kA l.au.length 9 (l.au.map ah.cells)).ro,(rd cA l.ag.length 2 (List.zipWith ao.cells l.ag az)).ro,(c_ (aP ao.eX l.ag az)).ro,(rd bA l.aa.length 4 (l.aa.map aT.cells)).ro,(rd sgA r.ae.length 2 (r.ae.map av.cells)).ro]) (fun z=>r.ae.length-z.1) ⟨0,hinit⟩ (an.cons rfl<|an.cons rfl<|an.cons rfl<|an.cons rfl<|an.cons rfl<|an.cons rfl<|an.nil _) (fun w hs=>St.bB [0,1,2,3,4,5,6,7,8,9,10,11,12,13,14,15,16] rfl rfl hs) ?_
 clear hinit
 rintro ⟨i,hl6_0⟩ J33 hJ33
 try dsimp only
 refine WS fun _ hK34=>rS (BI rfl cq)<|RK hK34<|aw fun _ hK35=>?_
 refine bp rfl (fun h36=>?_) (fun h36=>?_)
 ·replace h36:=DT h36
  refine WK hK35<|aw fun _ hK37=>aH<|WS fun _ hK38=>rS (MV rfl)<|rS (AG rfl)<|RK hK38<|aC<|rS (jc 0 rfl Ae rfl)<|rS (MV rfl) ?_
  have hb39:(dz (hO i) ((i:Nat):Int) true)=(hO (i+1)):=by exact ua
  refine g8 (kV:=iV) (x:=((i:Nat):Int)) (C':=[_,(jr iV b29 (bu Value.bool (hO (i+1)))),_,_,_,_,_,_,_,_,_,_,_,_,_,_,_]) 1 rfl rfl rfl rfl CA (jo rl) rfl ((e9 _ _ _ _).symm.trans (congrArg _ hb39)) rfl<|aX<|aL<|KK hK37<|aC<|rS (BI rfl (a9 ⟨by omega,by omega⟩))<|rS (MV rfl)<|aX ?_
  have hb40:(Value.int .i64 (((i+1):Nat):Int))=(Value.int .i64 (((i:Nat):Int)+1)):=by exact congrArg (Value.int .i64) (by omega)
  refine aY (hJ33 ⟨(i+1),(by first|omega|(simp only []; omega))⟩ _ _ _ rfl (by first|omega|(simp; omega)) (an.cons rfl<|an.cons rfl<|an.cons rfl<|an.cons rfl<|an.cons rfl<|a_ rfl hb40<|an.nil _) (fun w hs=>St.bB [0,1,2,3,4,5,6,7,8,9,10,11,12,13,14,15,16] rfl rfl hs))
 replace h36:=DF h36
 refine bM<|ai<|ai<|aI<|KK hK31<|aw fun _ hK41=>WS fun _ hK42=>rS (FA 3 rfl dQ rfl)<|rS (L1 (Value.slice bA l.aa.length bC) 11 rfl hP rfl rfl)<|rS (LN rfl jz) ?_
 refine rS (MV rfl)<|RK hK42<|aH ?_
 rw [show hO i=hO r.ae.length from by rw [show i=r.ae.length by omega]]
 refine pq ?_
 have hinit:(0≤l.aa.length)∧(kF r.ae.length (hO r.ae.length) (j5 (a6 l r) 0)):=by exact ⟨Nat.zero_le _,mn vg fun i=>⟨False.elim,fun q=>(xg q).elim⟩⟩
 refine mZ (ι:={z:Nat×BM×(List Nat) // (z.1≤l.aa.length)∧(kF r.ae.length z.2.1 (j5 (a6 l r) z.1))}) (fun z=>z.1.2.2.map iG) (fun z=>[(2,(Value.pointer (some ⟨b2,0,none⟩))),(3,(Value.pointer (some ⟨b3,0,none⟩))),(6,(Value.pointer (some ⟨gw8,0,none⟩))),(8,(Value.pointer (some ⟨b30,0,none⟩))),(35,(Value.int .i64 ((l.aa.length:Nat):Int))),(36,(Value.int .i64 ((z.1.1:Nat):Int)))]) (fun z=>[(bw (z.1.2.2.map fu)),(aU b30 95 [(Value.map (some b29))]),(jr iV b29 (bu Value.bool z.1.2.1)),(aU gw8 117 (aK.cells (aK.mk (aG.mk (ay.mk (aA.mk kA l.au.length kC)) l.bJ (aA.mk cA l.ag.length cC) (aA.mk bA l.aa.length bC) l.aB l.aZ l.aO) (aN.mk r.Start r.dw (aA.mk sgA r.ae.length sgC)) (aA.mk eA9 ((bE l l.aa.length).length) eC10) (aA.mk tA11 ((bf l r.ae r.ae.length).length) tC12) (aA.mk fA16 fs14.length fC17) (aA.mk qA20 bs18.length qC21)))),(own eA9 eC10 3 1 ((bE l l.aa.length).map iC)),(own tA11 tC12 120 1 (List.zipWith cb (bf l r.ae r.ae.length) tb13)),(bw (aP gJ (bf l r.ae r.ae.length) tb13)),(own fA16 fC17 122 1 (List.zipWith cb fs14 fb15)),(bw (aP e8 fs14 fb15)),(own qA20 qC21 122 1 (List.zipWith cb bs18 bb19)),(bw (aP e8 bs18 bb19)),(aU b3 31 (aN.cells (aN.mk r.Start r.dw (aA.mk sgA r.ae.length sgC)))),(aU b2 28 (aG.cells (aG.mk (ay.mk (aA.mk kA l.au.length kC)) l.bJ (aA.mk cA l.ag.length cC) (aA.mk bA l.aa.length bC) l.aB l.aZ l.aO))),(rd kA l.au.length 9 (l.au.map ah.cells)).ro,(rd cA l.ag.length 2 (List.zipWith ao.cells l.ag az)).ro,(c_ (aP ao.eX l.ag az)).ro,(rd bA l.aa.length 4 (l.aa.map aT.cells)).ro,(rd sgA r.ae.length 2 (r.ae.map av.cells)).ro]) (fun z=>l.aa.length-z.1.1) ⟨(0,(hO r.ae.length),([]:List Nat)),hinit⟩ rfl (an.cons rfl<|an.cons rfl<|an.cons rfl<|an.cons rfl<|an.cons rfl<|an.cons rfl<|an.nil _) (fun w hs=>St.bB [0,1,2,3,4,5,6,7,8,9,10,11,12,13,14,15,16,17] rfl rfl hs) ?_
 clear hinit
 rintro ⟨⟨b,m,rs11⟩,⟨hl11_0,hl11_1⟩⟩ J43 hJ43
 try dsimp only at hl11_0 hl11_1
 try dsimp only
 refine WS fun _ hK44=>rS (BI rfl cq)<|RK hK44<|aw fun _ hK45=>?_
 refine bp rfl (fun h46=>?_) (fun h46=>?_)
 ·replace h46:=DT h46
  refine WK hK45<|aw fun _ hK47=>aH<|WS fun _ hK48=>rS (MV rfl)<|rS (AG rfl)<|RK hK48<|WS fun _ hK49=>rS (MV rfl)<|rS (MV rfl) ?_
  obtain ⟨mf,hm1⟩: ∃ y_,fs14[b]? =some y_:=⟨fs14[b]'(by omega),List.getElem?_eq_getElem _⟩
  obtain ⟨mb,hm2⟩: ∃ y_,bs18[b+1]? =some y_:=⟨bs18[b+1]'(by omega),List.getElem?_eq_getElem _⟩
  refine cX (qq gw8 b) (ar) rfl fun y50 hy51=>?_
  obtain ⟨x152,x253⟩:=y50
  try dsimp only
  refine RK hK49<|aH ?_
  refine kT (L0:=[(2,(Value.pointer (some ⟨b2,0,none⟩))),(3,(Value.pointer (some ⟨b3,0,none⟩))),(6,(Value.pointer (some ⟨gw8,0,none⟩))),(8,(Value.pointer (some ⟨b30,0,none⟩))),(10,(Value.int .i64 ((b:Nat):Int))),(35,(Value.int .i64 ((l.aa.length:Nat):Int))),(36,(Value.int .i64 ((b:Nat):Int)))]) (F:=[(own eA9 eC10 3 1 ((bE l l.aa.length).map iC)),(own tA11 tC12 120 1 (List.zipWith cb (bf l r.ae r.ae.length) tb13)),(bw (aP gJ (bf l r.ae r.ae.length) tb13)),(own fA16 fC17 122 1 (List.zipWith cb fs14 fb15)),(bw (aP e8 fs14 fb15)),(own qA20 qC21 122 1 (List.zipWith cb bs18 bb19)),(bw (aP e8 bs18 bb19)),(aU gw8 117 (aK.cells (aK.mk (aG.mk (ay.mk (aA.mk kA l.au.length kC)) l.bJ (aA.mk cA l.ag.length cC) (aA.mk bA l.aa.length bC) l.aB l.aZ l.aO) (aN.mk r.Start r.dw (aA.mk sgA r.ae.length sgC)) (aA.mk eA9 ((bE l l.aa.length).length) eC10) (aA.mk tA11 ((bf l r.ae r.ae.length).length) tC12) (aA.mk fA16 fs14.length fC17) (aA.mk qA20 bs18.length qC21)))),(aU x152 77 [(Value.pointer (some ⟨gw8,0,none⟩))]),(aU x253 3 [(Value.int .i64 ((b:Nat):Int))])]) (fun k (y:BM)=>(kF r.ae.length y (fun i=>j5 (a6 l r) b i∨ ∃ q∈k,q.1=i))∧(∀ q∈k,q∈jE (a6 l r) b mf mb)) (fun k y=>[(bw (rs11.map fu)),(aU b30 95 [(Value.map (some b29))]),(jr iV b29 (bu Value.bool y)),(aU b3 31 (aN.cells (aN.mk r.Start r.dw (aA.mk sgA r.ae.length sgC)))),(aU b2 28 (aG.cells (aG.mk (ay.mk (aA.mk kA l.au.length kC)) l.bJ (aA.mk cA l.ag.length cC) (aA.mk bA l.aa.length bC) l.aB l.aZ l.aO))),(rd kA l.au.length 9 (l.au.map ah.cells)).ro,(rd cA l.ag.length 2 (List.zipWith ao.cells l.ag az)).ro,(c_ (aP ao.eX l.ag az)).ro,(rd bA l.aa.length 4 (l.aa.map aT.cells)).ro,(rd sgA r.ae.length 2 (r.ae.map av.cells)).ro]) (fun _ (_:Unit)=>False) (fun _ _=>[]) [2,3,4,13,14,15,16,17,18,19] [6,7,8,9,10,11,12,5,0,1] m rfl rfl (o4 (aG.mk (ay.mk (aA.mk kA l.au.length kC)) l.bJ (aA.mk cA l.ag.length cC) (aA.mk bA l.aa.length bC) l.aB l.aZ l.aO) (aN.mk r.Start r.dw (aA.mk sgA r.ae.length sgC)) (bE l l.aa.length) (bf l r.ae r.ae.length) eA9 eC10 tb13 tA11 tC12 fs14 bs18 fb15 fA16 fC17 bb19 qA20 qC21 gw8 b x152 x253 mf mb (by rw [hlel]; omega) (by exact hwo) (by rw [htll]; omega) (by exact hfw) (by omega) (by exact hbw) (by omega) (by show r.ae.length≤1000; omega) (by exact hm1) (by exact hm2)) rfl rfl rfl (by exact ⟨mn hl11_1 fun i=>⟨.inl,fun q=>q.elim id fun ⟨z,hz,_⟩=>by cases hz⟩,fun q hq=>by cases hq⟩) (by simp only [List.forall_mem_cons,List.not_mem_nil,false_imp_iff,implies_true,and_true]; exact ⟨⟨_,List.mem_of_getElem? (i:=0) rfl,(er (by simp))⟩,⟨_,List.mem_of_getElem? (i:=1) rfl,(er (by rw [List.length_zipWith]; omega))⟩,⟨_,List.mem_of_getElem? (i:=2) rfl,gZ⟩,⟨_,List.mem_of_getElem? (i:=3) rfl,(er (by rw [List.length_zipWith]; omega))⟩,⟨_,List.mem_of_getElem? (i:=4) rfl,gZ⟩,⟨_,List.mem_of_getElem? (i:=5) rfl,(er (by rw [List.length_zipWith]; omega))⟩,⟨_,List.mem_of_getElem? (i:=6) rfl,gZ⟩,⟨_,List.mem_of_getElem? (i:=7) rfl,(cT _)⟩,⟨_,List.mem_of_getElem? (i:=8) rfl,(cT _)⟩,⟨_,List.mem_of_getElem? (i:=9) rfl,(cT _)⟩⟩) (by rintro k x k2 ⟨o,_,rfl,_⟩; rfl) rfl (an.cons rfl<|an.cons rfl<|an.cons rfl<|an.cons rfl<|an.cons rfl<|an.cons rfl<|an.cons rfl<|an.nil _) ?_ ?_ (fun _ _ _ h=>h.elim) (fun _ _ h=>h.elim)
  ·rintro k x k2 m2 lr ra rb S w1 K54 Qr55 hsz hx hin56 hK54 hQr55 xQr55 yQr55
   obtain ⟨q,hq,rfl,rfl⟩:=hx
   obtain ⟨hr0,hr1⟩:=hin56
   try dsimp only
   refine aC<|rS (AG rfl)<|aX ?_
   refine aY (hK54 _ _ ?_)
   refine aH<|aC<|rS (jc 2 rfl Ae rfl)<|rS (MV rfl)<|uL (kV:=iV) (x:=q.1) (C':=[_,_,_,(jr iV b29 (bu Value.bool (cL m2 q.1))),_,_,_,_,_,_,_]) 3 rfl rfl rfl rfl CA (jo rl) rfl (nB _ _ _).symm rfl<|aX<|aL ?_
   exact hQr55 (cL m2 q.1) _ _ (by refine ⟨mn (x8 hr0) fun i=>wo,fun z hz=>?_⟩; (rcases List.mem_append.1 hz with hz|hz; exact hr1 z hz; (rw [List.mem_singleton.1 hz]; exact hq))) (fun w hs=>St.bB [0,1,2,3,4,5,6,7,8,9,10] rfl rfl hs)
  rintro r57 k m2 hfin hin58
  obtain ⟨hr0,hr1⟩:=hin58
  try dsimp only
  refine aL<|aL<|KK hK47<|aC<|rS (BI rfl (a9 ⟨by omega,by omega⟩))<|rS (MV rfl)<|aX<|qS (X:=rs11.map fu) 11 0 rfl rfl ?_
  try dsimp only
  have hb59:(Value.int .i64 (((b+1):Nat):Int))=(Value.int .i64 (((b:Nat):Int)+1)):=by exact congrArg (Value.int .i64) (by omega)
  refine aY (hJ43 ⟨((b+1),m2,(r57::rs11)),⟨by omega,mn hr0 fun i=>by rw [wK,(r9 (hfw.min _ _ hm1) (hbw.max _ _ hm2) (hfw.keys _ _ hm1) (hbw.keys _ _ hm2) hr1 hfin (fun z=>z=i))]⟩⟩ _ _ _ rfl (by first|omega|(simp; omega)) (an.cons rfl<|an.cons rfl<|an.cons rfl<|an.cons rfl<|an.cons rfl<|a_ rfl hb59<|an.nil _) (fun w hs=>St.bB [0,11,12,8,1,2,3,4,5,6,7,13,14,15,16,17,18,19] rfl rfl hs))
 replace h46:=DF h46
 refine bM<|ai<|ai<|aI<|KK hK41<|WS fun _ hK60=>rS (AG rfl)<|RK hK60<|aw fun _ hK61=>WS fun _ hK62=>?_
 refine rS (jc 1 rfl Ae rfl)<|o1 2 rfl rfl CA rfl rfl fun r63=>?_
 try dsimp only
 refine RK hK62<|aH<|fY 3 1 ?_
 have hinit:((([]:List Int)++m.map (·.1)).Perm (m.map (·.1))):=by exact List.Perm.refl _
 refine cP (ι:={z:BM×(List Int)×(Option Addr)×Nat // ((z.2.1++z.1.map (·.1)).Perm (m.map (·.1)))}) (fun z=>[(2,(Value.pointer (some ⟨b2,0,none⟩))),(3,(Value.pointer (some ⟨b3,0,none⟩))),(6,(Value.pointer (some ⟨gw8,0,none⟩))),(8,(Value.pointer (some ⟨b30,0,none⟩))),(12,(Value.slice z.1.2.2.1 z.1.2.1.length z.1.2.2.2)),(48,(Value.pointer (some ⟨r63,0,none⟩)))]) (fun z=>[(own z.1.2.2.1 z.1.2.2.2 3 1 (z.1.2.1.map iC)),(bw (rs11.map fu)),(aU b30 95 [(Value.map (some b29))]),(pM iV r63 b29 (bu Value.bool m) (bu Value.bool z.1.1) none),(aU gw8 117 (aK.cells (aK.mk (aG.mk (ay.mk (aA.mk kA l.au.length kC)) l.bJ (aA.mk cA l.ag.length cC) (aA.mk bA l.aa.length bC) l.aB l.aZ l.aO) (aN.mk r.Start r.dw (aA.mk sgA r.ae.length sgC)) (aA.mk eA9 ((bE l l.aa.length).length) eC10) (aA.mk tA11 ((bf l r.ae r.ae.length).length) tC12) (aA.mk fA16 fs14.length fC17) (aA.mk qA20 bs18.length qC21)))),(own eA9 eC10 3 1 ((bE l l.aa.length).map iC)),(own tA11 tC12 120 1 (List.zipWith cb (bf l r.ae r.ae.length) tb13)),(bw (aP gJ (bf l r.ae r.ae.length) tb13)),(own fA16 fC17 122 1 (List.zipWith cb fs14 fb15)),(bw (aP e8 fs14 fb15)),(own qA20 qC21 122 1 (List.zipWith cb bs18 bb19)),(bw (aP e8 bs18 bb19)),(aU b3 31 (aN.cells (aN.mk r.Start r.dw (aA.mk sgA r.ae.length sgC)))),(aU b2 28 (aG.cells (aG.mk (ay.mk (aA.mk kA l.au.length kC)) l.bJ (aA.mk cA l.ag.length cC) (aA.mk bA l.aa.length bC) l.aB l.aZ l.aO))),(rd kA l.au.length 9 (l.au.map ah.cells)).ro,(rd cA l.ag.length 2 (List.zipWith ao.cells l.ag az)).ro,(c_ (aP ao.eX l.ag az)).ro,(rd bA l.aa.length 4 (l.aa.map aT.cells)).ro,(rd sgA r.ae.length 2 (r.ae.map av.cells)).ro]) (fun z=>z.1.1.length) ⟨(m,([]:List Int),none,0),hinit⟩ (an.cons rfl<|an.cons rfl<|an.cons rfl<|an.cons rfl<|an.cons rfl<|an.cons rfl<|an.nil _) (fun w hs=>St.bB [0,1,2,3,4,5,6,7,8,9,10,11,12,13,14,15,16,17,18] rfl rfl hs) ?_
 clear hinit
 rintro ⟨⟨left,ys,a,c⟩,hl19_0⟩ J64 hJ64
 try dsimp only at hl19_0
 try dsimp only
 refine WS fun _ hK65=>?_
 refine nE (jo rl).inj (f:=Value.bool) 3 rfl rfl rfl rfl (fun h49=>?_) (fun x y hm hn=>?_)
 ·refine rS (EX rfl) ?_
  refine RK hK65<|aw fun _ hK66=>bH rfl<|bM<|ai<|ai<|aI<|KK hK61<|WS fun _ hK67=>rS (MV rfl) ?_
  refine oB 0 rfl rfl rfl rfl (BZ ys a c (by have h1:=hl19_0.length_eq; have h2:=qL hl11_1; simp at h1; omega)) rfl qI rfl (fun srtd hso=>?_)
  try dsimp only
  refine RK hK67<|WS fun _ hK69=>rS (MV rfl) ?_
  have hsf:srtd=eN l r:=by rw [pc he]; exact vk (mn hl11_1 fun i=>by rw [show b=(a6 l r).n from by rw [show (a6 l r).n=l.aa.length from bK]; omega]) (by have:=hl19_0; rw [h49] at this; simpa using this) hso.1 hso.2
  rw [hsf]
  refine rS (AG rfl)<|rS (AG rfl)<|RK hK69<|aE ?_
  refine hQ _ _ _ (qc 1 rfl rfl<|bD (vs:=[(Value.slice a ys.length c),(Value.int .i64 0)]) ⟨rfl,rfl,trivial⟩ fun w hs=>fj (a,c) [0] ?_ ?_ rfl rfl rfl hs)
  ·first|(rw [mP he]; rfl)|(rw [he,show (eN l r).length=ys.length from by rw [← hsf]; exact hso.1.length_eq]; rfl)
  ·trivial
 try dsimp only
 refine rS (EX rfl)<|RK hK65<|aw fun _ hK70=>aW rfl<|WK hK70<|aH<|WS fun _ hK71=>rS (SX (nF 3 rfl rfl rfl) rfl rfl)<|rS (EX rfl)<|rS (AG rfl) ?_
 refine RK hK71<|aC<|rS (MV rfl)<|rS (MV rfl)<|dV (xs:=[.tmp 54]) (cs:=[(Value.int .i64 x)]) rfl di kb rfl rfl rfl rfl (by simp [Value.cells]) rfl rfl fun b72=>gz (es2:=(List.map iC (ys++[x]))) (m':=(ys++[x]).length) 1 rfl rfl rfl tF rfl rfl (by simp) (a4 (es:=List.map iC [x]) 0 rfl rfl (by simp [bO]) rfl) (mu _) (by have h1:=hl19_0.length_eq; have h2:=qL hl11_1; simp at h1; simp; omega) (by have h1:=hl19_0.length_eq; have h2:=qL hl11_1; simp at h1; simp only [maxLen]; simp; omega) (by simp) (by simp) rfl fun a73 c74=>?_
 try dsimp only
 refine rS (AG rfl)<|aX<|aL<|mq (C':=[(aU b72 3 [(Value.int .i64 x)]),(own a73 c74 3 1 (List.map iC (ys++[x]))),(bw (rs11.map fu)),(aU b30 95 [(Value.map (some b29))]),(pM iV r63 b29 (bu Value.bool m) (bu Value.bool (cL left x)) none),(aU gw8 117 (aK.cells (aK.mk (aG.mk (ay.mk (aA.mk kA l.au.length kC)) l.bJ (aA.mk cA l.ag.length cC) (aA.mk bA l.aa.length bC) l.aB l.aZ l.aO) (aN.mk r.Start r.dw (aA.mk sgA r.ae.length sgC)) (aA.mk eA9 ((bE l l.aa.length).length) eC10) (aA.mk tA11 ((bf l r.ae r.ae.length).length) tC12) (aA.mk fA16 fs14.length fC17) (aA.mk qA20 bs18.length qC21)))),(own eA9 eC10 3 1 ((bE l l.aa.length).map iC)),(own tA11 tC12 120 1 (List.zipWith cb (bf l r.ae r.ae.length) tb13)),(bw (aP gJ (bf l r.ae r.ae.length) tb13)),(own fA16 fC17 122 1 (List.zipWith cb fs14 fb15)),(bw (aP e8 fs14 fb15)),(own qA20 qC21 122 1 (List.zipWith cb bs18 bb19)),(bw (aP e8 bs18 bb19)),(aU b3 31 (aN.cells (aN.mk r.Start r.dw (aA.mk sgA r.ae.length sgC)))),(aU b2 28 (aG.cells (aG.mk (ay.mk (aA.mk kA l.au.length kC)) l.bJ (aA.mk cA l.ag.length cC) (aA.mk bA l.aa.length bC) l.aB l.aZ l.aO))),(rd kA l.au.length 9 (l.au.map ah.cells)).ro,(rd cA l.ag.length 2 (List.zipWith ao.cells l.ag az)).ro,(c_ (aP ao.eX l.ag az)).ro,(rd bA l.aa.length 4 (l.aa.map aT.cells)).ro,(rd sgA r.ae.length 2 (r.ae.map av.cells)).ro]) 4 rfl q6 rfl ?_
 refine aY (hJ64 ⟨((cL left x),(ys++[x]),a73,c74),zr hn hm hl19_0⟩ _ _ _ rfl (iH hm) (an.cons rfl<|an.cons rfl<|an.cons rfl<|an.cons rfl<|an.cons rfl<|an.cons rfl<|an.nil _) (fun w hs=>St.bB [1,2,3,4,5,6,7,8,9,10,11,12,13,14,15,16,17,18,19] rfl rfl hs))
set_option maxRecDepth 100000 in
set_option maxHeartbeats 400000 in
theorem xG (l:aV) (kA:Option Addr) (kC:Nat) (az:List RA) (cA:Option Addr) (cC:Nat) (bA:Option Addr) (bC:Nat) (r:bj) (sgA:Option Addr) (sgC:Nat) (hin:dM l az) (hsl:r.ae.length≤1000000):
 rM Tryz.prog 21 [(Value.agg (aG.cells (aG.mk (ay.mk (aA.mk kA l.au.length kC)) l.bJ (aA.mk cA l.ag.length cC) (aA.mk bA l.aa.length bC) l.aB l.aZ l.aO)).toArray),(Value.agg (aN.cells (aN.mk r.Start r.dw (aA.mk sgA r.ae.length sgC))).toArray)] [(rd kA l.au.length 9 (l.au.map ah.cells)),(rd cA l.ag.length 2 (List.zipWith ao.cells l.ag az)),(c_ (aP ao.eX l.ag az)),(rd bA l.aa.length 4 (l.aa.map aT.cells)),(rd sgA r.ae.length 2 (r.ae.map av.cells))] (fun (x:(Option Addr)×Nat)=>(Value.tuple [(Value.slice x.1 ((dH l r).length) x.2),(Value.int .i64 (cD l r 0))].toArray)) (fun (x:(Option Addr)×Nat)=>True) (fun (x:(Option Addr)×Nat)=>[(own x.1 x.2 3 1 ((dH l r).map iC))]):=by
 have htk:=hin.o0
 have hck:=hin.oZ
 have has:=hin.oG
 have hbm:=hin.oI
 have hsd:=hin.side
 refine gX FQ Tryz.func21 rfl rfl fun w0 Q hQ hN=>?_
 try dsimp only
 refine WS fun _ hK1=>gv rfl fun b2=>gv rfl fun b3=>rS (AG rfl)<|rS (AG rfl)<|RK hK1<|WS fun _ hK4=>rS (LW 1 rfl eP rfl rfl)<|rS (LW 0 rfl gE rfl rfl)<|cX (sK l kA kC az cA cC bA bC r sgA sgC hin hsl) (ax 2 rfl rfl<|ax 3 rfl rfl<|ax 4 rfl rfl<|ax 5 rfl rfl<|ax 6 rfl rfl<|ar) rfl fun y5 hy6=>?_
 obtain ⟨ok22,ec7,gw8,eA9,eC10,tA11,tC12,tb13,fs14,fb15,fA16,fC17,bs18,bb19,qA20,qC21⟩:=y5
 cases ok22
 ·obtain ⟨hec,he⟩:=hy6.2 rfl
  try dsimp only at hec he
  subst hec
  try dsimp only [cond_true,cond_false,List.cons_append,List.nil_append]
  refine rS (MV rfl)<|rS (EX rfl)<|rS (EX rfl)<|rS (AG rfl)<|rS (AG rfl)<|RK hK4<|aw fun _ hK23=>WS fun _ hK24=>rS (MV rfl)<|rS (BI rfl eB) ?_
  refine RK hK24 ?_
  refine bp rfl (fun h20=>?_) (fun h20=>?_)
  rotate_left 1
  ·replace h20:=XF h20
   exact absurd h20 he
  replace h20:=XT h20
  refine WS fun _ hK25=>oS 3 1 ?_
  rw [show (own none 0 3 1 ([]:List (List Value)))=own none 0 3 1 ((dH l r).map iC) from by rw [jg he]; rfl]
  refine rS (MV rfl)<|rS (AG rfl)<|rS (AG rfl)<|RK hK25<|aE ?_
  refine hQ _ _ _ (bD (vs:=[(Value.slice none 0 0),(Value.int .i64 (cD l r 0))]) ⟨rfl,rfl,trivial⟩ fun w hs=>fj (none,0) [0] ?_ ?_ rfl rfl rfl hs)
  ·first|rfl|(rw [jg he]; rfl)|(rw [he]; rfl)
  ·trivial
 obtain ⟨he,hfw,hbw,hfl,hbl,htl⟩:=hy6.1 rfl
 try dsimp only [cond_true,cond_false,List.cons_append,List.nil_append]
 dsimp only at hfw hbw hfl hbl htl
 obtain ⟨h10,hro,hme,hnn⟩:=fF he
 obtain ⟨htr,hok⟩:=dD h10
 have hhd:=hok.head
 unfold cU at hhd
 have hwo:=iK htr hok hro
 have hrt:=hro.time
 have hrl:=hro.len
 have hlel:(bE l l.aa.length).length=l.aa.length:=bK
 have htll:(bf l r.ae r.ae.length).length=l.aa.length:=dO
 have hfn:fs14.length=l.aa.length+1:=by have:=hfw.len; rw [show (a6 l r).n=l.aa.length from bK] at this; exact this
 have hbn:bs18.length=l.aa.length+1:=by have:=hbw.len; rw [show (a6 l r).n=l.aa.length from bK] at this; exact this
 refine rS (MV rfl)<|rS (EX rfl)<|rS (EX rfl)<|rS (AG rfl)<|rS (AG rfl)<|RK hK4<|aw fun _ hK26=>WS fun _ hK27=>rS (MV rfl)<|rS (SX (gn (r:= .bool false) rfl rfl rfl eB) rfl rfl) ?_
 refine RK hK27<|bH rfl<|WK hK26<|WS fun _ hK28=>rS (MV rfl)<|cX (mT (aG.mk (ay.mk (aA.mk kA l.au.length kC)) l.bJ (aA.mk cA l.ag.length cC) (aA.mk bA l.aa.length bC) l.aB l.aZ l.aO) (aN.mk r.Start r.dw (aA.mk sgA r.ae.length sgC)) (bE l l.aa.length) (bf l r.ae r.ae.length) eA9 eC10 tb13 tA11 tC12 fs14 bs18 fb15 fA16 fC17 bb19 qA20 qC21 gw8 (by exact hwo) (by first|assumption|omega|(simp; done)|(simp; omega)) (by exact bK.symm) (by exact hfw) (by first|assumption|omega|(simp; done)|(simp; omega))) (aF (ak (n:=(bE l l.aa.length).length) 1 rfl (by simp))<|aF (ak (n:=(bf l r.ae r.ae.length).length) 2 rfl (by rw [List.length_zipWith]; omega))<|aF (eo 3 rfl gF)<|aF (ak (n:=fs14.length) 4 rfl (by rw [List.length_zipWith]; omega))<|aF (eo 5 rfl gF)<|aF (ak (n:=bs18.length) 6 rfl (by rw [List.length_zipWith]; omega))<|aF (eo 7 rfl gF)<|ax 0 rfl rfl<|ar) rfl fun y29 hy30=>?_
 obtain ⟨a31,c32⟩:=y29
 try dsimp only
 rw [show (dJ (bL (aG.mk (ay.mk (aA.mk kA l.au.length kC)) l.bJ (aA.mk cA l.ag.length cC) (aA.mk bA l.aa.length bC) l.aB l.aZ l.aO) (aN.mk r.Start r.dw (aA.mk sgA r.ae.length sgC)) (bE l l.aa.length) (bf l r.ae r.ae.length)))=cJ l r from (gH he).symm]
 refine rS (CL (Bp (cJ l r) a31 c32 (by exact nD he) (by exact Nat.le_trans lV (by decide))) (aF (ak (n:=(cJ l r).length) 0 rfl (by simp))<|ar) rfl)<|rS (AG rfl)<|RK hK28<|WS fun _ hK33=>rS (AG rfl)<|RK hK33<|aw fun _ hK34=>WS fun _ hK35=>?_
 have hmb:=yZ he
 refine rS (MV rfl)<|rS (MV rfl)<|RK hK35<|aH<|fY 3 1<|pq ?_
 have hinit:(((0:Nat):Int)≤iF (cJ l r)):=by exact hmb.1
 refine mZ (ι:={z:Nat×(Option Addr)×Nat×(List Nat) // (((z.1:Nat):Int)≤iF (cJ l r))}) (fun z=>z.1.2.2.2.map iG) (fun z=>[(2,(Value.pointer (some ⟨b2,0,none⟩))),(3,(Value.pointer (some ⟨b3,0,none⟩))),(6,(Value.pointer (some ⟨gw8,0,none⟩))),(8,(Value.int .i64 (iF (cJ l r)))),(9,(Value.slice z.1.2.1 ((eF (a6 l r) z.1.1).length) z.1.2.2.1)),(25,(Value.int .i64 (iF (cJ l r)))),(26,(Value.int .i64 ((z.1.1:Nat):Int)))]) (fun z=>[(bw (z.1.2.2.2.map fu)),(own z.1.2.1 z.1.2.2.1 3 1 ((eF (a6 l r) z.1.1).map iC)),(own a31 c32 3 1 ((cJ l r).map iC)),(aU gw8 117 (aK.cells (aK.mk (aG.mk (ay.mk (aA.mk kA l.au.length kC)) l.bJ (aA.mk cA l.ag.length cC) (aA.mk bA l.aa.length bC) l.aB l.aZ l.aO) (aN.mk r.Start r.dw (aA.mk sgA r.ae.length sgC)) (aA.mk eA9 ((bE l l.aa.length).length) eC10) (aA.mk tA11 ((bf l r.ae r.ae.length).length) tC12) (aA.mk fA16 fs14.length fC17) (aA.mk qA20 bs18.length qC21)))),(own eA9 eC10 3 1 ((bE l l.aa.length).map iC)),(own tA11 tC12 120 1 (List.zipWith cb (bf l r.ae r.ae.length) tb13)),(bw (aP gJ (bf l r.ae r.ae.length) tb13)),(own fA16 fC17 122 1 (List.zipWith cb fs14 fb15)),(bw (aP e8 fs14 fb15)),(own qA20 qC21 122 1 (List.zipWith cb bs18 bb19)),(bw (aP e8 bs18 bb19)),(aU b3 31 (aN.cells (aN.mk r.Start r.dw (aA.mk sgA r.ae.length sgC)))),(aU b2 28 (aG.cells (aG.mk (ay.mk (aA.mk kA l.au.length kC)) l.bJ (aA.mk cA l.ag.length cC) (aA.mk bA l.aa.length bC) l.aB l.aZ l.aO))),(rd kA l.au.length 9 (l.au.map ah.cells)).ro,(rd cA l.ag.length 2 (List.zipWith ao.cells l.ag az)).ro,(c_ (aP ao.eX l.ag az)).ro,(rd bA l.aa.length 4 (l.aa.map aT.cells)).ro,(rd sgA r.ae.length 2 (r.ae.map av.cells)).ro]) (fun z=>(iF (cJ l r)).toNat-z.1.1) ⟨(0,none,0,([]:List Nat)),hinit⟩ rfl (an.cons rfl<|an.cons rfl<|an.cons rfl<|an.cons rfl<|an.cons rfl<|an.cons rfl<|an.cons rfl<|an.nil _) (fun w hs=>St.bB [0,1,2,3,4,5,6,7,8,9,10,11,12,13,14,15,16,17] rfl rfl hs) ?_
 clear hinit
 rintro ⟨⟨b,a,c,rs7⟩,hl7_0⟩ J36 hJ36
 try dsimp only at hl7_0
 try dsimp only
 refine WS fun _ hK37=>rS (BI rfl cq)<|RK hK37<|aw fun _ hK38=>?_
 refine bp rfl (fun h39=>?_) (fun h39=>?_)
 rotate_left 1
 ·replace h39:=DF h39
  refine bM<|ai<|ai<|aI<|KK hK34<|WS fun _ hK61=>rS (MV rfl) ?_
  rw [show (eF (a6 l r) b)=dH l r from by rw [j4 he,show b=(iF (cJ l r)).toNat by omega]]
  refine rS (AG rfl)<|rS (AG rfl)<|RK hK61<|aE ?_
  refine hQ _ _ _ (qc 0 rfl rfl<|bD (vs:=[(Value.slice a ((dH l r).length) c),(Value.int .i64 0)]) ⟨rfl,rfl,trivial⟩ fun w hs=>fj (a,c) [0] ?_ ?_ rfl rfl rfl hs)
  ·first|rfl|(rw [jg he]; rfl)|(rw [he]; rfl)
  ·trivial
 replace h39:=DT h39
 refine WK hK38<|aw fun _ hK40=>aH<|WS fun _ hK41=>rS (MV rfl)<|rS (AG rfl)<|RK hK41<|WS fun _ hK42=>AL rfl G4 fun b43=>zH rfl Gg rfl rfl ?_
 refine RK hK42<|aw fun _ hK44=>WS fun _ hK45=>rS (MV rfl)<|rS (MV rfl) ?_
 obtain ⟨mf,hm1⟩: ∃ y_,fs14[b]? =some y_:=⟨fs14[b]'(by omega),List.getElem?_eq_getElem _⟩
 obtain ⟨mb,hm2⟩: ∃ y_,bs18[b+1]? =some y_:=⟨bs18[b+1]'(by omega),List.getElem?_eq_getElem _⟩
 refine cX (qq gw8 b) (ar) rfl fun y46 hy47=>?_
 obtain ⟨x148,x249⟩:=y46
 try dsimp only
 refine RK hK45<|aH ?_
 refine kT (L0:=[(2,(Value.pointer (some ⟨b2,0,none⟩))),(3,(Value.pointer (some ⟨b3,0,none⟩))),(6,(Value.pointer (some ⟨gw8,0,none⟩))),(8,(Value.int .i64 (iF (cJ l r)))),(9,(Value.slice a ((eF (a6 l r) b).length) c)),(10,(Value.int .i64 ((b:Nat):Int))),(11,(Value.pointer (some ⟨b43,0,none⟩))),(25,(Value.int .i64 (iF (cJ l r)))),(26,(Value.int .i64 ((b:Nat):Int)))]) (F:=[(own eA9 eC10 3 1 ((bE l l.aa.length).map iC)),(own tA11 tC12 120 1 (List.zipWith cb (bf l r.ae r.ae.length) tb13)),(bw (aP gJ (bf l r.ae r.ae.length) tb13)),(own fA16 fC17 122 1 (List.zipWith cb fs14 fb15)),(bw (aP e8 fs14 fb15)),(own qA20 qC21 122 1 (List.zipWith cb bs18 bb19)),(bw (aP e8 bs18 bb19)),(aU gw8 117 (aK.cells (aK.mk (aG.mk (ay.mk (aA.mk kA l.au.length kC)) l.bJ (aA.mk cA l.ag.length cC) (aA.mk bA l.aa.length bC) l.aB l.aZ l.aO) (aN.mk r.Start r.dw (aA.mk sgA r.ae.length sgC)) (aA.mk eA9 ((bE l l.aa.length).length) eC10) (aA.mk tA11 ((bf l r.ae r.ae.length).length) tC12) (aA.mk fA16 fs14.length fC17) (aA.mk qA20 bs18.length qC21)))),(aU x148 77 [(Value.pointer (some ⟨gw8,0,none⟩))]),(aU x249 3 [(Value.int .i64 ((b:Nat):Int))])]) (fun k (y:Bool)=>(y=true↔ ∃ q∈k,0≤q.1)∧(∀ q∈k,q∈jE (a6 l r) b mf mb)) (fun k y=>[(aU b43 4 [(Value.bool y)]),(bw (rs7.map fu)),(own a c 3 1 ((eF (a6 l r) b).map iC)),(own a31 c32 3 1 ((cJ l r).map iC)),(aU b3 31 (aN.cells (aN.mk r.Start r.dw (aA.mk sgA r.ae.length sgC)))),(aU b2 28 (aG.cells (aG.mk (ay.mk (aA.mk kA l.au.length kC)) l.bJ (aA.mk cA l.ag.length cC) (aA.mk bA l.aa.length bC) l.aB l.aZ l.aO))),(rd kA l.au.length 9 (l.au.map ah.cells)).ro,(rd cA l.ag.length 2 (List.zipWith ao.cells l.ag az)).ro,(c_ (aP ao.eX l.ag az)).ro,(rd bA l.aa.length 4 (l.aa.map aT.cells)).ro,(rd sgA r.ae.length 2 (r.ae.map av.cells)).ro]) (fun _ (_:Unit)=>False) (fun _ _=>[]) [2,3,4,5,14,15,16,17,18,19,20] [7,8,9,10,11,12,13,6,0,1] false rfl rfl (o4 (aG.mk (ay.mk (aA.mk kA l.au.length kC)) l.bJ (aA.mk cA l.ag.length cC) (aA.mk bA l.aa.length bC) l.aB l.aZ l.aO) (aN.mk r.Start r.dw (aA.mk sgA r.ae.length sgC)) (bE l l.aa.length) (bf l r.ae r.ae.length) eA9 eC10 tb13 tA11 tC12 fs14 bs18 fb15 fA16 fC17 bb19 qA20 qC21 gw8 b x148 x249 mf mb (by rw [hlel]; omega) (by exact hwo) (by rw [htll]; omega) (by exact hfw) (by omega) (by exact hbw) (by omega) (by show r.ae.length≤1000; omega) (by exact hm1) (by exact hm2)) rfl rfl rfl (by exact ⟨Cr,fun q hq=>by cases hq⟩) (by simp only [List.forall_mem_cons,List.not_mem_nil,false_imp_iff,implies_true,and_true]; exact ⟨⟨_,List.mem_of_getElem? (i:=0) rfl,(er (by simp))⟩,⟨_,List.mem_of_getElem? (i:=1) rfl,(er (by rw [List.length_zipWith]; omega))⟩,⟨_,List.mem_of_getElem? (i:=2) rfl,gZ⟩,⟨_,List.mem_of_getElem? (i:=3) rfl,(er (by rw [List.length_zipWith]; omega))⟩,⟨_,List.mem_of_getElem? (i:=4) rfl,gZ⟩,⟨_,List.mem_of_getElem? (i:=5) rfl,(er (by rw [List.length_zipWith]; omega))⟩,⟨_,List.mem_of_getElem? (i:=6) rfl,gZ⟩,⟨_,List.mem_of_getElem? (i:=7) rfl,(cT _)⟩,⟨_,List.mem_of_getElem? (i:=8) rfl,(cT _)⟩,⟨_,List.mem_of_getElem? (i:=9) rfl,(cT _)⟩⟩) (by rintro k x k2 ⟨o,_,rfl,_⟩; rfl) rfl (an.cons rfl<|an.cons rfl<|an.cons rfl<|an.cons rfl<|an.cons rfl<|an.cons rfl<|an.cons rfl<|an.cons rfl<|an.cons rfl<|an.nil _) ?_ ?_ (fun _ _ _ h=>h.elim) (fun _ _ h=>h.elim)
 ·rintro k x k2 sb lr ra rb S w1 K50 Qr51 hsz hx hin52 hK50 hQr51 xQr51 yQr51
  obtain ⟨q,hq,rfl,rfl⟩:=hx
  obtain ⟨hr0,hr1⟩:=hin52
  try dsimp only
  refine aC<|rS (AG rfl)<|aX ?_
  refine aY (hK50 _ _ ?_)
  refine aH<|aC<|rS (jc 1 rfl F1 rfl)<|rS (MV rfl) ?_
  refine bo (t:=35) rfl (fun h35=>?_) (fun h35=>?_)
  ·refine rS (OX rfl) ?_
   refine rS (OX rfl)<|rS (PK rfl)<|GZ rfl Gg rfl rfl<|aX<|aL ?_
   exact hQr51 true _ _ (by refine ⟨by first|exact yr hr0 h35|exact Bf hr0 h35,fun z hz=>?_⟩; (rcases List.mem_append.1 hz with hz|hz; exact hr1 z hz; (rw [List.mem_singleton.1 hz]; exact hq))) (fun w hs=>St.bB [0,1,2,3,4,5,6,7,8,9,10,11] rfl rfl hs)
  refine rS (MV rfl)<|rS (BI rfl il)<|rS (PK rfl)<|GZ rfl Gg rfl rfl<|aX<|aL ?_
  exact hQr51 (decide (0≤q.1)) _ _ (by refine ⟨by first|exact yr hr0 h35|exact Bf hr0 h35,fun z hz=>?_⟩; (rcases List.mem_append.1 hz with hz|hz; exact hr1 z hz; (rw [List.mem_singleton.1 hz]; exact hq))) (fun w hs=>St.bB [0,1,2,3,4,5,6,7,8,9,10,11] rfl rfl hs)
 rintro r53 k sb hfin hin54
 obtain ⟨hr0,hr1⟩:=hin54
 try dsimp only
 refine aL<|KK hK44<|WS fun _ hK55=>?_
 have hrt:ji (a6 l r) b=sb:=yN (r9 (hfw.min _ _ hm1) (hbw.max _ _ hm2) (hfw.keys _ _ hm1) (hbw.keys _ _ hm2) hr1 hfin (fun z=>0≤z)) hr0
 refine rS (jc 11 rfl F1 rfl)<|rS (NT rfl)<|RK hK55 ?_
 refine bp rfl (fun h40=>?_) (fun h40=>?_)
 rotate_left 1
 ·rw [Bool.not_eq_false'] at h40
  refine cH<|aL<|KK hK40<|aC<|rS (BI rfl (a9 ⟨by omega,by omega⟩))<|rS (MV rfl)<|aX<|qS (X:=rs7.map fu) 12 0 rfl rfl ?_
  try dsimp only
  rw [show (eF (a6 l r) b)=(eF (a6 l r) (b+1)) from (w9 (hrt.trans h40)).symm]
  have hb60:(Value.int .i64 (((b+1):Nat):Int))=(Value.int .i64 (((b:Nat):Int)+1)):=by exact congrArg (Value.int .i64) (by omega)
  refine aY (hJ36 ⟨((b+1),a,c,(r53::rs7)),(by first|omega|(simp only []; omega))⟩ _ _ _ rfl (by first|omega|(simp; omega)) (an.cons rfl<|an.cons rfl<|an.cons rfl<|an.cons rfl<|an.cons rfl<|an.cons rfl<|a_ rfl hb60<|an.nil _) (fun w hs=>St.bB [0,12,13,8,1,2,3,4,5,6,7,14,15,16,17,18,19,20] rfl rfl hs))
 rw [Bool.not_eq_true'] at h40
 refine aC<|rS (MV rfl)<|rS (MV rfl)<|dV (xs:=[.tmp 42]) (cs:=[(Value.int .i64 ((b:Nat):Int))]) rfl di kb rfl rfl rfl rfl (by simp [Value.cells]) rfl rfl fun b56=>gz (es2:=(List.map iC (eF (a6 l r) (b+1)))) (m':=(eF (a6 l r) (b+1)).length) 14 rfl rfl rfl tF rfl rfl (by simp) (a4 (es:=List.map iC [((b:Nat):Int)]) 0 rfl rfl (by simp [bO]) rfl) (mu _) (by have:=lR (w:=(a6 l r)) (k:=b); first|omega|(simp; omega)) (by have h1:=lR (w:=(a6 l r)) (k:=b+1); have h2:=lR (w:=(a6 l r)) (k:=b); simp only [maxLen]; omega) (by rw [uK (hrt.trans h40)]; simp) (by simp) rfl fun a57 c58=>?_
 try dsimp only
 refine rS (AG rfl)<|aX<|aL<|KK hK40<|aC<|rS (BI rfl (a9 ⟨by omega,by omega⟩))<|rS (MV rfl)<|aX<|qS (X:=rs7.map fu) 13 1 rfl rfl ?_
 try dsimp only
 have hb59:(Value.int .i64 (((b+1):Nat):Int))=(Value.int .i64 (((b:Nat):Int)+1)):=by exact congrArg (Value.int .i64) (by omega)
 refine aY (hJ36 ⟨((b+1),a57,c58,(r53::rs7)),(by first|omega|(simp only []; omega))⟩ _ _ _ rfl (by first|omega|(simp; omega)) (an.cons rfl<|an.cons rfl<|an.cons rfl<|an.cons rfl<|an.cons rfl<|an.cons rfl<|a_ rfl hb59<|an.nil _) (fun w hs=>St.bB [0,13,14,9,2,3,4,5,6,7,8,15,16,17,18,19,20,21] rfl rfl hs))
end
section
open Go.RowKit
set_option linter.unusedVariables false
set_option maxRecDepth 100000 in
set_option maxHeartbeats 400000 in
theorem fM (x:Int) (y:Int):
 dY Tryz.prog 28 [(Value.int .i64 x),(Value.int .i64 y)] [] (Value.agg (ab.cells (ab.mk x y)).toArray):=by
 refine bG FN Tryz.func28 rfl rfl fun w0 Q hQ hN=>?_
 try dsimp only
 refine WS fun _ hK1=>AL rfl dk fun b2=>RK hK1<|WS fun _ hK3=>rS (MV rfl)<|rS (MV rfl)<|rS (SX (aS (xs:=[(0,.tmp 5),(1,.tmp 6)]) (cs:=(ab.cells (ab.mk x y))) rfl rfl (aR fG rfl)) rfl rfl)<|e7 rfl cv rfl<|RK hK3<|aE ?_
 refine hQ _ _ _ (bD (vs:=[(Value.agg (ab.cells (ab.mk x y)).toArray)]) ⟨⟨_,rfl,.inl ⟨_,_,cB,cd (vs:=(ab.cells (ab.mk x y))) 0 rfl rfl,rfl,rfl⟩⟩,trivial⟩ fun w hs=>eR ?_ hs)
 show (Value.agg (ab.cells (ab.mk x y)).toArray)=(Value.agg (ab.cells (ab.mk x y)).toArray)
 clear hs w hQ hN hK3 hK1
 rfl
set_option maxRecDepth 100000 in
set_option maxHeartbeats 400000 in
theorem m7:
 rM Tryz.prog 49 [(Value.int .i64 1)] [] (fun (x:(Option Addr)×Nat×(Option Addr)×Nat×(List RA)×(Option Addr)×Nat)=>(Value.agg (aG.cells (aG.mk (ay.mk (aA.mk x.1 cM.au.length x.2.1)) cM.bJ (aA.mk x.2.2.1 cM.ag.length x.2.2.2.1) (aA.mk x.2.2.2.2.2.1 cM.aa.length x.2.2.2.2.2.2) cM.aB cM.aZ cM.aO)).toArray)) (fun (x:(Option Addr)×Nat×(Option Addr)×Nat×(List RA)×(Option Addr)×Nat)=>x.2.2.2.2.1.length=cM.ag.length∧dM cM x.2.2.2.2.1) (fun (x:(Option Addr)×Nat×(Option Addr)×Nat×(List RA)×(Option Addr)×Nat)=>[(own x.1 x.2.1 141 9 (cM.au.map ah.cells)),(own x.2.2.1 x.2.2.2.1 63 2 (List.zipWith ao.cells cM.ag x.2.2.2.2.1)),(bw (aP ao.owns cM.ag x.2.2.2.2.1)),(own x.2.2.2.2.2.1 x.2.2.2.2.2.2 101 4 (cM.aa.map aT.cells))]):=by
 refine gX Dq Tryz.func49 rfl rfl fun w0 Q hQ hN=>?_
 try dsimp only
 refine WS fun _ hK1=>AL rfl C6 fun b2=>RK hK1<|WS fun _ hK3=>rS (CL (fM 10000 10200) (ar) rfl)<|rS (SX (aS (xs:=[(0,.const (Value.int .i64 1)),(1,.tmp 3)]) (cs:=(ah.cells (ah.mk 1 (ab.mk 10000 10200) (ab.mk 0 0) (ab.mk 0 0) 0 0))) rfl rfl (aR Bi rfl)) rfl rfl)<|dV (xs:=[.tmp 4]) (cs:=(ah.cells (ah.mk 1 (ab.mk 10000 10200) (ab.mk 0 0) (ab.mk 0 0) 0 0))) rfl ru uq rfl rfl rfl rfl (by simp [Value.cells,ah.aM]) rfl rfl fun b4=>rS (SX (aS (xs:=[(0,.tmp 5)]) (cs:=(ay.cells (ay.mk (aA.mk (some ⟨b4,0,none⟩) 1 1)))) rfl rfl (aR DL rfl)) rfl rfl)<|rS (MV rfl)<|rS (CL (fM 0 2) (ar) rfl) ?_
 refine rS (SX (aS (xs:=[(0,.const (Value.int .i64 0)),(1,.tmp 8)]) (cs:=(bI.cells (bI.mk 0 (ab.mk 0 2)))) rfl rfl (aR Ac rfl)) rfl rfl)<|rS (CL (fM 5 6) (ar) rfl)<|rS (SX (aS (xs:=[(0,.const (Value.int .i64 100000)),(1,.tmp 10)]) (cs:=(bI.cells (bI.mk 100000 (ab.mk 5 6)))) rfl rfl (aR Ac rfl)) rfl rfl)<|dV (xs:=[.tmp 9,.tmp 11]) (cs:=((bI.cells (bI.mk 0 (ab.mk 0 2)))++(bI.cells (bI.mk 100000 (ab.mk 5 6))))) rfl rq rn rfl rfl rfl rfl (by simp [Value.cells,bI.aM]) rfl rfl fun b5=>rS (SX (aS (xs:=[(0,.const (Value.int .i64 100)),(1,.tmp 12)]) (cs:=(b_.cells (b_.mk 100 (aA.mk (some ⟨b5,0,none⟩) 2 2)))) rfl rfl (aR DV rfl)) rfl rfl)<|dV (xs:=[.tmp 13]) (cs:=(b_.cells (b_.mk 100 (aA.mk (some ⟨b5,0,none⟩) 2 2)))) rfl vj B6 rfl rfl rfl rfl (by simp [Value.cells,b_.aM]) rfl rfl fun b6=>rS (CL (fM 1000 1000) (ar) rfl)<|rS (SX (aS (xs:=[(1,.tmp 15)]) (cs:=(br.cells (br.mk 0 (ab.mk 1000 1000)))) rfl rfl (aR wR rfl)) rfl rfl)<|rS (SX (aS (xs:=[(0,.tmp 16)]) (cs:=(aT.cells (aT.mk (br.mk 0 (ab.mk 1000 1000)) 0))) rfl rfl (aR rE rfl)) rfl rfl)<|rS (CL (fM 4000 4000) (ar) rfl) ?_
 refine rS (SX (aS (xs:=[(1,.tmp 18)]) (cs:=(br.cells (br.mk 0 (ab.mk 4000 4000)))) rfl rfl (aR wR rfl)) rfl rfl)<|rS (SX (aS (xs:=[(0,.tmp 19)]) (cs:=(aT.cells (aT.mk (br.mk 0 (ab.mk 4000 4000)) 0))) rfl rfl (aR rE rfl)) rfl rfl)<|rS (CL (fM 9000 9000) (ar) rfl)<|rS (SX (aS (xs:=[(1,.tmp 21)]) (cs:=(br.cells (br.mk 0 (ab.mk 9000 9000)))) rfl rfl (aR wR rfl)) rfl rfl)<|rS (SX (aS (xs:=[(0,.tmp 22)]) (cs:=(aT.cells (aT.mk (br.mk 0 (ab.mk 9000 9000)) 0))) rfl rfl (aR rE rfl)) rfl rfl)<|dV (xs:=[.tmp 17,.tmp 20,.tmp 23]) (cs:=((aT.cells (aT.mk (br.mk 0 (ab.mk 1000 1000)) 0))++(aT.cells (aT.mk (br.mk 0 (ab.mk 4000 4000)) 0))++(aT.cells (aT.mk (br.mk 0 (ab.mk 9000 9000)) 0)))) rfl pL Bs rfl rfl rfl rfl (by simp [Value.cells,aT.aM]) rfl rfl fun b7=>rS (SX (aS (xs:=[(0,.tmp 6),(1,.const (Value.int .i64 2000)),(4,.const (Value.int .i64 1)),(5,.tmp 7),(6,.const (Value.int .i64 1)),(2,.tmp 14),(3,.tmp 24)]) (cs:=(aG.cells (aG.mk (ay.mk (aA.mk (some ⟨b4,0,none⟩) 1 1)) 2000 (aA.mk (some ⟨b6,0,none⟩) 1 1) (aA.mk (some ⟨b7,0,none⟩) 3 3) 1 1 1))) rfl rfl (aR EF rfl)) rfl rfl)<|g6 (es:=(cM.au.map ah.cells)) (C':=[_,_,_,(own (some ⟨b4,0,none⟩) 1 141 9 (cM.au.map ah.cells)),_]) 3 rfl (lW ah.aM _) rfl (by show _≤maxLen; exact Nat.le_trans (m:=10) (by first|decide|(show (1:Nat)≤10; decide)) (by decide)) rfl<|g6 (es:=(pQ.aJ.map bI.cells)) (C':=[_,_,(own (some ⟨b5,0,none⟩) 2 65 3 (pQ.aJ.map bI.cells)),_,_]) 2 rfl (lW bI.aM _) rfl (by show _≤maxLen; exact Nat.le_trans (m:=10) (by first|decide|(show (1:Nat)≤10; decide)) (by decide)) rfl<|g6 (es:=(List.zipWith ao.cells cM.ag [((some ⟨b5,0,none⟩),2)])) (C':=[_,(own (some ⟨b6,0,none⟩) 1 63 2 (List.zipWith ao.cells cM.ag [((some ⟨b5,0,none⟩),2)])),_,_,_]) 1 rfl (by intro x hx; change x∈[ao.cells pQ ((some ⟨b5,0,none⟩),2)] at hx; rw [List.mem_singleton.1 hx]; rfl) rfl (by show _≤maxLen; exact Nat.le_trans (m:=10) (by first|decide|(show (1:Nat)≤10; decide)) (by decide)) rfl ?_
 refine g6 (es:=(cM.aa.map aT.cells)) (C':=[(own (some ⟨b7,0,none⟩) 3 101 4 (cM.aa.map aT.cells)),_,_,_,_]) 0 rfl (lW aT.aM _) rfl (by show _≤maxLen; exact Nat.le_trans (m:=10) (by first|decide|(show (1:Nat)≤10; decide)) (by decide)) rfl<|xN<|BB (X:=[]) (X':=aP ao.owns cM.ag [((some ⟨b5,0,none⟩),2)]) 0 3 rfl rfl rfl<|CU rfl DR rfl<|RK hK3<|aE ?_
 refine hQ _ _ _ (bD (vs:=[(Value.agg (aG.cells (aG.mk (ay.mk (aA.mk (some ⟨b4,0,none⟩) 1 1)) 2000 (aA.mk (some ⟨b6,0,none⟩) 1 1) (aA.mk (some ⟨b7,0,none⟩) 3 3) 1 1 1)).toArray)]) ⟨⟨_,rfl,.inl ⟨_,_,eP,cd (vs:=(aG.cells (aG.mk (ay.mk (aA.mk (some ⟨b4,0,none⟩) 1 1)) 2000 (aA.mk (some ⟨b6,0,none⟩) 1 1) (aA.mk (some ⟨b7,0,none⟩) 3 3) 1 1 1))) 4 rfl rfl,rfl,rfl⟩⟩,trivial⟩ fun w hs=>fj ((some ⟨b4,0,none⟩),1,(some ⟨b6,0,none⟩),1,[((some ⟨b5,0,none⟩),2)],(some ⟨b7,0,none⟩),3) [3,2,0,1] ?_ ?_ rfl rfl (by simp only [List.all_cons,List.all_nil,ou,Bool.and_true]; rfl) hs)
 ·rfl
 ·exact ⟨rfl,A_ _ (by decide)⟩
set_option maxRecDepth 100000 in
set_option maxHeartbeats 400000 in
theorem zM:
 rM Tryz.prog 49 [(Value.int .i64 0)] [] (fun (x:(Option Addr)×Nat×(Option Addr)×Nat×(List RA)×(Option Addr)×Nat)=>(Value.agg (aG.cells (aG.mk (ay.mk (aA.mk x.1 hM.au.length x.2.1)) hM.bJ (aA.mk x.2.2.1 hM.ag.length x.2.2.2.1) (aA.mk x.2.2.2.2.2.1 hM.aa.length x.2.2.2.2.2.2) hM.aB hM.aZ hM.aO)).toArray)) (fun (x:(Option Addr)×Nat×(Option Addr)×Nat×(List RA)×(Option Addr)×Nat)=>x.2.2.2.2.1.length=hM.ag.length∧dM hM x.2.2.2.2.1) (fun (x:(Option Addr)×Nat×(Option Addr)×Nat×(List RA)×(Option Addr)×Nat)=>[(own x.1 x.2.1 141 9 (hM.au.map ah.cells)),(own x.2.2.1 x.2.2.2.1 63 2 (List.zipWith ao.cells hM.ag x.2.2.2.2.1)),(bw (aP ao.owns hM.ag x.2.2.2.2.1)),(own x.2.2.2.2.2.1 x.2.2.2.2.2.2 101 4 (hM.aa.map aT.cells))]):=by
 refine gX Dq Tryz.func49 rfl rfl fun w0 Q hQ hN=>?_
 try dsimp only
 refine WS fun _ hK1=>AL rfl C6 fun b2=>RK hK1<|WS fun _ hK3=>rS (CL (fM 10000 10200) (ar) rfl)<|rS (SX (aS (xs:=[(0,.const (Value.int .i64 1)),(1,.tmp 3)]) (cs:=(ah.cells (ah.mk 1 (ab.mk 10000 10200) (ab.mk 0 0) (ab.mk 0 0) 0 0))) rfl rfl (aR Bi rfl)) rfl rfl)<|dV (xs:=[.tmp 4]) (cs:=(ah.cells (ah.mk 1 (ab.mk 10000 10200) (ab.mk 0 0) (ab.mk 0 0) 0 0))) rfl ru uq rfl rfl rfl rfl (by simp [Value.cells,ah.aM]) rfl rfl fun b4=>rS (SX (aS (xs:=[(0,.tmp 5)]) (cs:=(ay.cells (ay.mk (aA.mk (some ⟨b4,0,none⟩) 1 1)))) rfl rfl (aR DL rfl)) rfl rfl)<|rS (MV rfl)<|rS (CL (fM 0 2) (ar) rfl) ?_
 refine rS (SX (aS (xs:=[(0,.const (Value.int .i64 0)),(1,.tmp 8)]) (cs:=(bI.cells (bI.mk 0 (ab.mk 0 2)))) rfl rfl (aR Ac rfl)) rfl rfl)<|rS (CL (fM 5 6) (ar) rfl)<|rS (SX (aS (xs:=[(0,.const (Value.int .i64 100000)),(1,.tmp 10)]) (cs:=(bI.cells (bI.mk 100000 (ab.mk 5 6)))) rfl rfl (aR Ac rfl)) rfl rfl)<|dV (xs:=[.tmp 9,.tmp 11]) (cs:=((bI.cells (bI.mk 0 (ab.mk 0 2)))++(bI.cells (bI.mk 100000 (ab.mk 5 6))))) rfl rq rn rfl rfl rfl rfl (by simp [Value.cells,bI.aM]) rfl rfl fun b5=>rS (SX (aS (xs:=[(0,.const (Value.int .i64 100)),(1,.tmp 12)]) (cs:=(b_.cells (b_.mk 100 (aA.mk (some ⟨b5,0,none⟩) 2 2)))) rfl rfl (aR DV rfl)) rfl rfl)<|dV (xs:=[.tmp 13]) (cs:=(b_.cells (b_.mk 100 (aA.mk (some ⟨b5,0,none⟩) 2 2)))) rfl vj B6 rfl rfl rfl rfl (by simp [Value.cells,b_.aM]) rfl rfl fun b6=>rS (CL (fM 1000 1000) (ar) rfl)<|rS (SX (aS (xs:=[(1,.tmp 15)]) (cs:=(br.cells (br.mk 0 (ab.mk 1000 1000)))) rfl rfl (aR wR rfl)) rfl rfl)<|rS (SX (aS (xs:=[(0,.tmp 16)]) (cs:=(aT.cells (aT.mk (br.mk 0 (ab.mk 1000 1000)) 0))) rfl rfl (aR rE rfl)) rfl rfl)<|rS (CL (fM 4000 4000) (ar) rfl) ?_
 refine rS (SX (aS (xs:=[(1,.tmp 18)]) (cs:=(br.cells (br.mk 0 (ab.mk 4000 4000)))) rfl rfl (aR wR rfl)) rfl rfl)<|rS (SX (aS (xs:=[(0,.tmp 19)]) (cs:=(aT.cells (aT.mk (br.mk 0 (ab.mk 4000 4000)) 0))) rfl rfl (aR rE rfl)) rfl rfl)<|rS (CL (fM 9000 9000) (ar) rfl)<|rS (SX (aS (xs:=[(1,.tmp 21)]) (cs:=(br.cells (br.mk 0 (ab.mk 9000 9000)))) rfl rfl (aR wR rfl)) rfl rfl)<|rS (SX (aS (xs:=[(0,.tmp 22)]) (cs:=(aT.cells (aT.mk (br.mk 0 (ab.mk 9000 9000)) 0))) rfl rfl (aR rE rfl)) rfl rfl)<|dV (xs:=[.tmp 17,.tmp 20,.tmp 23]) (cs:=((aT.cells (aT.mk (br.mk 0 (ab.mk 1000 1000)) 0))++(aT.cells (aT.mk (br.mk 0 (ab.mk 4000 4000)) 0))++(aT.cells (aT.mk (br.mk 0 (ab.mk 9000 9000)) 0)))) rfl pL Bs rfl rfl rfl rfl (by simp [Value.cells,aT.aM]) rfl rfl fun b7=>rS (SX (aS (xs:=[(0,.tmp 6),(1,.const (Value.int .i64 2000)),(4,.const (Value.int .i64 1)),(5,.tmp 7),(6,.const (Value.int .i64 1)),(2,.tmp 14),(3,.tmp 24)]) (cs:=(aG.cells (aG.mk (ay.mk (aA.mk (some ⟨b4,0,none⟩) 1 1)) 2000 (aA.mk (some ⟨b6,0,none⟩) 1 1) (aA.mk (some ⟨b7,0,none⟩) 3 3) 1 0 1))) rfl rfl (aR EF rfl)) rfl rfl)<|g6 (es:=(hM.au.map ah.cells)) (C':=[_,_,_,(own (some ⟨b4,0,none⟩) 1 141 9 (hM.au.map ah.cells)),_]) 3 rfl (lW ah.aM _) rfl (by show _≤maxLen; exact Nat.le_trans (m:=10) (by first|decide|(show (1:Nat)≤10; decide)) (by decide)) rfl<|g6 (es:=(pQ.aJ.map bI.cells)) (C':=[_,_,(own (some ⟨b5,0,none⟩) 2 65 3 (pQ.aJ.map bI.cells)),_,_]) 2 rfl (lW bI.aM _) rfl (by show _≤maxLen; exact Nat.le_trans (m:=10) (by first|decide|(show (1:Nat)≤10; decide)) (by decide)) rfl<|g6 (es:=(List.zipWith ao.cells hM.ag [((some ⟨b5,0,none⟩),2)])) (C':=[_,(own (some ⟨b6,0,none⟩) 1 63 2 (List.zipWith ao.cells hM.ag [((some ⟨b5,0,none⟩),2)])),_,_,_]) 1 rfl (by intro x hx; change x∈[ao.cells pQ ((some ⟨b5,0,none⟩),2)] at hx; rw [List.mem_singleton.1 hx]; rfl) rfl (by show _≤maxLen; exact Nat.le_trans (m:=10) (by first|decide|(show (1:Nat)≤10; decide)) (by decide)) rfl ?_
 refine g6 (es:=(hM.aa.map aT.cells)) (C':=[(own (some ⟨b7,0,none⟩) 3 101 4 (hM.aa.map aT.cells)),_,_,_,_]) 0 rfl (lW aT.aM _) rfl (by show _≤maxLen; exact Nat.le_trans (m:=10) (by first|decide|(show (1:Nat)≤10; decide)) (by decide)) rfl<|xN<|BB (X:=[]) (X':=aP ao.owns hM.ag [((some ⟨b5,0,none⟩),2)]) 0 3 rfl rfl rfl<|CU rfl DR rfl<|RK hK3<|aE ?_
 refine hQ _ _ _ (bD (vs:=[(Value.agg (aG.cells (aG.mk (ay.mk (aA.mk (some ⟨b4,0,none⟩) 1 1)) 2000 (aA.mk (some ⟨b6,0,none⟩) 1 1) (aA.mk (some ⟨b7,0,none⟩) 3 3) 1 0 1)).toArray)]) ⟨⟨_,rfl,.inl ⟨_,_,eP,cd (vs:=(aG.cells (aG.mk (ay.mk (aA.mk (some ⟨b4,0,none⟩) 1 1)) 2000 (aA.mk (some ⟨b6,0,none⟩) 1 1) (aA.mk (some ⟨b7,0,none⟩) 3 3) 1 0 1))) 4 rfl rfl,rfl,rfl⟩⟩,trivial⟩ fun w hs=>fj ((some ⟨b4,0,none⟩),1,(some ⟨b6,0,none⟩),1,[((some ⟨b5,0,none⟩),2)],(some ⟨b7,0,none⟩),3) [3,2,0,1] ?_ ?_ rfl rfl (by simp only [List.all_cons,List.all_nil,ou,Bool.and_true]; rfl) hs)
 ·rfl
 ·exact ⟨rfl,A_ _ (by decide)⟩
set_option maxRecDepth 100000 in
set_option maxHeartbeats 400000 in
theorem kP:
 rM Tryz.prog 50 [] [] (fun (x:(Option Addr)×Nat)=>(Value.agg (aN.cells (aN.mk gj.Start gj.dw (aA.mk x.1 gj.ae.length x.2))).toArray)) (fun (x:(Option Addr)×Nat)=>True) (fun (x:(Option Addr)×Nat)=>[(own x.1 x.2 67 2 (gj.ae.map av.cells))]):=by
 refine gX E1 Tryz.func50 rfl rfl fun w0 Q hQ hN=>?_
 try dsimp only
 refine WS fun _ hK1=>AL rfl Ai fun b2=>RK hK1<|WS fun _ hK3=>rS (SX (aS (xs:=[(0,.const (Value.int .i64 0)),(1,.const (Value.int .i64 10600))]) (cs:=(av.cells (av.mk 0 10600))) rfl rfl (aR vp rfl)) rfl rfl)<|rS (SX (aS (xs:=[(0,.const (Value.int .i64 0)),(1,.const (Value.int .i64 11000))]) (cs:=(av.cells (av.mk 0 11000))) rfl rfl (aR vp rfl)) rfl rfl)<|rS (SX (aS (xs:=[(0,.const (Value.int .i64 1)),(1,.const (Value.int .i64 12600))]) (cs:=(av.cells (av.mk 1 12600))) rfl rfl (aR vp rfl)) rfl rfl)<|dV (xs:=[.tmp 1,.tmp 2,.tmp 3]) (cs:=((av.cells (av.mk 0 10600))++(av.cells (av.mk 0 11000))++(av.cells (av.mk 1 12600)))) rfl sH qe rfl rfl rfl rfl (by simp [Value.cells,av.aM]) rfl rfl fun b4=>rS (SX (aS (xs:=[(0,.const (Value.int .i64 10000)),(1,.const (Value.int .i64 20000)),(2,.tmp 4)]) (cs:=(aN.cells (aN.mk 10000 20000 (aA.mk (some ⟨b4,0,none⟩) 3 3)))) rfl rfl (aR Fl rfl)) rfl rfl)<|g6 (es:=(gj.ae.map av.cells)) (C':=[(own (some ⟨b4,0,none⟩) 3 67 2 (gj.ae.map av.cells)),_]) 0 rfl (lW av.aM _) rfl (by decide) rfl ?_
 refine oL rfl rk rfl<|RK hK3<|aE ?_
 refine hQ _ _ _ (bD (vs:=[(Value.agg (aN.cells (aN.mk 10000 20000 (aA.mk (some ⟨b4,0,none⟩) 3 3))).toArray)]) ⟨⟨_,rfl,.inl ⟨_,_,gE,cd (vs:=(aN.cells (aN.mk 10000 20000 (aA.mk (some ⟨b4,0,none⟩) 3 3)))) 1 rfl rfl,rfl,rfl⟩⟩,trivial⟩ fun w hs=>fj ((some ⟨b4,0,none⟩),3) [0] ?_ ?_ rfl rfl rfl hs)
 ·rfl
 ·trivial
end
end Go.Proofs.YthiigjekcdjkkaaGreat
