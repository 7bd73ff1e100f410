/-
 The statement beamClear_said, part 5 of 5: A2, B7, B8, B9, R1, D1, D2, L8, LineOpen, Clear0.
 Conditions: none.
-/
import Derived.Test.YthiigjekcdjkkaaGreatCl1
import Derived.Test.YthiigjekcdjkkaaGreatCl2
import Derived.Test.YthiigjekcdjkkaaGreatCl3
import Derived.Test.YthiigjekcdjkkaaGreatCl4
import Derived.Test.YthiigjekcdjkkaaGreatRows
import Derived.Test.YthiigjekcdjkkaaGreatProg
import Derived.KernelRfl
namespace Go.Proofs.YthiigjekcdjkkaaGreat
section
open Go.RowKit
set_option linter.unusedVariables false
set_option maxRecDepth 100000 in
set_option maxHeartbeats 400000 in
theorem wN (x:Int) (lo:Int) (hi:Int):
 dY Tryz.prog 51 [(Value.int .i64 x),(Value.int .i64 lo),(Value.int .i64 hi)] [] (Value.bool (decide (gN cM 0 x=0∧cN cM 0 x=ab.mk lo hi))):=by
 refine bG FF Tryz.func51 rfl rfl fun w0 Q hQ hN=>?_
 try dsimp only
 refine WS fun _ hK1=>rS (AG rfl)<|RK hK1<|WS fun _ hK2=>cX m7 (ar) rfl fun y3 hy4=>?_
 obtain ⟨a15,c16,a27,c28,bz9,a310,c311⟩:=y3
 try dsimp only
 obtain ⟨hbz,hlin⟩:=hy4
 refine rS (MV rfl)<|rS (CL (vv cM a15 c16 bz9 a27 c28 a310 c311 0 x (by exact hlin)) (aF (ak (n:=cM.au.length) 0 rfl (by simp))<|aF (ak (n:=cM.ag.length) 1 rfl (lJ (by first|exact hbz|assumption)))<|aF (eo 2 rfl jT)<|aF (ak (n:=cM.aa.length) 3 rfl (by simp))<|ar) rfl)<|rS (MV rfl)<|rS (EX rfl)<|rS (EX rfl)<|AL rfl dk fun b12=>e7 rfl cv rfl<|rS (AG rfl)<|RK hK2<|aw fun _ hK13=>?_
 refine dj ct 10 (by kernel_rfl)<|dS (MV rfl)<|dS (BI rfl eC)<|dS (MV rfl) ?_
 refine db (t:=17) rfl (fun h17=>?_) (fun h17=>?_)
 rotate_left 1
 ·replace h17:=DF h17
  refine dS (OX rfl)<|dS (OX rfl)<|dS (OX rfl)<|dS (OX rfl)<|dS (OX rfl)<|dS (PK rfl)<|dS (AG rfl)<|cE<|RK hK13<|aE ?_
  refine Q1 hQ rfl rfl rfl ?_
  first|exact congrArg Value.bool (decide_eq_false fun q=>h17 q.1).symm|exact congrArg Value.bool (decide_eq_decide.2 ⟨fun q=>⟨h17,q⟩,fun q=>q.2⟩)
 replace h17:=DT h17
 refine dS (LW 0 rfl cB rfl rfl)<|dS (MV rfl)<|dS (MV rfl)<|dS (CL (fM lo hi) (ar) rfl)<|dS (BI rfl (rX _ _ (cN cM 0 x) (ab.mk lo hi)))<|dS (PK rfl)<|dS (AG rfl)<|cE<|RK hK13<|aE ?_
 refine Q1 hQ rfl rfl rfl ?_
 first|exact congrArg Value.bool (decide_eq_false fun q=>h17 q.1).symm|exact congrArg Value.bool (decide_eq_decide.2 ⟨fun q=>⟨h17,q⟩,fun q=>q.2⟩)
set_option maxRecDepth 100000 in
set_option maxHeartbeats 400000 in
theorem qw (x:Int) (lo:Int) (hi:Int):
 dY Tryz.prog 52 [(Value.int .i64 x),(Value.int .i64 lo),(Value.int .i64 hi)] [] (Value.bool (decide (cS cM gj x=0∧bR cM gj x=ab.mk lo hi))):=by
 refine bG Fj Tryz.func52 rfl rfl fun w0 Q hQ hN=>?_
 try dsimp only
 refine WS fun _ hK1=>rS (AG rfl)<|RK hK1<|WS fun _ hK2=>cX m7 (ar) rfl fun y3 hy4=>?_
 obtain ⟨a15,c16,a27,c28,bz9,a310,c311⟩:=y3
 try dsimp only
 obtain ⟨hbz,hlin⟩:=hy4
 refine cX kP (ar) rfl fun y12 hy13=>?_
 obtain ⟨a14,c15⟩:=y12
 try dsimp only
 refine rS (MV rfl)<|rS (CL (ld cM a15 c16 bz9 a27 c28 a310 c311 gj a14 c15 x (by exact hlin) (by decide)) (aF (ak (n:=cM.au.length) 1 rfl (by simp))<|aF (ak (n:=cM.ag.length) 2 rfl (lJ (by first|exact hbz|assumption)))<|aF (eo 3 rfl jT)<|aF (ak (n:=cM.aa.length) 4 rfl (by simp))<|aF (ak (n:=gj.ae.length) 0 rfl (by simp))<|ar) rfl)<|rS (MV rfl)<|rS (EX rfl)<|rS (EX rfl)<|AL rfl dk fun b16=>e7 rfl cv rfl<|rS (AG rfl)<|RK hK2<|aw fun _ hK17=>?_
 refine dj ct 10 (by kernel_rfl)<|dS (MV rfl)<|dS (BI rfl eC)<|dS (MV rfl) ?_
 refine db (t:=18) rfl (fun h18=>?_) (fun h18=>?_)
 rotate_left 1
 ·replace h18:=DF h18
  refine dS (OX rfl)<|dS (OX rfl)<|dS (OX rfl)<|dS (OX rfl)<|dS (OX rfl)<|dS (PK rfl)<|dS (AG rfl)<|cE<|RK hK17<|aE ?_
  refine Q1 hQ rfl rfl rfl ?_
  first|exact congrArg Value.bool (decide_eq_false fun q=>h18 q.1).symm|exact congrArg Value.bool (decide_eq_decide.2 ⟨fun q=>⟨h18,q⟩,fun q=>q.2⟩)
 replace h18:=DT h18
 refine dS (LW 0 rfl cB rfl rfl)<|dS (MV rfl)<|dS (MV rfl)<|dS (CL (fM lo hi) (ar) rfl)<|dS (BI rfl (rX _ _ (bR cM gj x) (ab.mk lo hi)))<|dS (PK rfl)<|dS (AG rfl)<|cE<|RK hK17<|aE ?_
 refine Q1 hQ rfl rfl rfl ?_
 first|exact congrArg Value.bool (decide_eq_false fun q=>h18 q.1).symm|exact congrArg Value.bool (decide_eq_decide.2 ⟨fun q=>⟨h18,q⟩,fun q=>q.2⟩)
set_option maxRecDepth 100000 in
set_option maxHeartbeats 400000 in
theorem AO:
 dY Tryz.prog 25 [] [] (Value.bool true):=by
 have hxl:gj.ae.length=3:=rfl
 refine bG GR Tryz.func25 rfl rfl fun w0 Q hQ hN=>?_
 try dsimp only
 refine WS fun _ hK1=>rS (AG rfl)<|RK hK1<|WS fun _ hK2=>cX m7 (ar) rfl fun y3 hy4=>?_
 obtain ⟨a15,c16,a27,c28,bz9,a310,c311⟩:=y3
 try dsimp only
 obtain ⟨hbz,hlin⟩:=hy4
 refine cX kP (ar) rfl fun y12 hy13=>?_
 obtain ⟨a14,c15⟩:=y12
 try dsimp only
 refine rS (SX (oT (v:=(Value.slice a14 gj.ae.length c15)) rfl rfl hH CB rfl) rfl rfl) ?_
 obtain ⟨x,hx⟩: ∃ y_,gj.ae[0]? =some y_:=⟨gj.ae[0]'(by omega),List.getElem?_eq_getElem _⟩
 have hxm:(gj.ae.map av.cells)[0]? =some (av.cells x):=by rw [List.getElem?_map,hx]; rfl
 refine rS (IA 0 rfl (ak (n:=gj.ae.length) 0 rfl (by simp)) sH (by decide) rfl (by omega))<|rS (kE 0 0 (av.cells x) rfl iI (ak (n:=gj.ae.length) 0 rfl (by simp)) hxm rfl (by decide) rfl rfl)<|rS (CL (Ce cM a15 c16 bz9 a27 c28 a310 c311 x (by exact hlin)) (aF (ak (n:=cM.au.length) 1 rfl (by simp))<|aF (ak (n:=cM.ag.length) 2 rfl (lJ (by first|exact hbz|assumption)))<|aF (eo 3 rfl jT)<|aF (ak (n:=cM.aa.length) 4 rfl (by simp))<|ar) rfl)<|rS (MV rfl)<|rS (EX rfl)<|rS (EX rfl)<|AL rfl dk fun b16=>e7 rfl cv rfl<|rS (AG rfl)<|RK hK2 ?_
 refine WS fun _ hK17=>cX m7 (ar) rfl fun y18 hy19=>?_
 obtain ⟨a120,c121,a222,c223,bz24,a325,c326⟩:=y18
 try dsimp only
 obtain ⟨hbz,hlin⟩:=hy19
 refine cX kP (ar) rfl fun y27 hy28=>?_
 obtain ⟨a29,c30⟩:=y27
 try dsimp only
 refine cX (pZ cM a120 c121 bz24 a222 c223 a325 c326 gj a29 c30 (by exact hlin) (by decide)) (aF (ak (n:=cM.au.length) 1 rfl (by simp))<|aF (ak (n:=cM.ag.length) 2 rfl (lJ (by first|exact hbz|assumption)))<|aF (eo 3 rfl jT)<|aF (ak (n:=cM.aa.length) 4 rfl (by simp))<|aF (ak (n:=gj.ae.length) 0 rfl (by simp))<|ar) rfl fun y31 hy32=>?_
 obtain ⟨a33,c34⟩:=y31
 try dsimp only
 refine rS (MV rfl)<|rS (EX rfl)<|rS (EX rfl)<|rS (AG rfl)<|rS (AG rfl)<|RK hK17<|WS fun _ hK35=>cX m7 (ar) rfl fun y36 hy37=>?_
 obtain ⟨a138,c139,a240,c241,bz42,a343,c344⟩:=y36
 try dsimp only
 obtain ⟨hbz,hlin⟩:=hy37
 refine cX kP (ar) rfl fun y45 hy46=>?_
 obtain ⟨a47,c48⟩:=y45
 try dsimp only
 refine rS (CL (vz cM a138 c139 bz42 a240 c241 a343 c344 gj a47 c48 (by exact hlin) (by decide)) (aF (ak (n:=cM.au.length) 1 rfl (by simp))<|aF (ak (n:=cM.ag.length) 2 rfl (lJ (by first|exact hbz|assumption)))<|aF (eo 3 rfl jT)<|aF (ak (n:=cM.aa.length) 4 rfl (by simp))<|aF (ak (n:=gj.ae.length) 0 rfl (by simp))<|ar) rfl)<|rS (MV rfl)<|rS (EX rfl)<|rS (EX rfl)<|rS (AG rfl)<|rS (AG rfl)<|RK hK35<|WS fun _ hK49=>cX m7 (ar) rfl fun y50 hy51=>?_
 obtain ⟨a152,c153,a254,c255,bz56,a357,c358⟩:=y50
 try dsimp only
 obtain ⟨hbz,hlin⟩:=hy51
 refine cX kP (ar) rfl fun y59 hy60=>?_
 obtain ⟨a61,c62⟩:=y59
 try dsimp only
 refine rS (CL (ux cM a152 c153 bz56 a254 c255 a357 c358 gj a61 c62 (by exact hlin) (by decide)) (aF (ak (n:=cM.au.length) 1 rfl (by simp))<|aF (ak (n:=cM.ag.length) 2 rfl (lJ (by first|exact hbz|assumption)))<|aF (eo 3 rfl jT)<|aF (ak (n:=cM.aa.length) 4 rfl (by simp))<|aF (ak (n:=gj.ae.length) 0 rfl (by simp))<|ar) rfl)<|rS (MV rfl)<|rS (EX rfl)<|rS (EX rfl)<|AL rfl dk fun b63=>e7 rfl cv rfl<|rS (AG rfl)<|RK hK49<|WS fun _ hK64=>cX zM (ar) rfl fun y65 hy66=>?_
 obtain ⟨a167,c168,a269,c270,bz71,a372,c373⟩:=y65
 try dsimp only
 obtain ⟨hbz,hlin⟩:=hy66
 refine cX kP (ar) rfl fun y74 hy75=>?_
 obtain ⟨a76,c77⟩:=y74
 try dsimp only
 refine cX (pZ hM a167 c168 bz71 a269 c270 a372 c373 gj a76 c77 (by exact hlin) (by decide)) (aF (ak (n:=hM.au.length) 1 rfl (by simp))<|aF (ak (n:=hM.ag.length) 2 rfl (lJ (by first|exact hbz|assumption)))<|aF (eo 3 rfl jT)<|aF (ak (n:=hM.aa.length) 4 rfl (by simp))<|aF (ak (n:=gj.ae.length) 0 rfl (by simp))<|ar) rfl fun y78 hy79=>?_
 obtain ⟨a80,c81⟩:=y78
 try dsimp only
 refine rS (MV rfl)<|rS (EX rfl)<|rS (EX rfl)<|rS (AG rfl)<|rS (AG rfl)<|RK hK64<|aw fun _ hK82=>lK ct [0,1,2,3,4,5,6,7,8,9,10,11,12,13,14,15] [16,17,18,19,20,21,22,23,24,25,26,27,28,29,30,31,32,33,34,35,36,37,38,39,40,41,42,43,44,45,46] [false,false,false,false,false,false,false,false,false,false,false,false,false,false,false,false] [] [(own a80 c81 3 1 ((cJ hM gj).map iC)),(own a76 c77 67 2 (gj.ae.map av.cells)),(own a167 c168 141 9 (hM.au.map ah.cells)),(own a269 c270 63 2 (List.zipWith ao.cells hM.ag bz71)),(bw (aP ao.owns hM.ag bz71)),(own a372 c373 101 4 (hM.aa.map aT.cells)),(aU b63 47 (ab.cells (l6 cM gj))),(own a61 c62 67 2 (gj.ae.map av.cells)),(own a152 c153 141 9 (cM.au.map ah.cells)),(own a254 c255 63 2 (List.zipWith ao.cells cM.ag bz56)),(bw (aP ao.owns cM.ag bz56)),(own a357 c358 101 4 (cM.aa.map aT.cells)),(own a47 c48 67 2 (gj.ae.map av.cells)),(own a138 c139 141 9 (cM.au.map ah.cells)),(own a240 c241 63 2 (List.zipWith ao.cells cM.ag bz42)),(bw (aP ao.owns cM.ag bz42)),(own a343 c344 101 4 (cM.aa.map aT.cells)),(own a33 c34 3 1 ((cJ cM gj).map iC)),(own a29 c30 67 2 (gj.ae.map av.cells)),(own a120 c121 141 9 (cM.au.map ah.cells)),(own a222 c223 63 2 (List.zipWith ao.cells cM.ag bz24)),(bw (aP ao.owns cM.ag bz24)),(own a325 c326 101 4 (cM.aa.map aT.cells)),(aU b16 47 (ab.cells (ju cM x))),(own a14 c15 67 2 (gj.ae.map av.cells)),(own a15 c16 141 9 (cM.au.map ah.cells)),(own a27 c28 63 2 (List.zipWith ao.cells cM.ag bz9)),(bw (aP ao.owns cM.ag bz9)),(own a310 c311 101 4 (cM.aa.map aT.cells))] [] (by kernel_rfl) (fun w hs=>St.bB [0,1,2,3,4,5,6,7,8,9,10,11,12,13,14,15,16,17,18,19,20,21,22,23,24,25,26,27,28] rfl rfl hs) (fun w hs=>St.bB [] rfl rfl hs)<|eS rfl (CL (wN 10000 (-1) 3) (ar) rfl)<|eS rfl (MV rfl) ?_
 refine pS (t:=45) rfl (fun h45=>?_) (fun h45=>?_)
 rotate_left 1
 ·replace h45:=DF h45
  exact absurd (yG) h45
 replace h45:=DT h45
 refine eS rfl (MV rfl)<|eS rfl (BI rfl eC)<|eS rfl (PK rfl)<|eS rfl (MV rfl) ?_
 refine pS (t:=49) rfl (fun h49=>?_) (fun h49=>?_)
 rotate_left 1
 ·replace h49:=DF h49
  exact absurd (by rw [ym hx]; exact vX.1) h49
 replace h49:=DT h49
 refine eS rfl (LW 23 rfl cB rfl rfl)<|eS rfl (CL (fM 10596 10602) (ar) rfl)<|eS rfl (BI rfl (rX _ _ (ju cM x) (ab.mk 10596 10602)))<|eS rfl (PK rfl)<|eS rfl (MV rfl) ?_
 refine pS (t:=54) rfl (fun h54=>?_) (fun h54=>?_)
 rotate_left 1
 ·replace h54:=DF h54
  exact absurd (by rw [ym hx]; exact vX.2) h54
 replace h54:=DT h54
 refine eS rfl (MV rfl)<|eS rfl (BI rfl eC)<|eS rfl (PK rfl)<|eS rfl (MV rfl) ?_
 refine pS (t:=58) rfl (fun h58=>?_) (fun h58=>?_)
 rotate_left 1
 ·replace h58:=DF h58
  exact absurd (mG) h58
 replace h58:=DT h58
 refine eS rfl (MV rfl)<|eJ rfl<|N1 16<|NO rfl rfl [17,18,19,20,21,22,23,24,25,26,27,28,29,30,31,32,33,34,35,36,37,38,39,40,41,42,43,44,45,46] fun T83 hT83=>dV (xs:=[.const (Value.int .i64 2),.const (Value.int .i64 3)]) (cs:=[(Value.int .i64 2),(Value.int .i64 3)]) rfl di kb rfl rfl rfl rfl (by simp [Value.cells]) rfl rfl fun b84=>RD hT83 1 rfl<|x4 [61,62,63,64,65,66,67,68,69,70,71,72,73,74,75,76,77,78,79,80,81,82,83,84,85,86,87,88,89,0] (by kernel_rfl) (by kernel_rfl) rfl _ rfl rfl (fun w hs=>St.bB [1,2,3,4,5,6,7,8,9,10,11,12,13,14,15,16,17,18,19,20,21,22,23,24,25,26,27,28,29] rfl rfl hs)<|dS (CL (u0 (cJ cM gj) a33 c34 ([2,3]) (some ⟨b84,0,none⟩) 2 (by rw [qi]; decide) (by decide)) (aF (ak (n:=(cJ cM gj).length) 18 rfl (by simp))<|aF (a4 0 rfl rfl (by simp [bO]) rfl)<|ar) rfl)<|dS (PK rfl)<|dS (MV rfl) ?_
 refine db (t:=63) rfl (fun h63=>?_) (fun h63=>?_)
 rotate_left 1
 ·replace h63:=DF h63
  exact absurd (qi) h63
 replace h63:=DT h63
 refine dS (MV rfl)<|dS (BI rfl eC)<|dS (PK rfl)<|dS (MV rfl) ?_
 refine db (t:=67) rfl (fun h67=>?_) (fun h67=>?_)
 rotate_left 1
 ·replace h67:=DF h67
  exact absurd (mG) h67
 replace h67:=DT h67
 refine dS (MV rfl)<|dS (BI rfl eC)<|dS (PK rfl)<|dS (MV rfl) ?_
 refine db (t:=71) rfl (fun h71=>?_) (fun h71=>?_)
 rotate_left 1
 ·replace h71:=DF h71
  exact absurd (yR) h71
 replace h71:=DT h71
 refine dS (CL (qw 0 10596 11002) (ar) rfl)<|dS (PK rfl)<|dS (MV rfl) ?_
 refine db (t:=74) rfl (fun h74=>?_) (fun h74=>?_)
 rotate_left 1
 ·replace h74:=DF h74
  exact absurd (xQ) h74
 replace h74:=DT h74
 refine dS (CL (qw 1 12596 12602) (ar) rfl)<|dS (PK rfl)<|dS (MV rfl) ?_
 refine db (t:=77) rfl (fun h77=>?_) (fun h77=>?_)
 rotate_left 1
 ·replace h77:=DF h77
  exact absurd (oA) h77
 replace h77:=DT h77
 refine dS (MV rfl)<|dS (BI rfl eC)<|dS (PK rfl)<|dS (MV rfl) ?_
 refine db (t:=81) rfl (fun h81=>?_) (fun h81=>?_)
 rotate_left 1
 ·replace h81:=DF h81
  exact absurd (zq.1) h81
 replace h81:=DT h81
 refine dS (LW 7 rfl cB rfl rfl)<|dS (CL (fM 2596 2602) (ar) rfl)<|dS (BI rfl (rX _ _ (l6 cM gj) (ab.mk 2596 2602)))<|dS (PK rfl)<|dS (MV rfl) ?_
 refine db (t:=86) rfl (fun h86=>?_) (fun h86=>?_)
 rotate_left 1
 ·replace h86:=DF h86
  exact absurd (zq.2) h86
 replace h86:=DT h86
 refine dS (MV rfl)<|dS (BI rfl eC)<|dS (PK rfl)<|dS (AG rfl)<|cE<|RK hK82<|aE<|Q1 hQ rfl rfl rfl ?_
 exact congrArg Value.bool (decide_eq_true yO)
end
section
open Go.RowKit
set_option linter.unusedVariables false
set_option maxRecDepth 100000 in
set_option maxHeartbeats 400000 in
theorem fw (n:Int) (lo:Int) (hi:Int):
 dY Tryz.prog 43 [(Value.int .i64 n),(Value.int .i64 lo),(Value.int .i64 hi)] [] (Value.bool (decide (lo≤n∧n≤hi))):=by
 refine bG EW Tryz.func43 rfl rfl fun w0 Q hQ hN=>?_
 try dsimp only
 refine WS fun _ hK1=>rS (AG rfl)<|RK hK1<|WS fun _ hK2=>rS (MV rfl)<|rS (MV rfl)<|rS (BI rfl il)<|rS (MV rfl) ?_
 refine bo (t:=10) rfl (fun h3=>?_) (fun h3=>?_)
 rotate_left 1
 ·replace h3:=DF h3
  refine rS (OX rfl)<|rS (OX rfl)<|rS (OX rfl)<|rS (PK rfl)<|rS (AG rfl)<|RK hK2<|aE<|Q1 hQ rfl rfl rfl ?_
  exact congrArg Value.bool (decide_eq_false (by omega)).symm
 replace h3:=DT h3
 refine rS (MV rfl)<|rS (MV rfl)<|rS (BI rfl eT)<|rS (PK rfl)<|rS (AG rfl)<|RK hK2<|aE<|Q1 hQ rfl rfl rfl ?_
 exact congrArg Value.bool (decide_eq_decide.2 (by omega))
set_option maxRecDepth 100000 in
set_option maxHeartbeats 400000 in
theorem tp (ts:List ah) (tsA:Option Addr) (tsC:Nat) (hst: ∀ x∈ts,a5 x) (hlen:ts.length≤12):
 rM Tryz.prog 136 [(Value.agg (ay.cells (ay.mk (aA.mk tsA ts.length tsC))).toArray)] [(rd tsA ts.length 9 (ts.map ah.cells))] (fun (x:(Option Addr)×Nat)=>(Value.slice x.1 ((ed ts (ts.length+1)).length) x.2)) (fun (x:(Option Addr)×Nat)=>True) (fun (x:(Option Addr)×Nat)=>[(own x.1 x.2 47 2 ((ed ts (ts.length+1)).map ab.cells))]):=by
 refine gX Ds Tryz.func136 rfl rfl fun w0 Q hQ hN=>?_
 try dsimp only
 refine WS fun _ hK1=>gv rfl fun b2=>rS (AG rfl)<|RK hK1<|WS fun _ hK3=>rS (AG rfl)<|RK hK3<|aw fun _ hK4=>WS fun _ hK5=>rS (AG rfl) ?_
 refine RK hK5<|aH<|fY 47 2 ?_
 have hinit:(0≤ts.length+1):=by exact Nat.zero_le _
 refine cP (ι:={z:Nat×(Option Addr)×Nat // (z.1≤ts.length+1)}) (fun z=>[(1,(Value.pointer (some ⟨b2,0,none⟩))),(3,(Value.slice z.1.2.1 ((ed ts z.1.1).length) z.1.2.2)),(4,(Value.int .i64 ((z.1.1:Nat):Int)))]) (fun z=>[(own z.1.2.1 z.1.2.2 47 2 ((ed ts z.1.1).map ab.cells)),(aU b2 24 (ay.cells (ay.mk (aA.mk tsA ts.length tsC)))),(rd tsA ts.length 9 (ts.map ah.cells)).ro]) (fun z=>ts.length+1-z.1.1) ⟨(0,none,0),hinit⟩ (an.cons rfl<|an.cons rfl<|an.cons rfl<|an.nil _) (fun w hs=>St.bB [0,1,2] rfl rfl hs) ?_
 clear hinit
 rintro ⟨⟨i,a,c⟩,hl0_0⟩ J6 hJ6
 try dsimp only at hl0_0
 try dsimp only
 refine aw fun _ hK7=>WS fun _ hK8=>rS (MV rfl)<|rS (FA 0 rfl hU rfl)<|rS (L1 (Value.slice tsA ts.length tsC) 1 rfl nh rfl rfl)<|rS (LN rfl rj)<|rS (BI rfl eT)<|RK hK8 ?_
 refine bp rfl (fun h9=>?_) (fun h9=>?_)
 rotate_left 1
 ·replace h9:=DF h9
  refine bM<|ai<|ai<|aI<|KK hK4<|WS fun _ hK18=>?_
  obtain rfl:i=ts.length+1:=by omega
  refine rS (MV rfl)<|rS (AG rfl)<|RK hK18<|aE ?_
  refine hQ _ _ _ (bD (vs:=[(Value.slice a ((ed ts (ts.length+1)).length) c)]) ⟨rfl,trivial⟩ fun w hs=>fj (a,c) [0] ?_ ?_ rfl rfl rfl hs)
  ·rfl
  ·trivial
 replace h9:=DT h9
 refine WK hK7<|aw fun _ hK10=>aH<|WS fun _ hK11=>rS (LW 1 rfl jx rfl rfl)<|rS (MV rfl)<|rS (CL (ss ts tsA tsC 0 ((i:Nat):Int) hst hlen (by omega)) (ax 2 rfl rfl<|ar) rfl)<|rS (MV rfl)<|rS (EX rfl)<|rS (EX rfl) ?_
 refine AL rfl dk fun b12=>AL rfl dk fun b13=>oL rfl cv rfl<|e7 rfl cv rfl<|RK hK11<|aC<|rS (MV rfl)<|rS (LW 1 rfl cB rfl rfl)<|dV (xs:=[.tmp 21]) (cs:=(ab.cells (bS ts (0:Int).toNat (((i:Nat):Int)-0).toNat))) rfl k8 dk rfl rfl rfl rfl (by simp [Value.cells,ab.aM]) rfl rfl fun b14=>gz (es2:=(List.map ab.cells (ed ts (i+1)))) (m':=(ed ts (i+1)).length) 3 rfl rfl rfl D3 rfl rfl (by simp) (a4 (es:=List.map ab.cells [(bS ts (0:Int).toNat (((i:Nat):Int)-0).toNat)]) 0 rfl rfl (by simp [ab.aM]) rfl) (pN _) (by simp only [kI]; omega) (by simp only [maxLen,kI]; omega) (by rw [tM]; simp) (by simp) rfl fun a15 c16=>?_
 try dsimp only
 refine rS (AG rfl)<|aX<|aL<|KK hK10<|aC<|rS (MV rfl)<|rS (BI rfl (a9 ⟨by omega,by omega⟩))<|rS (AG rfl)<|aX ?_
 have hb17:(Value.int .i64 (((i+1):Nat):Int))=(Value.int .i64 (((i:Nat):Int)+1)):=by exact congrArg (Value.int .i64) (by omega)
 refine aY (hJ6 ⟨((i+1),a15,c16),(by first|omega|(simp only []; omega))⟩ _ _ _ rfl (by first|omega|(simp; omega)) (an.cons rfl<|an.cons rfl<|a_ rfl hb17<|an.nil _) (fun w hs=>St.bB [3,4,5] rfl rfl hs))
set_option maxRecDepth 100000 in
set_option maxHeartbeats 400000 in
theorem DK (ts:List ah) (tsA:Option Addr) (tsC:Nat) (s:br) (hlen:ts.length≤1000000) (hside: ∀ x∈ts,0≤x.fx∧x.fx≤255):
 dY Tryz.prog 122 [(Value.agg (ay.cells (ay.mk (aA.mk tsA ts.length tsC))).toArray),(Value.agg (br.cells s).toArray)] [(rd tsA ts.length 9 (ts.map ah.cells))] (Value.tuple [(Value.agg (ab.cells (s_ ts s)).toArray),(Value.int .i64 (qg ts s))].toArray):=by
 refine bG C8 Tryz.func122 rfl rfl fun w0 Q hQ hN=>?_
 try dsimp only
 refine WS fun _ hK1=>gv rfl fun b2=>gv rfl fun b3=>AL rfl dk fun b4=>rS (AG rfl)<|RK hK1<|aw fun _ hK5=>WS fun _ hK6=>rS (LW 2 rfl jx rfl rfl)<|rS (CL (pX ts tsA tsC hlen) (ax 3 rfl rfl<|ar) rfl) ?_
 refine rS (NT rfl)<|RK hK6 ?_
 refine bp rfl (fun h9=>?_) (fun h9=>?_)
 ·rw [Bool.not_eq_true'] at h9
  refine WS fun _ hK7=>rS (SX (aS (xs:=[]) (cs:=(ab.cells (ab.mk 0 0))) rfl rfl (aR fG rfl)) rfl rfl)<|e7 rfl cv rfl<|rS (AG rfl)<|RK hK7<|aE ?_
  refine hQ _ _ _ (bD (vs:=[(Value.agg (ab.cells (ab.mk 0 0)).toArray),(Value.int .i64 10)]) ⟨⟨_,rfl,.inl ⟨_,_,cB,cd (vs:=(ab.cells (ab.mk 0 0))) 0 rfl rfl,rfl,rfl⟩⟩,rfl,trivial⟩ fun w hs=>eR ?_ hs)
  show (Value.tuple [(Value.agg (ab.cells (ab.mk 0 0)).toArray),(Value.int .i64 10)].toArray)=(Value.tuple [(Value.agg (ab.cells (s_ ts s)).toArray),(Value.int .i64 (qg ts s))].toArray)
  clear hs w hQ hN hK7 hK6 hK5 hK1
  first|(have e:=lI (s:=s) (by simpa using h9); rw [e.1,e.2]<;>rfl)|(have e:=lQ h9 h14; rw [e.1,e.2]<;>rfl)|(have e:=kS h9 h14; subst hzm; rw [e.1,e.2]<;>rfl)
 rw [Bool.not_eq_false'] at h9
 refine WK hK5<|aw fun _ hK8=>WS fun _ hK9=>?_
 have hst:=gV h9
 have hl12:=iv h9
 refine rS (LW 2 rfl jx rfl rfl)<|rS (LW 1 rfl ki rfl rfl)<|rS (CL (mO ts tsA tsC s (by first|assumption|omega|(simp; done)|(simp; omega)) (by first|assumption|omega|(simp; done)|(simp; omega))) (ax 3 rfl rfl<|ar) rfl)<|rS (NT rfl)<|RK hK9 ?_
 refine bp rfl (fun h14=>?_) (fun h14=>?_)
 ·replace h14:=XT h14
  refine WS fun _ hK10=>rS (SX (aS (xs:=[]) (cs:=(ab.cells (ab.mk 0 0))) rfl rfl (aR fG rfl)) rfl rfl)<|e7 rfl cv rfl<|rS (AG rfl)<|RK hK10<|aE ?_
  refine hQ _ _ _ (bD (vs:=[(Value.agg (ab.cells (ab.mk 0 0)).toArray),(Value.int .i64 12)]) ⟨⟨_,rfl,.inl ⟨_,_,cB,cd (vs:=(ab.cells (ab.mk 0 0))) 0 rfl rfl,rfl,rfl⟩⟩,rfl,trivial⟩ fun w hs=>eR ?_ hs)
  show (Value.tuple [(Value.agg (ab.cells (ab.mk 0 0)).toArray),(Value.int .i64 12)].toArray)=(Value.tuple [(Value.agg (ab.cells (s_ ts s)).toArray),(Value.int .i64 (qg ts s))].toArray)
  clear hs w hQ hN hK10 hK9 hK8 hK6 hK5 hK1
  first|(have e:=lI (s:=s) (by simpa using h9); rw [e.1,e.2]<;>rfl)|(have e:=lQ h9 h14; rw [e.1,e.2]<;>rfl)|(have e:=kS h9 h14; subst hzm; rw [e.1,e.2]<;>rfl)
 replace h14:=XF h14
 refine WK hK8<|aw fun _ hK11=>lK ct [0,2,3] [1,4,5,6,7] [false,false,false] [] [(aU b4 47 (ab.cells (ab.mk 0 0))),(aU b3 99 (br.cells s)),(aU b2 24 (ay.cells (ay.mk (aA.mk tsA ts.length tsC)))),(rd tsA ts.length 9 (ts.map ah.cells)).ro] [] (by kernel_rfl) (fun w hs=>St.bB [0,1,2,3] rfl rfl hs) (fun w hs=>St.bB [] rfl rfl hs) ?_
 have hsb:=h14.1
 have hof:=l_ hst h14
 have hml:(ed ts (ts.length+1)).length=ts.length+1:=kI
 refine eS rfl (LW 2 rfl jx rfl rfl)<|eS rfl (FA 0 rfl fP rfl)<|eS rfl (L1 (Value.int .i64 s.aj) 1 rfl bk rfl rfl)<|eJ rfl ?_
 refine kH [1,6] (by kernel_rfl) (gr ?_<|gr ?_<|nx)
 rotate_left 1
 ·refine NO rfl rfl [1,4,5,7] fun T12 hT12=>?_
  refine AL rfl dk fun b13=>RD hT12 1 rfl<|N1 1<|NO rfl rfl [4,5,7] fun T14 hT14=>cX (tp ts tsA tsC (by first|assumption|omega|(simp; done)|(simp; omega)) (by first|assumption|omega|(simp; done)|(simp; omega))) (ax 4 rfl rfl<|ar) rfl fun y15 hy16=>?_
  obtain ⟨a17,c18⟩:=y15
  try dsimp only
  refine RD hT14 2 rfl<|N1 4<|NO rfl rfl [5,7] fun T19 hT19=>?_
  obtain ⟨z,hz⟩: ∃ y_,(ed ts (ts.length+1))[(s.aj).toNat]? =some y_:=⟨(ed ts (ts.length+1))[(s.aj).toNat]'(by omega),List.getElem?_eq_getElem _⟩
  have hzm:((ed ts (ts.length+1)).map ab.cells)[(s.aj).toNat]? =some (ab.cells z):=by rw [List.getElem?_map,hz]; rfl
  refine rS (IA ((s.aj).toNat) rfl (ak (n:=(ed ts (ts.length+1)).length) 0 rfl (by simp)) k8 (by decide) (by omega) (by omega))<|RD hT19 2 rfl<|N1 5<|NO rfl rfl [7] fun T20 hT20=>rS (kE ((s.aj).toNat) 0 (ab.cells z) rfl cB (ak (n:=(ed ts (ts.length+1)).length) 0 rfl (by simp)) hzm rfl (by decide) rfl rfl)<|RD hT20 2 rfl<|N1 7<|NO rfl rfl [] fun T21 hT21=>oL rfl cv rfl<|RD hT21 2 rfl ?_
  refine kD<|KK hK11<|WS fun _ hK22=>rS (FA 0 rfl bP rfl) ?_
  have hzm:=lL hz
  have hlb:=jl hst 0 s.aj.toNat
  unfold iS at hof
  rw [← hzm] at hlb
  refine rS (L1 (Value.int .i64 z.Lo) 1 rfl bk rfl rfl)<|rS (FA 1 rfl fc rfl)<|rS (FA 1 rfl bP rfl)<|rS (L1 (Value.int .i64 s.dU.Lo) 3 rfl bk rfl rfl)<|rS (BI rfl (a9 ⟨by omega,by omega⟩))<|rS (FA 1 rfl bZ rfl)<|rS (L1 (Value.int .i64 z.Hi) 1 rfl bk rfl rfl)<|rS (FA 1 rfl fc rfl)<|rS (FA 2 rfl bZ rfl)<|rS (L1 (Value.int .i64 s.dU.Hi) 3 rfl bk rfl rfl) ?_
  refine rS (BI rfl (a9 ⟨by omega,by omega⟩))<|rS (SX (aS (xs:=[(0,.tmp 27),(1,.tmp 33)]) (cs:=(ab.cells (ab.mk (z.Lo+s.dU.Lo) (z.Hi+s.dU.Hi)))) rfl rfl (aR fG rfl)) rfl rfl)<|sL rfl cv rfl<|rS (AG rfl)<|RK hK22<|aE ?_
  refine hQ _ _ _ (bD (vs:=[(Value.agg (ab.cells (ab.mk (z.Lo+s.dU.Lo) (z.Hi+s.dU.Hi))).toArray),(Value.int .i64 0)]) ⟨⟨_,rfl,.inl ⟨_,_,cB,cd (vs:=(ab.cells (ab.mk (z.Lo+s.dU.Lo) (z.Hi+s.dU.Hi)))) 2 rfl rfl,rfl,rfl⟩⟩,rfl,trivial⟩ fun w hs=>eR ?_ hs)
  show (Value.tuple [(Value.agg (ab.cells (ab.mk (z.Lo+s.dU.Lo) (z.Hi+s.dU.Hi))).toArray),(Value.int .i64 0)].toArray)=(Value.tuple [(Value.agg (ab.cells (s_ ts s)).toArray),(Value.int .i64 (qg ts s))].toArray)
  clear hs w hQ hN hK22 hT21 T21 hT20 T20 hT19 T19 hT14 T14 hT12 T12 hK11 hK9 hK8 hK6 hK5 hK1
  first|(have e:=lI (s:=s) (by simpa using h9); rw [e.1,e.2]<;>rfl)|(have e:=lQ h9 h14; rw [e.1,e.2]<;>rfl)|(have e:=kS h9 h14; subst hzm; rw [e.1,e.2]<;>rfl)
 refine NO rfl rfl [4,5,6,7] fun T12 hT12=>cX (tp ts tsA tsC (by first|assumption|omega|(simp; done)|(simp; omega)) (by first|assumption|omega|(simp; done)|(simp; omega))) (ax 3 rfl rfl<|ar) rfl fun y13 hy14=>?_
 obtain ⟨a15,c16⟩:=y13
 try dsimp only
 refine RD hT12 1 rfl ?_
 refine kH [4,6] (by kernel_rfl) (gr ?_<|gr ?_<|nx)
 rotate_left 1
 ·refine NO rfl rfl [4,5,7] fun T17 hT17=>?_
  refine AL rfl dk fun b18=>RD hT17 2 rfl<|N1 4<|NO rfl rfl [5,7] fun T19 hT19=>?_
  obtain ⟨z,hz⟩: ∃ y_,(ed ts (ts.length+1))[(s.aj).toNat]? =some y_:=⟨(ed ts (ts.length+1))[(s.aj).toNat]'(by omega),List.getElem?_eq_getElem _⟩
  have hzm:((ed ts (ts.length+1)).map ab.cells)[(s.aj).toNat]? =some (ab.cells z):=by rw [List.getElem?_map,hz]; rfl
  refine rS (IA ((s.aj).toNat) rfl (ak (n:=(ed ts (ts.length+1)).length) 1 rfl (by simp)) k8 (by decide) (by omega) (by omega))<|RD hT19 2 rfl<|N1 5<|NO rfl rfl [7] fun T20 hT20=>rS (kE ((s.aj).toNat) 0 (ab.cells z) rfl cB (ak (n:=(ed ts (ts.length+1)).length) 1 rfl (by simp)) hzm rfl (by decide) rfl rfl)<|RD hT20 2 rfl<|N1 7<|NO rfl rfl [] fun T21 hT21=>e7 rfl cv rfl<|RD hT21 2 rfl ?_
  refine kD<|KK hK11<|WS fun _ hK22=>rS (FA 0 rfl bP rfl) ?_
  have hzm:=lL hz
  have hlb:=jl hst 0 s.aj.toNat
  unfold iS at hof
  rw [← hzm] at hlb
  refine rS (L1 (Value.int .i64 z.Lo) 0 rfl bk rfl rfl)<|rS (FA 1 rfl fc rfl)<|rS (FA 1 rfl bP rfl)<|rS (L1 (Value.int .i64 s.dU.Lo) 3 rfl bk rfl rfl)<|rS (BI rfl (a9 ⟨by omega,by omega⟩))<|rS (FA 1 rfl bZ rfl)<|rS (L1 (Value.int .i64 z.Hi) 0 rfl bk rfl rfl)<|rS (FA 1 rfl fc rfl)<|rS (FA 2 rfl bZ rfl)<|rS (L1 (Value.int .i64 s.dU.Hi) 3 rfl bk rfl rfl) ?_
  refine rS (BI rfl (a9 ⟨by omega,by omega⟩))<|rS (SX (aS (xs:=[(0,.tmp 27),(1,.tmp 33)]) (cs:=(ab.cells (ab.mk (z.Lo+s.dU.Lo) (z.Hi+s.dU.Hi)))) rfl rfl (aR fG rfl)) rfl rfl)<|sL rfl cv rfl<|rS (AG rfl)<|RK hK22<|aE ?_
  refine hQ _ _ _ (bD (vs:=[(Value.agg (ab.cells (ab.mk (z.Lo+s.dU.Lo) (z.Hi+s.dU.Hi))).toArray),(Value.int .i64 0)]) ⟨⟨_,rfl,.inl ⟨_,_,cB,cd (vs:=(ab.cells (ab.mk (z.Lo+s.dU.Lo) (z.Hi+s.dU.Hi)))) 2 rfl rfl,rfl,rfl⟩⟩,rfl,trivial⟩ fun w hs=>eR ?_ hs)
  show (Value.tuple [(Value.agg (ab.cells (ab.mk (z.Lo+s.dU.Lo) (z.Hi+s.dU.Hi))).toArray),(Value.int .i64 0)].toArray)=(Value.tuple [(Value.agg (ab.cells (s_ ts s)).toArray),(Value.int .i64 (qg ts s))].toArray)
  clear hs w hQ hN hK22 hT21 T21 hT20 T20 hT19 T19 hT17 T17 hT12 T12 hK11 hK9 hK8 hK6 hK5 hK1
  first|(have e:=lI (s:=s) (by simpa using h9); rw [e.1,e.2]<;>rfl)|(have e:=lQ h9 h14; rw [e.1,e.2]<;>rfl)|(have e:=kS h9 h14; subst hzm; rw [e.1,e.2]<;>rfl)
 refine NO rfl rfl [5,6,7] fun T17 hT17=>?_
 obtain ⟨z,hz⟩: ∃ y_,(ed ts (ts.length+1))[(s.aj).toNat]? =some y_:=⟨(ed ts (ts.length+1))[(s.aj).toNat]'(by omega),List.getElem?_eq_getElem _⟩
 have hzm:((ed ts (ts.length+1)).map ab.cells)[(s.aj).toNat]? =some (ab.cells z):=by rw [List.getElem?_map,hz]; rfl
 refine rS (IA ((s.aj).toNat) rfl (ak (n:=(ed ts (ts.length+1)).length) 0 rfl (by simp)) k8 (by decide) (by omega) (by omega))<|RD hT17 1 rfl ?_
 refine kH [5,6] (by kernel_rfl) (gr ?_<|gr ?_<|nx)
 rotate_left 1
 ·refine NO rfl rfl [5,7] fun T18 hT18=>?_
  refine AL rfl dk fun b19=>RD hT18 2 rfl<|N1 5<|NO rfl rfl [7] fun T20 hT20=>rS (kE ((s.aj).toNat) 0 (ab.cells z) rfl cB (ak (n:=(ed ts (ts.length+1)).length) 1 rfl (by simp)) hzm rfl (by decide) rfl rfl)<|RD hT20 2 rfl<|N1 7<|NO rfl rfl [] fun T21 hT21=>e7 rfl cv rfl<|RD hT21 2 rfl ?_
  refine kD<|KK hK11<|WS fun _ hK22=>rS (FA 0 rfl bP rfl) ?_
  have hzm:=lL hz
  have hlb:=jl hst 0 s.aj.toNat
  unfold iS at hof
  rw [← hzm] at hlb
  refine rS (L1 (Value.int .i64 z.Lo) 0 rfl bk rfl rfl)<|rS (FA 1 rfl fc rfl)<|rS (FA 1 rfl bP rfl)<|rS (L1 (Value.int .i64 s.dU.Lo) 3 rfl bk rfl rfl)<|rS (BI rfl (a9 ⟨by omega,by omega⟩))<|rS (FA 1 rfl bZ rfl)<|rS (L1 (Value.int .i64 z.Hi) 0 rfl bk rfl rfl)<|rS (FA 1 rfl fc rfl)<|rS (FA 2 rfl bZ rfl)<|rS (L1 (Value.int .i64 s.dU.Hi) 3 rfl bk rfl rfl) ?_
  refine rS (BI rfl (a9 ⟨by omega,by omega⟩))<|rS (SX (aS (xs:=[(0,.tmp 27),(1,.tmp 33)]) (cs:=(ab.cells (ab.mk (z.Lo+s.dU.Lo) (z.Hi+s.dU.Hi)))) rfl rfl (aR fG rfl)) rfl rfl)<|sL rfl cv rfl<|rS (AG rfl)<|RK hK22<|aE ?_
  refine hQ _ _ _ (bD (vs:=[(Value.agg (ab.cells (ab.mk (z.Lo+s.dU.Lo) (z.Hi+s.dU.Hi))).toArray),(Value.int .i64 0)]) ⟨⟨_,rfl,.inl ⟨_,_,cB,cd (vs:=(ab.cells (ab.mk (z.Lo+s.dU.Lo) (z.Hi+s.dU.Hi)))) 2 rfl rfl,rfl,rfl⟩⟩,rfl,trivial⟩ fun w hs=>eR ?_ hs)
  show (Value.tuple [(Value.agg (ab.cells (ab.mk (z.Lo+s.dU.Lo) (z.Hi+s.dU.Hi))).toArray),(Value.int .i64 0)].toArray)=(Value.tuple [(Value.agg (ab.cells (s_ ts s)).toArray),(Value.int .i64 (qg ts s))].toArray)
  clear hs w hQ hN hK22 hT21 T21 hT20 T20 hT18 T18 hT17 T17 hT12 T12 hK11 hK9 hK8 hK6 hK5 hK1
  first|(have e:=lI (s:=s) (by simpa using h9); rw [e.1,e.2]<;>rfl)|(have e:=lQ h9 h14; rw [e.1,e.2]<;>rfl)|(have e:=kS h9 h14; subst hzm; rw [e.1,e.2]<;>rfl)
 refine NO rfl rfl [6,7] fun T18 hT18=>rS (kE ((s.aj).toNat) 0 (ab.cells z) rfl cB (ak (n:=(ed ts (ts.length+1)).length) 0 rfl (by simp)) hzm rfl (by decide) rfl rfl)<|RD hT18 1 rfl<|N1 6<|NO rfl rfl [7] fun T19 hT19=>AL rfl dk fun b20=>RD hT19 2 rfl<|N1 7<|NO rfl rfl [] fun T21 hT21=>e7 rfl cv rfl ?_
 refine RD hT21 2 rfl<|kD<|KK hK11<|WS fun _ hK22=>rS (FA 0 rfl bP rfl) ?_
 have hzm:=lL hz
 have hlb:=jl hst 0 s.aj.toNat
 unfold iS at hof
 rw [← hzm] at hlb
 refine rS (L1 (Value.int .i64 z.Lo) 0 rfl bk rfl rfl)<|rS (FA 1 rfl fc rfl)<|rS (FA 1 rfl bP rfl)<|rS (L1 (Value.int .i64 s.dU.Lo) 3 rfl bk rfl rfl)<|rS (BI rfl (a9 ⟨by omega,by omega⟩))<|rS (FA 1 rfl bZ rfl)<|rS (L1 (Value.int .i64 z.Hi) 0 rfl bk rfl rfl)<|rS (FA 1 rfl fc rfl)<|rS (FA 2 rfl bZ rfl)<|rS (L1 (Value.int .i64 s.dU.Hi) 3 rfl bk rfl rfl) ?_
 refine rS (BI rfl (a9 ⟨by omega,by omega⟩))<|rS (SX (aS (xs:=[(0,.tmp 27),(1,.tmp 33)]) (cs:=(ab.cells (ab.mk (z.Lo+s.dU.Lo) (z.Hi+s.dU.Hi)))) rfl rfl (aR fG rfl)) rfl rfl)<|sL rfl cv rfl<|rS (AG rfl)<|RK hK22<|aE ?_
 refine hQ _ _ _ (bD (vs:=[(Value.agg (ab.cells (ab.mk (z.Lo+s.dU.Lo) (z.Hi+s.dU.Hi))).toArray),(Value.int .i64 0)]) ⟨⟨_,rfl,.inl ⟨_,_,cB,cd (vs:=(ab.cells (ab.mk (z.Lo+s.dU.Lo) (z.Hi+s.dU.Hi)))) 2 rfl rfl,rfl,rfl⟩⟩,rfl,trivial⟩ fun w hs=>eR ?_ hs)
 show (Value.tuple [(Value.agg (ab.cells (ab.mk (z.Lo+s.dU.Lo) (z.Hi+s.dU.Hi))).toArray),(Value.int .i64 0)].toArray)=(Value.tuple [(Value.agg (ab.cells (s_ ts s)).toArray),(Value.int .i64 (qg ts s))].toArray)
 clear hs w hQ hN hK22 hT21 T21 hT19 T19 hT18 T18 hT17 T17 hT12 T12 hK11 hK9 hK8 hK6 hK5 hK1
 first|(have e:=lI (s:=s) (by simpa using h9); rw [e.1,e.2]<;>rfl)|(have e:=lQ h9 h14; rw [e.1,e.2]<;>rfl)|(have e:=kS h9 h14; subst hzm; rw [e.1,e.2]<;>rfl)
set_option maxRecDepth 100000 in
set_option maxHeartbeats 400000 in
theorem wi (ts:List ah) (tsA:Option Addr) (tsC:Nat) (p:br) (q:br) (hlen:ts.length≤1000000) (hside: ∀ x∈ts,0≤x.fx∧x.fx≤255) (hord: ¬ q.aj<p.aj):
 dY Tryz.prog 123 [(Value.agg (ay.cells (ay.mk (aA.mk tsA ts.length tsC))).toArray),(Value.agg (br.cells p).toArray),(Value.agg (br.cells q).toArray)] [(rd tsA ts.length 9 (ts.map ah.cells))] (Value.tuple [(Value.agg (ab.cells (dp ts p q)).toArray),(Value.int .i64 (eM ts p q))].toArray):=by
 refine bG Bg Tryz.func123 rfl rfl fun w0 Q hQ hN=>?_
 try dsimp only
 refine WS fun _ hK1=>gv rfl fun b2=>gv rfl fun b3=>gv rfl fun b4=>AL rfl dk fun b5=>rS (AG rfl)<|RK hK1<|aw fun _ hK6=>WS fun _ hK7=>rS (LW 3 rfl jx rfl rfl) ?_
 refine rS (CL (pX ts tsA tsC hlen) (ax 4 rfl rfl<|ar) rfl)<|rS (NT rfl)<|RK hK7 ?_
 refine bp rfl (fun h14=>?_) (fun h14=>?_)
 ·rw [Bool.not_eq_true'] at h14
  refine WS fun _ hK8=>rS (SX (aS (xs:=[]) (cs:=(ab.cells (ab.mk 0 0))) rfl rfl (aR fG rfl)) rfl rfl)<|e7 rfl cv rfl<|rS (AG rfl)<|RK hK8<|aE ?_
  refine hQ _ _ _ (bD (vs:=[(Value.agg (ab.cells (ab.mk 0 0)).toArray),(Value.int .i64 10)]) ⟨⟨_,rfl,.inl ⟨_,_,cB,cd (vs:=(ab.cells (ab.mk 0 0))) 0 rfl rfl,rfl,rfl⟩⟩,rfl,trivial⟩ fun w hs=>eR ?_ hs)
  show (Value.tuple [(Value.agg (ab.cells (ab.mk 0 0)).toArray),(Value.int .i64 10)].toArray)=(Value.tuple [(Value.agg (ab.cells (dp ts p q)).toArray),(Value.int .i64 (eM ts p q))].toArray)
  clear hs w hQ hN hK8 hK7 hK6 hK1
  first|(have e:=eW (a:=p) (b:=q) (by simpa using h14); rw [e.1,e.2]<;>rfl)|(have e:=cj h14 hq1; rw [e.1,e.2,en h31]<;>rfl)|(have e:=cj h14 hq1; have e2:=cj h14 ⟨h25,h20⟩; rw [e.1,e.2,e2.2,gk h31]<;>rfl)|(have e:=eY (a:=p) (b:=q) h14 (fun h=>by first|exact h20 h.1|exact h25 h.2); rw [e.1,e.2]<;>rfl)
 rw [Bool.not_eq_false'] at h14
 refine WK hK6<|aw fun _ hK9=>WS fun _ hK10=>?_
 have hst:=gV h14
 have hl12:=iv h14
 refine rS (LW 3 rfl jx rfl rfl)<|rS (LW 2 rfl ki rfl rfl)<|rS (CL (mO ts tsA tsC p (by first|assumption|omega|(simp; done)|(simp; omega)) (by first|assumption|omega|(simp; done)|(simp; omega))) (ax 4 rfl rfl<|ar) rfl)<|rS (NT rfl)<|rS (MV rfl) ?_
 refine bo (t:=20) rfl (fun h20=>?_) (fun h20=>?_)
 ·replace h20:=XT h20
  refine rS (OX rfl)<|rS (OX rfl)<|rS (OX rfl)<|rS (OX rfl)<|rS (PK rfl)<|RK hK10<|aW rfl<|WS fun _ hK11=>rS (SX (aS (xs:=[]) (cs:=(ab.cells (ab.mk 0 0))) rfl rfl (aR fG rfl)) rfl rfl)<|e7 rfl cv rfl ?_
  refine rS (AG rfl)<|RK hK11<|aE ?_
  refine hQ _ _ _ (bD (vs:=[(Value.agg (ab.cells (ab.mk 0 0)).toArray),(Value.int .i64 12)]) ⟨⟨_,rfl,.inl ⟨_,_,cB,cd (vs:=(ab.cells (ab.mk 0 0))) 0 rfl rfl,rfl,rfl⟩⟩,rfl,trivial⟩ fun w hs=>eR ?_ hs)
  show (Value.tuple [(Value.agg (ab.cells (ab.mk 0 0)).toArray),(Value.int .i64 12)].toArray)=(Value.tuple [(Value.agg (ab.cells (dp ts p q)).toArray),(Value.int .i64 (eM ts p q))].toArray)
  clear hs w hQ hN hK11 hK10 hK9 hK7 hK6 hK1
  first|(have e:=eW (a:=p) (b:=q) (by simpa using h14); rw [e.1,e.2]<;>rfl)|(have e:=cj h14 hq1; rw [e.1,e.2,en h31]<;>rfl)|(have e:=cj h14 hq1; have e2:=cj h14 ⟨h25,h20⟩; rw [e.1,e.2,e2.2,gk h31]<;>rfl)|(have e:=eY (a:=p) (b:=q) h14 (fun h=>by first|exact h20 h.1|exact h25 h.2); rw [e.1,e.2]<;>rfl)
 replace h20:=XF h20
 refine rS (LW 3 rfl jx rfl rfl)<|rS (LW 1 rfl ki rfl rfl)<|rS (CL (mO ts tsA tsC q (by first|assumption|omega|(simp; done)|(simp; omega)) (by first|assumption|omega|(simp; done)|(simp; omega))) (ax 4 rfl rfl<|ar) rfl)<|rS (NT rfl)<|rS (PK rfl)<|RK hK10 ?_
 refine bp rfl (fun h25=>?_) (fun h25=>?_)
 ·replace h25:=XT h25
  refine WS fun _ hK12=>rS (SX (aS (xs:=[]) (cs:=(ab.cells (ab.mk 0 0))) rfl rfl (aR fG rfl)) rfl rfl)<|e7 rfl cv rfl<|rS (AG rfl)<|RK hK12<|aE ?_
  refine hQ _ _ _ (bD (vs:=[(Value.agg (ab.cells (ab.mk 0 0)).toArray),(Value.int .i64 12)]) ⟨⟨_,rfl,.inl ⟨_,_,cB,cd (vs:=(ab.cells (ab.mk 0 0))) 0 rfl rfl,rfl,rfl⟩⟩,rfl,trivial⟩ fun w hs=>eR ?_ hs)
  show (Value.tuple [(Value.agg (ab.cells (ab.mk 0 0)).toArray),(Value.int .i64 12)].toArray)=(Value.tuple [(Value.agg (ab.cells (dp ts p q)).toArray),(Value.int .i64 (eM ts p q))].toArray)
  clear hs w hQ hN hK12 hK10 hK9 hK7 hK6 hK1
  first|(have e:=eW (a:=p) (b:=q) (by simpa using h14); rw [e.1,e.2]<;>rfl)|(have e:=cj h14 hq1; rw [e.1,e.2,en h31]<;>rfl)|(have e:=cj h14 hq1; have e2:=cj h14 ⟨h25,h20⟩; rw [e.1,e.2,e2.2,gk h31]<;>rfl)|(have e:=eY (a:=p) (b:=q) h14 (fun h=>by first|exact h20 h.1|exact h25 h.2); rw [e.1,e.2]<;>rfl)
 replace h25:=XF h25
 refine WK hK9<|aw fun _ hK13=>WS fun _ hK14=>?_
 have hq1:dB ts p∧dB ts q:=⟨h20,h25⟩
 have hpo:=l_ hst h20
 have hqo:=l_ hst h25
 have hpb:=h20.1
 have hqb:=h25.1
 have hab:=qo hst hl12 h25 h20
 unfold iS at hpo hqo
 refine rS (FA 0 rfl fP rfl)<|rS (L1 (Value.int .i64 q.aj) 1 rfl bk rfl rfl)<|rS (FA 0 rfl fP rfl)<|rS (L1 (Value.int .i64 p.aj) 2 rfl bk rfl rfl)<|rS (BI rfl cq)<|RK hK14 ?_
 refine bp rfl (fun h31=>?_) (fun h31=>?_)
 ·replace h31:=DT h31
  exfalso; omega
 replace h31:=DF h31
 refine WK hK13<|WS fun _ hK15=>rS (LW 3 rfl jx rfl rfl)<|rS (FA 0 rfl fP rfl) ?_
 have hlb:=jl hst p.aj.toNat (q.aj-p.aj).toNat
 refine rS (L1 (Value.int .i64 p.aj) 2 rfl bk rfl rfl)<|rS (FA 0 rfl fP rfl)<|rS (L1 (Value.int .i64 q.aj) 1 rfl bk rfl rfl)<|rS (CL (ss ts tsA tsC p.aj q.aj (by first|assumption|omega|(simp; done)|(simp; omega)) (by first|assumption|omega|(simp; done)|(simp; omega)) (by omega)) (ax 4 rfl rfl<|ar) rfl)<|rS (MV rfl)<|rS (EX rfl)<|rS (EX rfl)<|AL rfl dk fun b16=>AL rfl dk fun b17=>oL rfl cv rfl ?_
 refine e7 rfl cv rfl<|RK hK15<|WS fun _ hK18=>rS (FA 0 rfl bP rfl)<|rS (L1 (Value.int .i64 ((bS ts p.aj.toNat (q.aj-p.aj).toNat).Lo)) 1 rfl bk rfl rfl)<|rS (FA 1 rfl fc rfl)<|rS (FA 1 rfl bP rfl)<|rS (L1 (Value.int .i64 q.dU.Lo) 3 rfl bk rfl rfl)<|rS (BI rfl (a9 ⟨by omega,by omega⟩))<|rS (FA 1 rfl fc rfl) ?_
 refine rS (FA 2 rfl bZ rfl)<|rS (L1 (Value.int .i64 p.dU.Hi) 4 rfl bk rfl rfl)<|rS (BI rfl (cr ⟨by omega,by omega⟩))<|rS (FA 1 rfl bZ rfl)<|rS (L1 (Value.int .i64 ((bS ts p.aj.toNat (q.aj-p.aj).toNat).Hi)) 1 rfl bk rfl rfl)<|rS (FA 1 rfl fc rfl)<|rS (FA 2 rfl bZ rfl)<|rS (L1 (Value.int .i64 q.dU.Hi) 3 rfl bk rfl rfl)<|rS (BI rfl (a9 ⟨by omega,by omega⟩))<|rS (FA 1 rfl fc rfl) ?_
 refine rS (FA 1 rfl bP rfl)<|rS (L1 (Value.int .i64 p.dU.Lo) 4 rfl bk rfl rfl)<|rS (BI rfl (cr ⟨by omega,by omega⟩))<|rS (SX (aS (xs:=[(0,.tmp 64),(1,.tmp 74)]) (cs:=(ab.cells (ab.mk ((((bS ts p.aj.toNat (q.aj-p.aj).toNat).Lo)+q.dU.Lo)-p.dU.Hi) ((((bS ts p.aj.toNat (q.aj-p.aj).toNat).Hi)+q.dU.Hi)-p.dU.Lo)))) rfl rfl (aR fG rfl)) rfl rfl)<|sL rfl cv rfl<|rS (AG rfl)<|RK hK18<|aE ?_
 refine hQ _ _ _ (bD (vs:=[(Value.agg (ab.cells (ab.mk ((((bS ts p.aj.toNat (q.aj-p.aj).toNat).Lo)+q.dU.Lo)-p.dU.Hi) ((((bS ts p.aj.toNat (q.aj-p.aj).toNat).Hi)+q.dU.Hi)-p.dU.Lo))).toArray),(Value.int .i64 0)]) ⟨⟨_,rfl,.inl ⟨_,_,cB,cd (vs:=(ab.cells (ab.mk ((((bS ts p.aj.toNat (q.aj-p.aj).toNat).Lo)+q.dU.Lo)-p.dU.Hi) ((((bS ts p.aj.toNat (q.aj-p.aj).toNat).Hi)+q.dU.Hi)-p.dU.Lo)))) 2 rfl rfl,rfl,rfl⟩⟩,rfl,trivial⟩ fun w hs=>eR ?_ hs)
 show (Value.tuple [(Value.agg (ab.cells (ab.mk ((((bS ts p.aj.toNat (q.aj-p.aj).toNat).Lo)+q.dU.Lo)-p.dU.Hi) ((((bS ts p.aj.toNat (q.aj-p.aj).toNat).Hi)+q.dU.Hi)-p.dU.Lo))).toArray),(Value.int .i64 0)].toArray)=(Value.tuple [(Value.agg (ab.cells (dp ts p q)).toArray),(Value.int .i64 (eM ts p q))].toArray)
 clear hs w hQ hN hK18 hK15 hK14 hK13 hK10 hK9 hK7 hK6 hK1
 first|(have e:=eW (a:=p) (b:=q) (by simpa using h14); rw [e.1,e.2]<;>rfl)|(have e:=cj h14 hq1; rw [e.1,e.2,en h31]<;>rfl)|(have e:=cj h14 hq1; have e2:=cj h14 ⟨h25,h20⟩; rw [e.1,e.2,e2.2,gk h31]<;>rfl)|(have e:=eY (a:=p) (b:=q) h14 (fun h=>by first|exact h20 h.1|exact h25 h.2); rw [e.1,e.2]<;>rfl)
set_option maxRecDepth 100000 in
set_option maxHeartbeats 400000 in
theorem zf (ts:List ah) (tsA:Option Addr) (tsC:Nat) (p:br) (q:br) (hlen:ts.length≤1000000) (hside: ∀ x∈ts,0≤x.fx∧x.fx≤255):
 dY Tryz.prog 123 [(Value.agg (ay.cells (ay.mk (aA.mk tsA ts.length tsC))).toArray),(Value.agg (br.cells p).toArray),(Value.agg (br.cells q).toArray)] [(rd tsA ts.length 9 (ts.map ah.cells))] (Value.tuple [(Value.agg (ab.cells (dp ts p q)).toArray),(Value.int .i64 (eM ts p q))].toArray):=by
 refine bG Bg Tryz.func123 rfl rfl fun w0 Q hQ hN=>?_
 try dsimp only
 refine WS fun _ hK1=>gv rfl fun b2=>gv rfl fun b3=>gv rfl fun b4=>AL rfl dk fun b5=>rS (AG rfl)<|RK hK1<|aw fun _ hK6=>WS fun _ hK7=>rS (LW 3 rfl jx rfl rfl) ?_
 refine rS (CL (pX ts tsA tsC hlen) (ax 4 rfl rfl<|ar) rfl)<|rS (NT rfl)<|RK hK7 ?_
 refine bp rfl (fun h14=>?_) (fun h14=>?_)
 ·rw [Bool.not_eq_true'] at h14
  refine WS fun _ hK8=>rS (SX (aS (xs:=[]) (cs:=(ab.cells (ab.mk 0 0))) rfl rfl (aR fG rfl)) rfl rfl)<|e7 rfl cv rfl<|rS (AG rfl)<|RK hK8<|aE ?_
  refine hQ _ _ _ (bD (vs:=[(Value.agg (ab.cells (ab.mk 0 0)).toArray),(Value.int .i64 10)]) ⟨⟨_,rfl,.inl ⟨_,_,cB,cd (vs:=(ab.cells (ab.mk 0 0))) 0 rfl rfl,rfl,rfl⟩⟩,rfl,trivial⟩ fun w hs=>eR ?_ hs)
  show (Value.tuple [(Value.agg (ab.cells (ab.mk 0 0)).toArray),(Value.int .i64 10)].toArray)=(Value.tuple [(Value.agg (ab.cells (dp ts p q)).toArray),(Value.int .i64 (eM ts p q))].toArray)
  clear hs w hQ hN hK8 hK7 hK6 hK1
  first|(have e:=eW (a:=p) (b:=q) (by simpa using h14); rw [e.1,e.2]<;>rfl)|(have e:=cj h14 hq1; rw [e.1,e.2,en h31]<;>rfl)|(have e:=cj h14 hq1; have e2:=cj h14 ⟨h25,h20⟩; rw [e.1,e.2,e2.2,gk h31]<;>rfl)|(have e:=eY (a:=p) (b:=q) h14 (fun h=>by first|exact h20 h.1|exact h25 h.2); rw [e.1,e.2]<;>rfl)
 rw [Bool.not_eq_false'] at h14
 refine WK hK6<|aw fun _ hK9=>WS fun _ hK10=>?_
 have hst:=gV h14
 have hl12:=iv h14
 refine rS (LW 3 rfl jx rfl rfl)<|rS (LW 2 rfl ki rfl rfl)<|rS (CL (mO ts tsA tsC p (by first|assumption|omega|(simp; done)|(simp; omega)) (by first|assumption|omega|(simp; done)|(simp; omega))) (ax 4 rfl rfl<|ar) rfl)<|rS (NT rfl)<|rS (MV rfl) ?_
 refine bo (t:=20) rfl (fun h20=>?_) (fun h20=>?_)
 ·replace h20:=XT h20
  refine rS (OX rfl)<|rS (OX rfl)<|rS (OX rfl)<|rS (OX rfl)<|rS (PK rfl)<|RK hK10<|aW rfl<|WS fun _ hK11=>rS (SX (aS (xs:=[]) (cs:=(ab.cells (ab.mk 0 0))) rfl rfl (aR fG rfl)) rfl rfl)<|e7 rfl cv rfl ?_
  refine rS (AG rfl)<|RK hK11<|aE ?_
  refine hQ _ _ _ (bD (vs:=[(Value.agg (ab.cells (ab.mk 0 0)).toArray),(Value.int .i64 12)]) ⟨⟨_,rfl,.inl ⟨_,_,cB,cd (vs:=(ab.cells (ab.mk 0 0))) 0 rfl rfl,rfl,rfl⟩⟩,rfl,trivial⟩ fun w hs=>eR ?_ hs)
  show (Value.tuple [(Value.agg (ab.cells (ab.mk 0 0)).toArray),(Value.int .i64 12)].toArray)=(Value.tuple [(Value.agg (ab.cells (dp ts p q)).toArray),(Value.int .i64 (eM ts p q))].toArray)
  clear hs w hQ hN hK11 hK10 hK9 hK7 hK6 hK1
  first|(have e:=eW (a:=p) (b:=q) (by simpa using h14); rw [e.1,e.2]<;>rfl)|(have e:=cj h14 hq1; rw [e.1,e.2,en h31]<;>rfl)|(have e:=cj h14 hq1; have e2:=cj h14 ⟨h25,h20⟩; rw [e.1,e.2,e2.2,gk h31]<;>rfl)|(have e:=eY (a:=p) (b:=q) h14 (fun h=>by first|exact h20 h.1|exact h25 h.2); rw [e.1,e.2]<;>rfl)
 replace h20:=XF h20
 refine rS (LW 3 rfl jx rfl rfl)<|rS (LW 1 rfl ki rfl rfl)<|rS (CL (mO ts tsA tsC q (by first|assumption|omega|(simp; done)|(simp; omega)) (by first|assumption|omega|(simp; done)|(simp; omega))) (ax 4 rfl rfl<|ar) rfl)<|rS (NT rfl)<|rS (PK rfl)<|RK hK10 ?_
 refine bp rfl (fun h25=>?_) (fun h25=>?_)
 ·replace h25:=XT h25
  refine WS fun _ hK12=>rS (SX (aS (xs:=[]) (cs:=(ab.cells (ab.mk 0 0))) rfl rfl (aR fG rfl)) rfl rfl)<|e7 rfl cv rfl<|rS (AG rfl)<|RK hK12<|aE ?_
  refine hQ _ _ _ (bD (vs:=[(Value.agg (ab.cells (ab.mk 0 0)).toArray),(Value.int .i64 12)]) ⟨⟨_,rfl,.inl ⟨_,_,cB,cd (vs:=(ab.cells (ab.mk 0 0))) 0 rfl rfl,rfl,rfl⟩⟩,rfl,trivial⟩ fun w hs=>eR ?_ hs)
  show (Value.tuple [(Value.agg (ab.cells (ab.mk 0 0)).toArray),(Value.int .i64 12)].toArray)=(Value.tuple [(Value.agg (ab.cells (dp ts p q)).toArray),(Value.int .i64 (eM ts p q))].toArray)
  clear hs w hQ hN hK12 hK10 hK9 hK7 hK6 hK1
  first|(have e:=eW (a:=p) (b:=q) (by simpa using h14); rw [e.1,e.2]<;>rfl)|(have e:=cj h14 hq1; rw [e.1,e.2,en h31]<;>rfl)|(have e:=cj h14 hq1; have e2:=cj h14 ⟨h25,h20⟩; rw [e.1,e.2,e2.2,gk h31]<;>rfl)|(have e:=eY (a:=p) (b:=q) h14 (fun h=>by first|exact h20 h.1|exact h25 h.2); rw [e.1,e.2]<;>rfl)
 replace h25:=XF h25
 refine WK hK9<|aw fun _ hK13=>WS fun _ hK14=>?_
 have hq1:dB ts p∧dB ts q:=⟨h20,h25⟩
 have hpo:=l_ hst h20
 have hqo:=l_ hst h25
 have hpb:=h20.1
 have hqb:=h25.1
 have hab:=qo hst hl12 h25 h20
 unfold iS at hpo hqo
 refine rS (FA 0 rfl fP rfl)<|rS (L1 (Value.int .i64 q.aj) 1 rfl bk rfl rfl)<|rS (FA 0 rfl fP rfl)<|rS (L1 (Value.int .i64 p.aj) 2 rfl bk rfl rfl)<|rS (BI rfl cq)<|RK hK14 ?_
 refine bp rfl (fun h31=>?_) (fun h31=>?_)
 ·replace h31:=DT h31
  refine WS fun _ hK15=>rS (LW 3 rfl jx rfl rfl)<|rS (LW 1 rfl ki rfl rfl)<|rS (LW 2 rfl ki rfl rfl)<|rS (CL (wi ts tsA tsC q p hlen hside (by first|assumption|omega|(simp; done)|(simp; omega))) (ax 4 rfl rfl<|ar) rfl)<|rS (MV rfl)<|rS (EX rfl)<|rS (EX rfl)<|AL rfl dk fun b16=>e7 rfl cv rfl ?_
  refine rS (AG rfl)<|RK hK15<|WS fun _ hK17=>rS (FA 1 rfl bZ rfl)<|rS (L1 (Value.int .i64 ((dp ts q p).Hi)) 0 rfl bk rfl rfl) ?_
  have hav:dp ts q p=e_ ts q p:=(cj h14 ⟨h25,h20⟩).2
  have hav1: -400000≤(dp ts q p).Lo∧(dp ts q p).Hi≤400000:=by rw [hav]; omega
  have hav2:(dp ts q p).Lo≤(dp ts q p).Hi:=by rw [hav]; omega
  refine rS (NG rfl ⟨by omega,by omega⟩)<|rS (FA 0 rfl bP rfl)<|rS (L1 (Value.int .i64 ((dp ts q p).Lo)) 0 rfl bk rfl rfl)<|rS (NG rfl ⟨by omega,by omega⟩)<|rS (SX (aS (xs:=[(0,.tmp 41),(1,.tmp 44)]) (cs:=(ab.cells (ab.mk (-((dp ts q p).Hi)) (-((dp ts q p).Lo))))) rfl rfl (aR fG rfl)) rfl rfl)<|oL rfl cv rfl<|rS (AG rfl)<|RK hK17<|aE ?_
  refine hQ _ _ _ (bD (vs:=[(Value.agg (ab.cells (ab.mk (-((dp ts q p).Hi)) (-((dp ts q p).Lo)))).toArray),(Value.int .i64 0)]) ⟨⟨_,rfl,.inl ⟨_,_,cB,cd (vs:=(ab.cells (ab.mk (-((dp ts q p).Hi)) (-((dp ts q p).Lo))))) 1 rfl rfl,rfl,rfl⟩⟩,rfl,trivial⟩ fun w hs=>eR ?_ hs)
  show (Value.tuple [(Value.agg (ab.cells (ab.mk (-((dp ts q p).Hi)) (-((dp ts q p).Lo)))).toArray),(Value.int .i64 0)].toArray)=(Value.tuple [(Value.agg (ab.cells (dp ts p q)).toArray),(Value.int .i64 (eM ts p q))].toArray)
  clear hs w hQ hN hK17 hK15 hK14 hK13 hK10 hK9 hK7 hK6 hK1
  first|(have e:=eW (a:=p) (b:=q) (by simpa using h14); rw [e.1,e.2]<;>rfl)|(have e:=cj h14 hq1; rw [e.1,e.2,en h31]<;>rfl)|(have e:=cj h14 hq1; have e2:=cj h14 ⟨h25,h20⟩; rw [e.1,e.2,e2.2,gk h31]<;>rfl)|(have e:=eY (a:=p) (b:=q) h14 (fun h=>by first|exact h20 h.1|exact h25 h.2); rw [e.1,e.2]<;>rfl)
 replace h31:=DF h31
 refine WK hK13<|WS fun _ hK18=>rS (LW 3 rfl jx rfl rfl)<|rS (FA 0 rfl fP rfl) ?_
 have hlb:=jl hst p.aj.toNat (q.aj-p.aj).toNat
 refine rS (L1 (Value.int .i64 p.aj) 2 rfl bk rfl rfl)<|rS (FA 0 rfl fP rfl)<|rS (L1 (Value.int .i64 q.aj) 1 rfl bk rfl rfl)<|rS (CL (ss ts tsA tsC p.aj q.aj (by first|assumption|omega|(simp; done)|(simp; omega)) (by first|assumption|omega|(simp; done)|(simp; omega)) (by omega)) (ax 4 rfl rfl<|ar) rfl)<|rS (MV rfl)<|rS (EX rfl)<|rS (EX rfl)<|AL rfl dk fun b19=>AL rfl dk fun b20=>oL rfl cv rfl ?_
 refine e7 rfl cv rfl<|RK hK18<|WS fun _ hK21=>rS (FA 0 rfl bP rfl)<|rS (L1 (Value.int .i64 ((bS ts p.aj.toNat (q.aj-p.aj).toNat).Lo)) 1 rfl bk rfl rfl)<|rS (FA 1 rfl fc rfl)<|rS (FA 1 rfl bP rfl)<|rS (L1 (Value.int .i64 q.dU.Lo) 3 rfl bk rfl rfl)<|rS (BI rfl (a9 ⟨by omega,by omega⟩))<|rS (FA 1 rfl fc rfl) ?_
 refine rS (FA 2 rfl bZ rfl)<|rS (L1 (Value.int .i64 p.dU.Hi) 4 rfl bk rfl rfl)<|rS (BI rfl (cr ⟨by omega,by omega⟩))<|rS (FA 1 rfl bZ rfl)<|rS (L1 (Value.int .i64 ((bS ts p.aj.toNat (q.aj-p.aj).toNat).Hi)) 1 rfl bk rfl rfl)<|rS (FA 1 rfl fc rfl)<|rS (FA 2 rfl bZ rfl)<|rS (L1 (Value.int .i64 q.dU.Hi) 3 rfl bk rfl rfl)<|rS (BI rfl (a9 ⟨by omega,by omega⟩))<|rS (FA 1 rfl fc rfl) ?_
 refine rS (FA 1 rfl bP rfl)<|rS (L1 (Value.int .i64 p.dU.Lo) 4 rfl bk rfl rfl)<|rS (BI rfl (cr ⟨by omega,by omega⟩))<|rS (SX (aS (xs:=[(0,.tmp 64),(1,.tmp 74)]) (cs:=(ab.cells (ab.mk ((((bS ts p.aj.toNat (q.aj-p.aj).toNat).Lo)+q.dU.Lo)-p.dU.Hi) ((((bS ts p.aj.toNat (q.aj-p.aj).toNat).Hi)+q.dU.Hi)-p.dU.Lo)))) rfl rfl (aR fG rfl)) rfl rfl)<|sL rfl cv rfl<|rS (AG rfl)<|RK hK21<|aE ?_
 refine hQ _ _ _ (bD (vs:=[(Value.agg (ab.cells (ab.mk ((((bS ts p.aj.toNat (q.aj-p.aj).toNat).Lo)+q.dU.Lo)-p.dU.Hi) ((((bS ts p.aj.toNat (q.aj-p.aj).toNat).Hi)+q.dU.Hi)-p.dU.Lo))).toArray),(Value.int .i64 0)]) ⟨⟨_,rfl,.inl ⟨_,_,cB,cd (vs:=(ab.cells (ab.mk ((((bS ts p.aj.toNat (q.aj-p.aj).toNat).Lo)+q.dU.Lo)-p.dU.Hi) ((((bS ts p.aj.toNat (q.aj-p.aj).toNat).Hi)+q.dU.Hi)-p.dU.Lo)))) 2 rfl rfl,rfl,rfl⟩⟩,rfl,trivial⟩ fun w hs=>eR ?_ hs)
 show (Value.tuple [(Value.agg (ab.cells (ab.mk ((((bS ts p.aj.toNat (q.aj-p.aj).toNat).Lo)+q.dU.Lo)-p.dU.Hi) ((((bS ts p.aj.toNat (q.aj-p.aj).toNat).Hi)+q.dU.Hi)-p.dU.Lo))).toArray),(Value.int .i64 0)].toArray)=(Value.tuple [(Value.agg (ab.cells (dp ts p q)).toArray),(Value.int .i64 (eM ts p q))].toArray)
 clear hs w hQ hN hK21 hK18 hK14 hK13 hK10 hK9 hK7 hK6 hK1
 first|(have e:=eW (a:=p) (b:=q) (by simpa using h14); rw [e.1,e.2]<;>rfl)|(have e:=cj h14 hq1; rw [e.1,e.2,en h31]<;>rfl)|(have e:=cj h14 hq1; have e2:=cj h14 ⟨h25,h20⟩; rw [e.1,e.2,e2.2,gk h31]<;>rfl)|(have e:=eY (a:=p) (b:=q) h14 (fun h=>by first|exact h20 h.1|exact h25 h.2); rw [e.1,e.2]<;>rfl)
end
section
open Go.RowKit
set_option linter.unusedVariables false
set_option maxRecDepth 100000 in
set_option maxHeartbeats 400000 in
theorem yJ (l:aV) (kA:Option Addr) (kC:Nat) (az:List RA) (cA:Option Addr) (cC:Nat) (bA:Option Addr) (bC:Nat) (hraw:jN l az):
 dY Tryz.prog 7 [(Value.agg (aG.cells (aG.mk (ay.mk (aA.mk kA l.au.length kC)) l.bJ (aA.mk cA l.ag.length cC) (aA.mk bA l.aa.length bC) l.aB l.aZ l.aO)).toArray)] [(rd kA l.au.length 9 (l.au.map ah.cells)),(rd cA l.ag.length 2 (List.zipWith ao.cells l.ag az)),(c_ (aP ao.eX l.ag az)),(rd bA l.aa.length 4 (l.aa.map aT.cells))] (Value.bool (decide (mo l))):=by
 have htk:=hraw.o0
 have hck:=hraw.oZ
 have has:=hraw.oG
 have hbm:=hraw.oI
 refine bG G6 Tryz.func7 rfl rfl fun w0 Q hQ hN=>?_
 try dsimp only
 refine WS fun _ hK1=>gv rfl fun b2=>rS (AG rfl)<|RK hK1<|aw fun _ hK3=>WS fun _ hK4=>rS (FA 0 rfl lF rfl)<|rS (LP (ay.cells (ay.mk (aA.mk kA l.au.length kC))) 0 rfl jx rfl rfl rfl)<|rS (CL (zY l.au kA kC) (ax 1 rfl rfl<|ar) rfl)<|rS (MV rfl) ?_
 refine bo (t:=7) rfl (fun h7=>?_) (fun h7=>?_)
 ·replace h7:=DT h7
  refine rS (OX rfl)<|rS (OX rfl)<|rS (OX rfl)<|rS (OX rfl)<|rS (PK rfl)<|rS (MV rfl)<|rS (OX rfl)<|rS (OX rfl)<|rS (OX rfl)<|rS (OX rfl) ?_
  refine rS (PK rfl)<|RK hK4<|aW rfl<|WS fun _ hK5=>rS (AG rfl)<|RK hK5<|aE<|Q1 hQ rfl rfl rfl ?_
  first|exact congrArg Value.bool (decide_eq_true (.inl (by omega))).symm|exact congrArg Value.bool (decide_eq_true (mD hx h33)).symm|exact congrArg Value.bool (decide_eq_false (mI (by omega) (by omega) hl0_1)).symm
 replace h7:=DF h7
 refine rS (FA 2 rfl iY rfl)<|rS (L1 (Value.slice cA l.ag.length cC) 0 rfl oP rfl rfl)<|rS (LN rfl rm)<|rS (BI rfl eL)<|rS (PK rfl)<|rS (MV rfl) ?_
 refine bo (t:=13) rfl (fun h13=>?_) (fun h13=>?_)
 ·replace h13:=DT h13
  refine rS (OX rfl)<|rS (OX rfl)<|rS (OX rfl)<|rS (OX rfl)<|rS (PK rfl)<|RK hK4<|aW rfl<|WS fun _ hK6=>rS (AG rfl)<|RK hK6 ?_
  refine aE<|Q1 hQ rfl rfl rfl ?_
  first|exact congrArg Value.bool (decide_eq_true (.inl (by omega))).symm|exact congrArg Value.bool (decide_eq_true (mD hx h33)).symm|exact congrArg Value.bool (decide_eq_false (mI (by omega) (by omega) hl0_1)).symm
 replace h13:=DF h13
 refine rS (FA 3 rfl dQ rfl)<|rS (L1 (Value.slice bA l.aa.length bC) 0 rfl hP rfl rfl)<|rS (LN rfl jz)<|rS (BI rfl eL)<|rS (PK rfl)<|RK hK4 ?_
 refine bp rfl (fun h18=>?_) (fun h18=>?_)
 ·replace h18:=DT h18
  refine WS fun _ hK7=>rS (AG rfl)<|RK hK7<|aE<|Q1 hQ rfl rfl rfl ?_
  first|exact congrArg Value.bool (decide_eq_true (.inl (by omega))).symm|exact congrArg Value.bool (decide_eq_true (mD hx h33)).symm|exact congrArg Value.bool (decide_eq_false (mI (by omega) (by omega) hl0_1)).symm
 replace h18:=DF h18
 refine WK hK3<|aw fun _ hK8=>WS fun _ hK9=>rS (AG rfl)<|RK hK9<|aH ?_
 have hinit:(0≤l.ag.length)∧(sX l 0):=by exact ⟨Nat.zero_le _,fun j c hj=>absurd hj (Nat.not_lt_zero _)⟩
 refine cP (ι:={z:Nat // (z≤l.ag.length)∧(sX l z)}) (fun z=>[(1,(Value.pointer (some ⟨b2,0,none⟩))),(3,(Value.int .i64 ((z.1:Nat):Int)))]) (fun z=>[(aU b2 28 (aG.cells (aG.mk (ay.mk (aA.mk kA l.au.length kC)) l.bJ (aA.mk cA l.ag.length cC) (aA.mk bA l.aa.length bC) l.aB l.aZ l.aO))),(rd kA l.au.length 9 (l.au.map ah.cells)).ro,(rd cA l.ag.length 2 (List.zipWith ao.cells l.ag az)).ro,(c_ (aP ao.eX l.ag az)).ro,(rd bA l.aa.length 4 (l.aa.map aT.cells)).ro]) (fun z=>l.ag.length-z.1) ⟨0,hinit⟩ (an.cons rfl<|an.cons rfl<|an.nil _) (fun w hs=>St.bB [0,1,2,3,4] rfl rfl hs) ?_
 clear hinit
 rintro ⟨i,⟨hl0_0,hl0_1⟩⟩ J10 hJ10
 try dsimp only
 refine aw fun _ hK11=>WS fun _ hK12=>rS (MV rfl)<|rS (FA 2 rfl iY rfl)<|rS (L1 (Value.slice cA l.ag.length cC) 0 rfl oP rfl rfl)<|rS (LN rfl rm)<|rS (BI rfl cq)<|RK hK12 ?_
 refine bp rfl (fun h13=>?_) (fun h13=>?_)
 rotate_left 1
 ·replace h13:=DF h13
  refine bM<|ai<|ai<|aI<|KK hK8<|WS fun _ hK18=>rS (AG rfl)<|RK hK18<|aE<|Q1 hQ rfl rfl rfl ?_
  first|exact congrArg Value.bool (decide_eq_true (.inl (by omega))).symm|exact congrArg Value.bool (decide_eq_true (mD hx h33)).symm|exact congrArg Value.bool (decide_eq_false (mI (by omega) (by omega) hl0_1)).symm
 replace h13:=DT h13
 refine WK hK11<|aw fun _ hK14=>aH<|WS fun _ hK15=>rS (FA 2 rfl iY rfl)<|rS (L1 (Value.slice cA l.ag.length cC) 0 rfl oP rfl rfl)<|rS (MV rfl) ?_
 obtain ⟨x,hx⟩: ∃ y_,l.ag[i]? =some y_:=⟨l.ag[i]'(by omega),List.getElem?_eq_getElem _⟩
 obtain ⟨xa,hxa⟩: ∃ y_,az[i]? =some y_:=⟨az[i]'(by omega),List.getElem?_eq_getElem _⟩
 have hxm:(List.zipWith ao.cells l.ag az)[i]? =some (ao.cells x xa):=jH hx hxa
 refine rS (IA i rfl (aQ 2 rfl) vj (by decide) (by omega) (by omega))<|rS (qP ((i*2)+1) rfl (aQ 2 rfl) (Nat.mul_pos (by omega) (by decide)) jC rfl)<|rS (ir i 1 (Value.slice xa.1 x.aJ.length xa.2) rfl pK (aQ 2 rfl) hxm rfl (by decide) rfl)<|rS (LN rfl s8)<|rS (BI rfl eL)<|RK hK15 ?_
 refine bp rfl (fun h33=>?_) (fun h33=>?_)
 ·replace h33:=DT h33
  refine WS fun _ hK16=>rS (AG rfl)<|RK hK16<|aE<|Q1 hQ rfl rfl rfl ?_
  first|exact congrArg Value.bool (decide_eq_true (.inl (by omega))).symm|exact congrArg Value.bool (decide_eq_true (mD hx h33)).symm|exact congrArg Value.bool (decide_eq_false (mI (by omega) (by omega) hl0_1)).symm
 replace h33:=DF h33
 refine cH<|aL<|KK hK14<|aC<|rS (MV rfl)<|rS (BI rfl (a9 ⟨by omega,by omega⟩))<|rS (AG rfl)<|aX ?_
 have hb17:(Value.int .i64 (((i+1):Nat):Int))=(Value.int .i64 (((i:Nat):Int)+1)):=by exact congrArg (Value.int .i64) (by omega)
 refine aY (hJ10 ⟨(i+1),⟨by omega,iB hl0_1 hx (by omega)⟩⟩ _ _ _ rfl (by first|omega|(simp; omega)) (an.cons rfl<|a_ rfl hb17<|an.nil _) (fun w hs=>St.bB [0,1,2,3,4] rfl rfl hs))
set_option maxRecDepth 100000 in
set_option maxHeartbeats 400000 in
theorem tL (d:Int) (m:Int) (hd:0≤d∧d≤1000) (hm:0≤m∧m≤90000000):
 dY Tryz.prog 121 [(Value.int .i64 d),(Value.int .i64 m)] [] (Value.int .i64 (mx (d*m) 1000000)):=by
 have hdm:=CD (a:=d) (b:=m) (A:=1000) (B:=90000000) hd.1 hd.2 hm.1 hm.2
 refine bG Et Tryz.func121 rfl rfl fun w0 Q hQ hN=>?_
 try dsimp only
 refine WS fun _ hK1=>rS (AG rfl)<|RK hK1<|WS fun _ hK2=>rS (MV rfl)<|rS (MV rfl)<|rS (BI rfl (mA ⟨by omega,by omega⟩))<|rS (AG rfl)<|RK hK2<|aw fun _ hK3=>?_
 refine WS fun _ hK4=>rS (MV rfl)<|rS (BI rfl (l4 (by omega) (by omega)))<|rS (BI rfl eL)<|RK hK4 ?_
 refine bp rfl (fun h5=>?_) (fun h5=>?_)
 rotate_left 1
 ·replace h5:=DF h5
  refine WK hK3<|WS fun _ hK7=>rS (MV rfl)<|rS (BI rfl (vu (by omega) (by omega) (by omega)))<|rS (AG rfl)<|RK hK7<|aE<|Q1 hQ rfl rfl rfl ?_
  exact congrArg (Value.int .i64) (by unfold mx; omega)
 replace h5:=DT h5
 refine WS fun _ hK6=>rS (MV rfl)<|rS (BI rfl (vu (by omega) (by omega) (by omega)))<|rS (BI rfl (a9 ⟨by omega,by omega⟩))<|rS (AG rfl)<|RK hK6<|aE<|Q1 hQ rfl rfl rfl ?_
 exact congrArg (Value.int .i64) (by unfold mx; omega)
set_option maxRecDepth 100000 in
set_option maxHeartbeats 400000 in
theorem yj (c:ao) (sA:Option Addr) (sC:Nat) (hlen:c.aJ.length≤1000000):
 dY Tryz.prog 90 [(Value.agg (b_.cells (b_.mk c.cz (aA.mk sA c.aJ.length sC))).toArray)] [(rd sA c.aJ.length 3 (c.aJ.map bI.cells))] (Value.bool (decide (dv c))):=by
 refine bG E7 Tryz.func90 rfl rfl fun w0 Q hQ hN=>?_
 try dsimp only
 refine WS fun _ hK1=>gv rfl fun b2=>rS (AG rfl)<|RK hK1<|aw fun _ hK3=>WS fun _ hK4=>rS (FA 0 rfl pf rfl)<|rS (L1 (Value.int .i64 c.cz) 0 rfl bk rfl rfl)<|rS (CL (fw c.cz 0 1000) (ar) rfl)<|rS (NT rfl) ?_
 refine rS (MV rfl) ?_
 refine bo (t:=14) rfl (fun h14=>?_) (fun h14=>?_)
 ·replace h14:=XT h14
  refine rS (OX rfl)<|rS (OX rfl)<|rS (OX rfl)<|rS (OX rfl)<|rS (OX rfl)<|rS (PK rfl)<|RK hK4<|aW rfl<|WS fun _ hK5=>rS (AG rfl) ?_
  refine RK hK5<|aE<|Q1 hQ rfl rfl rfl ?_
  first|exact congrArg Value.bool (decide_eq_false fun h=>by have q1:=h.gh; have q2:=h.len; omega).symm|exact congrArg Value.bool (decide_eq_false fun h=>by have q:=h.sync i x hx; unfold de at q; first|(rw [cQ (by omega)] at q; omega)|(rw [dC (by omega) hy] at q; omega)|omega).symm|exact congrArg Value.bool (decide_eq_false fun h=>by have q:=h.pair m k y x hy (by omega) hx; unfold fh at q; omega).symm|exact congrArg Value.bool (decide_eq_true (ff (by omega) (by omega) (eG (by omega) hl4_1) (by omega) hl10_1)).symm
 replace h14:=XF h14
 refine rS (FA 1 rfl jC rfl)<|rS (L1 (Value.slice sA c.aJ.length sC) 0 rfl pK rfl rfl)<|rS (LN rfl s8)<|rS (CL (fw ((c.aJ.length:Nat):Int) 1 5) (ar) rfl)<|rS (NT rfl)<|rS (PK rfl)<|RK hK4 ?_
 refine bp rfl (fun h20=>?_) (fun h20=>?_)
 ·replace h20:=XT h20
  refine WS fun _ hK6=>rS (AG rfl)<|RK hK6<|aE<|Q1 hQ rfl rfl rfl ?_
  first|exact congrArg Value.bool (decide_eq_false fun h=>by have q1:=h.gh; have q2:=h.len; omega).symm|exact congrArg Value.bool (decide_eq_false fun h=>by have q:=h.sync i x hx; unfold de at q; first|(rw [cQ (by omega)] at q; omega)|(rw [dC (by omega) hy] at q; omega)|omega).symm|exact congrArg Value.bool (decide_eq_false fun h=>by have q:=h.pair m k y x hy (by omega) hx; unfold fh at q; omega).symm|exact congrArg Value.bool (decide_eq_true (ff (by omega) (by omega) (eG (by omega) hl4_1) (by omega) hl10_1)).symm
 replace h20:=XF h20
 refine WK hK3<|aw fun _ hK7=>WS fun _ hK8=>rS (AG rfl)<|RK hK8<|aH ?_
 have hinit:(0≤c.aJ.length)∧(∀ (j:Nat) y,j<0→c.aJ[j]? =some y→de c j y):=by exact ⟨Nat.zero_le _,fun j y hj=>absurd hj (Nat.not_lt_zero _)⟩
 refine cP (ι:={z:Nat // (z≤c.aJ.length)∧(∀ (j:Nat) y,j<z→c.aJ[j]? =some y→de c j y)}) (fun z=>[(1,(Value.pointer (some ⟨b2,0,none⟩))),(3,(Value.int .i64 ((z.1:Nat):Int)))]) (fun z=>[(aU b2 63 (b_.cells (b_.mk c.cz (aA.mk sA c.aJ.length sC)))),(rd sA c.aJ.length 3 (c.aJ.map bI.cells)).ro]) (fun z=>c.aJ.length-z.1) ⟨0,hinit⟩ (an.cons rfl<|an.cons rfl<|an.nil _) (fun w hs=>St.bB [0,1] rfl rfl hs) ?_
 clear hinit
 rintro ⟨i,⟨hl4_0,hl4_1⟩⟩ J9 hJ9
 try dsimp only
 have hpv:=zu hl4_0 hl4_1
 refine aw fun _ hK10=>WS fun _ hK11=>rS (MV rfl)<|rS (FA 1 rfl jC rfl)<|rS (L1 (Value.slice sA c.aJ.length sC) 0 rfl pK rfl rfl)<|rS (LN rfl s8)<|rS (BI rfl cq)<|RK hK11 ?_
 refine bp rfl (fun h25=>?_) (fun h25=>?_)
 ·replace h25:=DT h25
  refine WK hK10<|aw fun _ hK12=>aH<|WS fun _ hK13=>rS (FA 1 rfl jC rfl)<|rS (L1 (Value.slice sA c.aJ.length sC) 0 rfl pK rfl rfl)<|rS (MV rfl) ?_
  obtain ⟨x,hx⟩: ∃ y_,c.aJ[i]? =some y_:=⟨c.aJ[i]'(by omega),List.getElem?_eq_getElem _⟩
  have hxm:(c.aJ.map bI.cells)[i]? =some (bI.cells x):=by rw [List.getElem?_map,hx]; rfl
  refine rS (IA i rfl (aQ 1 rfl) rq (by decide) (by omega) (by omega))<|rS (kE i 0 (bI.cells x) rfl uX (aQ 1 rfl) hxm rfl (by decide) rfl rfl)<|AL rfl rn fun b14=>e7 rfl ue rfl<|RK hK13<|aw fun _ hK15=>dj ct 41 (by kernel_rfl)<|dS (FA 0 rfl ja rfl)<|dS (L1 (Value.int .i64 x.At) 0 rfl bk rfl rfl)<|dS (CL (fw x.At 0 86400000) (ar) rfl) ?_
  refine dS (NT rfl)<|dS (MV rfl) ?_
  refine db (t:=37) rfl (fun h37=>?_) (fun h37=>?_)
  ·replace h37:=XT h37
   refine dS (OX rfl)<|dS (OX rfl)<|dS (OX rfl)<|dS (OX rfl)<|dS (OX rfl)<|dS (OX rfl)<|dS (OX rfl)<|dS (OX rfl)<|dS (OX rfl)<|dS (OX rfl) ?_
   refine dS (OX rfl)<|dS (OX rfl)<|dS (OX rfl)<|dS (OX rfl)<|dS (PK rfl)<|dS (MV rfl)<|dS (OX rfl)<|dS (OX rfl)<|dS (OX rfl)<|dS (OX rfl) ?_
   refine dS (PK rfl)<|dS (MV rfl)<|dS (OX rfl)<|dS (OX rfl)<|dS (OX rfl)<|dS (OX rfl)<|dS (OX rfl)<|dS (OX rfl)<|dS (OX rfl)<|dS (PK rfl) ?_
   refine dS (MV rfl)<|dS (OX rfl)<|dS (OX rfl)<|dS (OX rfl)<|dS (OX rfl)<|dS (PK rfl)<|cE<|RK hK15<|aW rfl<|WS fun _ hK16=>?_
   refine rS (AG rfl)<|RK hK16<|aE<|Q1 hQ rfl rfl rfl ?_
   first|exact congrArg Value.bool (decide_eq_false fun h=>by have q1:=h.gh; have q2:=h.len; omega).symm|exact congrArg Value.bool (decide_eq_false fun h=>by have q:=h.sync i x hx; unfold de at q; first|(rw [cQ (by omega)] at q; omega)|(rw [dC (by omega) hy] at q; omega)|omega).symm|exact congrArg Value.bool (decide_eq_false fun h=>by have q:=h.pair m k y x hy (by omega) hx; unfold fh at q; omega).symm|exact congrArg Value.bool (decide_eq_true (ff (by omega) (by omega) (eG (by omega) hl4_1) (by omega) hl10_1)).symm
  replace h37:=XF h37
  refine dS (MV rfl)<|dS (BI rfl eL)<|dS (MV rfl) ?_
  refine db (t:=40) rfl (fun h40=>?_) (fun h40=>?_)
  rotate_left 1
  ·replace h40:=DF h40
   refine dS (OX rfl)<|dS (OX rfl)<|dS (OX rfl)<|dS (OX rfl)<|dS (OX rfl)<|dS (OX rfl)<|dS (OX rfl)<|dS (OX rfl)<|dS (OX rfl)<|dS (OX rfl) ?_
   refine dS (PK rfl)<|dS (PK rfl)<|dS (MV rfl)<|dS (FA 1 rfl eK rfl)<|dS (FA 1 rfl bP rfl)<|dS (L1 (Value.int .i64 x.cx.Lo) 0 rfl bk rfl rfl)<|dS (BI rfl cq)<|dS (PK rfl)<|dS (MV rfl) ?_
   refine db (t:=59) rfl (fun h59=>?_) (fun h59=>?_)
   ·replace h59:=DT h59
    refine dS (OX rfl)<|dS (OX rfl)<|dS (OX rfl)<|dS (OX rfl)<|dS (OX rfl)<|dS (OX rfl)<|dS (OX rfl)<|dS (PK rfl)<|dS (MV rfl)<|dS (OX rfl) ?_
    refine dS (OX rfl)<|dS (OX rfl)<|dS (OX rfl)<|dS (PK rfl)<|cE<|RK hK15<|aW rfl<|WS fun _ hK22=>rS (AG rfl)<|RK hK22 ?_
    refine aE<|Q1 hQ rfl rfl rfl ?_
    first|exact congrArg Value.bool (decide_eq_false fun h=>by have q1:=h.gh; have q2:=h.len; omega).symm|exact congrArg Value.bool (decide_eq_false fun h=>by have q:=h.sync i x hx; unfold de at q; first|(rw [cQ (by omega)] at q; omega)|(rw [dC (by omega) hy] at q; omega)|omega).symm|exact congrArg Value.bool (decide_eq_false fun h=>by have q:=h.pair m k y x hy (by omega) hx; unfold fh at q; omega).symm|exact congrArg Value.bool (decide_eq_true (ff (by omega) (by omega) (eG (by omega) hl4_1) (by omega) hl10_1)).symm
   replace h59:=DF h59
   refine dS (FA 1 rfl eK rfl)<|dS (FA 1 rfl bP rfl)<|dS (L1 (Value.int .i64 x.cx.Lo) 0 rfl bk rfl rfl)<|dS (FA 1 rfl eK rfl)<|dS (FA 2 rfl bZ rfl)<|dS (L1 (Value.int .i64 x.cx.Hi) 0 rfl bk rfl rfl)<|dS (BI rfl eL)<|dS (PK rfl)<|dS (MV rfl) ?_
   refine db (t:=68) rfl (fun h68=>?_) (fun h68=>?_)
   ·replace h68:=DT h68
    refine dS (OX rfl)<|dS (OX rfl)<|dS (OX rfl)<|dS (OX rfl)<|dS (PK rfl)<|cE<|RK hK15<|aW rfl<|WS fun _ hK23=>rS (AG rfl) ?_
    refine RK hK23<|aE<|Q1 hQ rfl rfl rfl ?_
    first|exact congrArg Value.bool (decide_eq_false fun h=>by have q1:=h.gh; have q2:=h.len; omega).symm|exact congrArg Value.bool (decide_eq_false fun h=>by have q:=h.sync i x hx; unfold de at q; first|(rw [cQ (by omega)] at q; omega)|(rw [dC (by omega) hy] at q; omega)|omega).symm|exact congrArg Value.bool (decide_eq_false fun h=>by have q:=h.pair m k y x hy (by omega) hx; unfold fh at q; omega).symm|exact congrArg Value.bool (decide_eq_true (ff (by omega) (by omega) (eG (by omega) hl4_1) (by omega) hl10_1)).symm
   replace h68:=DF h68
   refine dS (FA 1 rfl eK rfl)<|dS (FA 2 rfl bZ rfl)<|dS (L1 (Value.int .i64 x.cx.Hi) 0 rfl bk rfl rfl)<|dS (BI rfl eL)<|dS (PK rfl)<|cE<|RK hK15 ?_
   refine bp rfl (fun h73=>?_) (fun h73=>?_)
   rotate_left 1
   ·replace h73:=DF h73
    refine cH<|aL<|KK hK12<|aC<|rS (MV rfl)<|rS (BI rfl (a9 ⟨by omega,by omega⟩))<|rS (AG rfl)<|aX ?_
    have hb25:(Value.int .i64 (((i+1):Nat):Int))=(Value.int .i64 (((i:Nat):Int)+1)):=by exact congrArg (Value.int .i64) (by omega)
    refine aY (hJ9 ⟨(i+1),⟨by omega,iB hl4_1 hx (by unfold de; first|(rw [cQ (by omega)]; omega)|(rw [dC (by omega) hy]; omega))⟩⟩ _ _ _ rfl (by first|omega|(simp; omega)) (an.cons rfl<|a_ rfl hb25<|an.nil _) (fun w hs=>St.bB [1,2] rfl rfl hs))
   replace h73:=DT h73
   refine WS fun _ hK24=>rS (AG rfl)<|RK hK24<|aE<|Q1 hQ rfl rfl rfl ?_
   first|exact congrArg Value.bool (decide_eq_false fun h=>by have q1:=h.gh; have q2:=h.len; omega).symm|exact congrArg Value.bool (decide_eq_false fun h=>by have q:=h.sync i x hx; unfold de at q; first|(rw [cQ (by omega)] at q; omega)|(rw [dC (by omega) hy] at q; omega)|omega).symm|exact congrArg Value.bool (decide_eq_false fun h=>by have q:=h.pair m k y x hy (by omega) hx; unfold fh at q; omega).symm|exact congrArg Value.bool (decide_eq_true (ff (by omega) (by omega) (eG (by omega) hl4_1) (by omega) hl10_1)).symm
  replace h40:=DT h40
  refine dS (FA 0 rfl ja rfl)<|dS (L1 (Value.int .i64 x.At) 0 rfl bk rfl rfl)<|dS (FA 1 rfl jC rfl)<|dS (L1 (Value.slice sA c.aJ.length sC) 1 rfl pK rfl rfl)<|dS (MV rfl)<|dS (BI rfl (cr ⟨by omega,by omega⟩)) ?_
  obtain ⟨y,hy⟩: ∃ y_,c.aJ[(i-1)]? =some y_:=⟨c.aJ[(i-1)]'(by omega),List.getElem?_eq_getElem _⟩
  have hym:(c.aJ.map bI.cells)[(i-1)]? =some (bI.cells y):=by rw [List.getElem?_map,hy]; rfl
  refine dS (IA (i-1) rfl (aQ 2 rfl) rq (by decide) (by omega) (by omega))<|dS (qP ((i-1)*3) rfl (aQ 2 rfl) (Nat.mul_pos (by omega) (by decide)) ja rfl)<|dS (ir (i-1) 0 (Value.int .i64 y.At) rfl bk (aQ 2 rfl) hym rfl (by decide) rfl)<|dS (BI rfl eT)<|dS (PK rfl)<|dS (PK rfl)<|dS (MV rfl) ?_
  refine db (t:=53) rfl (fun h53=>?_) (fun h53=>?_)
  ·replace h53:=DT h53
   refine dS (OX rfl)<|dS (OX rfl)<|dS (OX rfl)<|dS (OX rfl)<|dS (PK rfl)<|dS (MV rfl)<|dS (OX rfl)<|dS (OX rfl)<|dS (OX rfl)<|dS (OX rfl) ?_
   refine dS (OX rfl)<|dS (OX rfl)<|dS (OX rfl)<|dS (PK rfl)<|dS (MV rfl)<|dS (OX rfl)<|dS (OX rfl)<|dS (OX rfl)<|dS (OX rfl)<|dS (PK rfl) ?_
   refine cE<|RK hK15<|aW rfl<|WS fun _ hK17=>rS (AG rfl)<|RK hK17<|aE<|Q1 hQ rfl rfl rfl ?_
   first|exact congrArg Value.bool (decide_eq_false fun h=>by have q1:=h.gh; have q2:=h.len; omega).symm|exact congrArg Value.bool (decide_eq_false fun h=>by have q:=h.sync i x hx; unfold de at q; first|(rw [cQ (by omega)] at q; omega)|(rw [dC (by omega) hy] at q; omega)|omega).symm|exact congrArg Value.bool (decide_eq_false fun h=>by have q:=h.pair m k y x hy (by omega) hx; unfold fh at q; omega).symm|exact congrArg Value.bool (decide_eq_true (ff (by omega) (by omega) (eG (by omega) hl4_1) (by omega) hl10_1)).symm
  replace h53:=DF h53
  refine dS (FA 1 rfl eK rfl)<|dS (FA 1 rfl bP rfl)<|dS (L1 (Value.int .i64 x.cx.Lo) 0 rfl bk rfl rfl)<|dS (BI rfl cq)<|dS (PK rfl)<|dS (MV rfl) ?_
  refine db (t:=59) rfl (fun h59=>?_) (fun h59=>?_)
  ·replace h59:=DT h59
   refine dS (OX rfl)<|dS (OX rfl)<|dS (OX rfl)<|dS (OX rfl)<|dS (OX rfl)<|dS (OX rfl)<|dS (OX rfl)<|dS (PK rfl)<|dS (MV rfl)<|dS (OX rfl) ?_
   refine dS (OX rfl)<|dS (OX rfl)<|dS (OX rfl)<|dS (PK rfl)<|cE<|RK hK15<|aW rfl<|WS fun _ hK18=>rS (AG rfl)<|RK hK18 ?_
   refine aE<|Q1 hQ rfl rfl rfl ?_
   first|exact congrArg Value.bool (decide_eq_false fun h=>by have q1:=h.gh; have q2:=h.len; omega).symm|exact congrArg Value.bool (decide_eq_false fun h=>by have q:=h.sync i x hx; unfold de at q; first|(rw [cQ (by omega)] at q; omega)|(rw [dC (by omega) hy] at q; omega)|omega).symm|exact congrArg Value.bool (decide_eq_false fun h=>by have q:=h.pair m k y x hy (by omega) hx; unfold fh at q; omega).symm|exact congrArg Value.bool (decide_eq_true (ff (by omega) (by omega) (eG (by omega) hl4_1) (by omega) hl10_1)).symm
  replace h59:=DF h59
  refine dS (FA 1 rfl eK rfl)<|dS (FA 1 rfl bP rfl)<|dS (L1 (Value.int .i64 x.cx.Lo) 0 rfl bk rfl rfl)<|dS (FA 1 rfl eK rfl)<|dS (FA 2 rfl bZ rfl)<|dS (L1 (Value.int .i64 x.cx.Hi) 0 rfl bk rfl rfl)<|dS (BI rfl eL)<|dS (PK rfl)<|dS (MV rfl) ?_
  refine db (t:=68) rfl (fun h68=>?_) (fun h68=>?_)
  ·replace h68:=DT h68
   refine dS (OX rfl)<|dS (OX rfl)<|dS (OX rfl)<|dS (OX rfl)<|dS (PK rfl)<|cE<|RK hK15<|aW rfl<|WS fun _ hK19=>rS (AG rfl) ?_
   refine RK hK19<|aE<|Q1 hQ rfl rfl rfl ?_
   first|exact congrArg Value.bool (decide_eq_false fun h=>by have q1:=h.gh; have q2:=h.len; omega).symm|exact congrArg Value.bool (decide_eq_false fun h=>by have q:=h.sync i x hx; unfold de at q; first|(rw [cQ (by omega)] at q; omega)|(rw [dC (by omega) hy] at q; omega)|omega).symm|exact congrArg Value.bool (decide_eq_false fun h=>by have q:=h.pair m k y x hy (by omega) hx; unfold fh at q; omega).symm|exact congrArg Value.bool (decide_eq_true (ff (by omega) (by omega) (eG (by omega) hl4_1) (by omega) hl10_1)).symm
  replace h68:=DF h68
  refine dS (FA 1 rfl eK rfl)<|dS (FA 2 rfl bZ rfl)<|dS (L1 (Value.int .i64 x.cx.Hi) 0 rfl bk rfl rfl)<|dS (BI rfl eL)<|dS (PK rfl)<|cE<|RK hK15 ?_
  refine bp rfl (fun h73=>?_) (fun h73=>?_)
  rotate_left 1
  ·replace h73:=DF h73
   refine cH<|aL<|KK hK12<|aC<|rS (MV rfl)<|rS (BI rfl (a9 ⟨by omega,by omega⟩))<|rS (AG rfl)<|aX ?_
   have hb21:(Value.int .i64 (((i+1):Nat):Int))=(Value.int .i64 (((i:Nat):Int)+1)):=by exact congrArg (Value.int .i64) (by omega)
   refine aY (hJ9 ⟨(i+1),⟨by omega,iB hl4_1 hx (by unfold de; first|(rw [cQ (by omega)]; omega)|(rw [dC (by omega) hy]; omega))⟩⟩ _ _ _ rfl (by first|omega|(simp; omega)) (an.cons rfl<|a_ rfl hb21<|an.nil _) (fun w hs=>St.bB [1,2] rfl rfl hs))
  replace h73:=DT h73
  refine WS fun _ hK20=>rS (AG rfl)<|RK hK20<|aE<|Q1 hQ rfl rfl rfl ?_
  first|exact congrArg Value.bool (decide_eq_false fun h=>by have q1:=h.gh; have q2:=h.len; omega).symm|exact congrArg Value.bool (decide_eq_false fun h=>by have q:=h.sync i x hx; unfold de at q; first|(rw [cQ (by omega)] at q; omega)|(rw [dC (by omega) hy] at q; omega)|omega).symm|exact congrArg Value.bool (decide_eq_false fun h=>by have q:=h.pair m k y x hy (by omega) hx; unfold fh at q; omega).symm|exact congrArg Value.bool (decide_eq_true (ff (by omega) (by omega) (eG (by omega) hl4_1) (by omega) hl10_1)).symm
 replace h25:=DF h25
 refine bM<|ai<|ai<|aI<|KK hK7<|aw fun _ hK26=>WS fun _ hK27=>rS (AG rfl)<|RK hK27<|aH ?_
 have hinit:(0≤c.aJ.length)∧(nZ c 0):=by exact ⟨Nat.zero_le _,fun j y hj=>absurd hj (Nat.not_lt_zero _)⟩
 refine cP (ι:={z:Nat // (z≤c.aJ.length)∧(nZ c z)}) (fun z=>[(1,(Value.pointer (some ⟨b2,0,none⟩))),(5,(Value.int .i64 ((z.1:Nat):Int)))]) (fun z=>[(aU b2 63 (b_.cells (b_.mk c.cz (aA.mk sA c.aJ.length sC)))),(rd sA c.aJ.length 3 (c.aJ.map bI.cells)).ro]) (fun z=>c.aJ.length-z.1) ⟨0,hinit⟩ (an.cons rfl<|an.cons rfl<|an.nil _) (fun w hs=>St.bB [0,1] rfl rfl hs) ?_
 clear hinit
 rintro ⟨m,⟨hl10_0,hl10_1⟩⟩ J28 hJ28
 try dsimp only
 have hall:=eG (P:=de c) (by omega) hl4_1
 refine aw fun _ hK29=>WS fun _ hK30=>rS (MV rfl)<|rS (FA 1 rfl jC rfl)<|rS (L1 (Value.slice sA c.aJ.length sC) 0 rfl pK rfl rfl)<|rS (LN rfl s8)<|rS (BI rfl cq)<|RK hK30 ?_
 refine bp rfl (fun h78=>?_) (fun h78=>?_)
 rotate_left 1
 ·replace h78:=DF h78
  refine bM<|ai<|ai<|aI<|KK hK26<|WS fun _ hK50=>rS (AG rfl)<|RK hK50<|aE<|Q1 hQ rfl rfl rfl ?_
  first|exact congrArg Value.bool (decide_eq_false fun h=>by have q1:=h.gh; have q2:=h.len; omega).symm|exact congrArg Value.bool (decide_eq_false fun h=>by have q:=h.sync i x hx; unfold de at q; first|(rw [cQ (by omega)] at q; omega)|(rw [dC (by omega) hy] at q; omega)|omega).symm|exact congrArg Value.bool (decide_eq_false fun h=>by have q:=h.pair m k y x hy (by omega) hx; unfold fh at q; omega).symm|exact congrArg Value.bool (decide_eq_true (ff (by omega) (by omega) (eG (by omega) hl4_1) (by omega) hl10_1)).symm
 replace h78:=DT h78
 refine WK hK29<|aw fun _ hK31=>aH<|WS fun _ hK32=>rS (AG rfl)<|RK hK32<|aH ?_
 have hinit:(0≤m)∧(∀ y,c.aJ[m]? =some y→vS c y 0):=by exact ⟨Nat.zero_le _,fun y _ j o hj=>absurd hj (Nat.not_lt_zero _)⟩
 refine cP (ι:={z:Nat // (z≤m)∧(∀ y,c.aJ[m]? =some y→vS c y z)}) (fun z=>[(1,(Value.pointer (some ⟨b2,0,none⟩))),(5,(Value.int .i64 ((m:Nat):Int))),(6,(Value.int .i64 ((z.1:Nat):Int)))]) (fun z=>[(aU b2 63 (b_.cells (b_.mk c.cz (aA.mk sA c.aJ.length sC)))),(rd sA c.aJ.length 3 (c.aJ.map bI.cells)).ro]) (fun z=>m-z.1) ⟨0,hinit⟩ (an.cons rfl<|an.cons rfl<|an.cons rfl<|an.nil _) (fun w hs=>St.bB [0,1] rfl rfl hs) ?_
 clear hinit
 rintro ⟨k,⟨hl13_0,hl13_1⟩⟩ J33 hJ33
 try dsimp only
 refine aw fun _ hK34=>WS fun _ hK35=>rS (MV rfl)<|rS (MV rfl)<|rS (BI rfl cq)<|RK hK35 ?_
 refine bp rfl (fun h83=>?_) (fun h83=>?_)
 rotate_left 1
 ·replace h83:=DF h83
  refine bM<|ai<|ai<|aI<|aL<|KK hK31<|aC<|rS (MV rfl)<|rS (BI rfl (a9 ⟨by omega,by omega⟩))<|rS (AG rfl) ?_
  refine aX ?_
  have hb49:(Value.int .i64 (((m+1):Nat):Int))=(Value.int .i64 (((m:Nat):Int)+1)):=by exact congrArg (Value.int .i64) (by omega)
  refine aY (hJ28 ⟨(m+1),⟨by omega,vb hl10_1 hl13_1 (by omega)⟩⟩ _ _ _ rfl (by first|omega|(simp; omega)) (an.cons rfl<|a_ rfl hb49<|an.nil _) (fun w hs=>St.bB [0,1] rfl rfl hs))
 replace h83:=DT h83
 refine WK hK34<|aw fun _ hK36=>aH<|aw fun _ hK37=>lK ct [0,1,2,3,4,5,6,7,8,9] [10,11,12,13] [false,false,false,false,false,false,false,false,false,false] [] [(aU b2 63 (b_.cells (b_.mk c.cz (aA.mk sA c.aJ.length sC)))),(rd sA c.aJ.length 3 (c.aJ.map bI.cells)).ro] [] (by kernel_rfl) (fun w hs=>St.bB [0,1] rfl rfl hs) (fun w hs=>St.bB [] rfl rfl hs)<|eS rfl (FA 1 rfl jC rfl)<|eS rfl (L1 (Value.slice sA c.aJ.length sC) 0 rfl pK rfl rfl)<|eS rfl (MV rfl) ?_
 obtain ⟨x,hx⟩: ∃ y_,c.aJ[k]? =some y_:=⟨c.aJ[k]'(by omega),List.getElem?_eq_getElem _⟩
 have hxm:(c.aJ.map bI.cells)[k]? =some (bI.cells x):=by rw [List.getElem?_map,hx]; rfl
 refine eS rfl (IA k rfl (aQ 1 rfl) rq (by decide) (by omega) (by omega))<|eS rfl (kE k 0 (bI.cells x) rfl uX (aQ 1 rfl) hxm rfl (by decide) rfl rfl)<|eS rfl (FA 1 rfl jC rfl)<|eS rfl (L1 (Value.slice sA c.aJ.length sC) 0 rfl pK rfl rfl)<|eS rfl (MV rfl) ?_
 obtain ⟨y,hy⟩: ∃ y_,c.aJ[m]? =some y_:=⟨c.aJ[m]'(by omega),List.getElem?_eq_getElem _⟩
 have hym:(c.aJ.map bI.cells)[m]? =some (bI.cells y):=by rw [List.getElem?_map,hy]; rfl
 refine eS rfl (IA m rfl (aQ 1 rfl) rq (by decide) (by omega) (by omega))<|eS rfl (kE m 0 (bI.cells y) rfl uX (aQ 1 rfl) hym rfl (by decide) rfl rfl)<|eJ rfl ?_
 refine kH [10,11] (by kernel_rfl) (gr ?_<|gr ?_<|nx)
 rotate_left 1
 ·refine NO rfl rfl [10,12,13] fun T38 hT38=>?_
  refine AL rfl rn fun b39=>RD hT38 1 rfl<|N1 10<|NO rfl rfl [12,13] fun T40 hT40=>AL rfl rn fun b41=>RD hT40 2 rfl<|N1 12<|NO rfl rfl [13] fun T42 hT42=>e7 rfl ue rfl<|RD hT42 2 rfl ?_
  refine N1 13<|NO rfl rfl [] fun T43 hT43=>oL rfl ue rfl<|RD hT43 2 rfl<|kD<|KK hK37<|WS fun _ hK44=>rS (FA 0 rfl pf rfl)<|rS (L1 (Value.int .i64 c.cz) 2 rfl bk rfl rfl)<|rS (FA 0 rfl ja rfl) ?_
  refine rS (L1 (Value.int .i64 y.At) 1 rfl bk rfl rfl)<|rS (FA 0 rfl ja rfl)<|rS (L1 (Value.int .i64 x.At) 0 rfl bk rfl rfl) ?_
  obtain ⟨hq1,hq2,hq3⟩:=oY (fun j z _ hz=>hall j z hz) hy (hall _ _ hy) (show k<m by omega) hx
  refine rS (BI rfl (cr ⟨by omega,by omega⟩))<|rS (CL (tL c.cz (y.At-x.At) (by omega) (by first|assumption|omega|(simp; done)|(simp; omega))) (ar) rfl)<|rS (AG rfl)<|RK hK44<|WS fun _ hK45=>rS (FA 1 rfl eK rfl)<|rS (FA 1 rfl bP rfl)<|rS (L1 (Value.int .i64 x.cx.Lo) 0 rfl bk rfl rfl)<|rS (FA 1 rfl eK rfl)<|rS (FA 2 rfl bZ rfl) ?_
  refine rS (L1 (Value.int .i64 y.cx.Hi) 1 rfl bk rfl rfl)<|rS (BI rfl (cr ⟨by omega,by omega⟩))<|rS (MV rfl)<|rS (BI rfl eL)<|rS (MV rfl) ?_
  refine bo (t:=113) rfl (fun h113=>?_) (fun h113=>?_)
  ·replace h113:=DT h113
   refine rS (OX rfl)<|rS (OX rfl)<|rS (OX rfl)<|rS (OX rfl)<|rS (OX rfl)<|rS (OX rfl)<|rS (OX rfl)<|rS (OX rfl)<|rS (OX rfl)<|rS (PK rfl) ?_
   refine RK hK45<|aW rfl<|WS fun _ hK46=>rS (AG rfl)<|RK hK46<|aE<|Q1 hQ rfl rfl rfl ?_
   first|exact congrArg Value.bool (decide_eq_false fun h=>by have q1:=h.gh; have q2:=h.len; omega).symm|exact congrArg Value.bool (decide_eq_false fun h=>by have q:=h.sync i x hx; unfold de at q; first|(rw [cQ (by omega)] at q; omega)|(rw [dC (by omega) hy] at q; omega)|omega).symm|exact congrArg Value.bool (decide_eq_false fun h=>by have q:=h.pair m k y x hy (by omega) hx; unfold fh at q; omega).symm|exact congrArg Value.bool (decide_eq_true (ff (by omega) (by omega) (eG (by omega) hl4_1) (by omega) hl10_1)).symm
  replace h113:=DF h113
  refine rS (FA 1 rfl eK rfl)<|rS (FA 1 rfl bP rfl)<|rS (L1 (Value.int .i64 y.cx.Lo) 1 rfl bk rfl rfl)<|rS (FA 1 rfl eK rfl)<|rS (FA 2 rfl bZ rfl)<|rS (L1 (Value.int .i64 x.cx.Hi) 0 rfl bk rfl rfl)<|rS (BI rfl (cr ⟨by omega,by omega⟩))<|rS (MV rfl)<|rS (BI rfl eL)<|rS (PK rfl) ?_
  refine RK hK45 ?_
  refine bp rfl (fun h123=>?_) (fun h123=>?_)
  rotate_left 1
  ·replace h123:=DF h123
   refine cH<|aL<|KK hK36<|aC<|rS (MV rfl)<|rS (BI rfl (a9 ⟨by omega,by omega⟩))<|rS (AG rfl)<|aX ?_
   have hb48:(Value.int .i64 (((k+1):Nat):Int))=(Value.int .i64 (((k:Nat):Int)+1)):=by exact congrArg (Value.int .i64) (by omega)
   refine aY (hJ33 ⟨(k+1),⟨by omega,fun z hz=>by rw [hy] at hz; cases hz; exact iB (hl13_1 _ hy) hx (by unfold fh; omega)⟩⟩ _ _ _ rfl (by first|omega|(simp; omega)) (an.cons rfl<|an.cons rfl<|a_ rfl hb48<|an.nil _) (fun w hs=>St.bB [2,3] rfl rfl hs))
  replace h123:=DT h123
  refine WS fun _ hK47=>rS (AG rfl)<|RK hK47<|aE<|Q1 hQ rfl rfl rfl ?_
  first|exact congrArg Value.bool (decide_eq_false fun h=>by have q1:=h.gh; have q2:=h.len; omega).symm|exact congrArg Value.bool (decide_eq_false fun h=>by have q:=h.sync i x hx; unfold de at q; first|(rw [cQ (by omega)] at q; omega)|(rw [dC (by omega) hy] at q; omega)|omega).symm|exact congrArg Value.bool (decide_eq_false fun h=>by have q:=h.pair m k y x hy (by omega) hx; unfold fh at q; omega).symm|exact congrArg Value.bool (decide_eq_true (ff (by omega) (by omega) (eG (by omega) hl4_1) (by omega) hl10_1)).symm
 refine NO rfl rfl [11,12,13] fun T38 hT38=>AL rfl rn fun b39=>RD hT38 1 rfl<|N1 11<|NO rfl rfl [12,13] fun T40 hT40=>AL rfl rn fun b41=>RD hT40 2 rfl<|N1 12<|NO rfl rfl [13] fun T42 hT42=>oL rfl ue rfl ?_
 refine RD hT42 2 rfl<|N1 13<|NO rfl rfl [] fun T43 hT43=>e7 rfl ue rfl<|RD hT43 2 rfl<|kD<|KK hK37<|WS fun _ hK44=>rS (FA 0 rfl pf rfl)<|rS (L1 (Value.int .i64 c.cz) 2 rfl bk rfl rfl) ?_
 refine rS (FA 0 rfl ja rfl)<|rS (L1 (Value.int .i64 y.At) 0 rfl bk rfl rfl)<|rS (FA 0 rfl ja rfl)<|rS (L1 (Value.int .i64 x.At) 1 rfl bk rfl rfl) ?_
 obtain ⟨hq1,hq2,hq3⟩:=oY (fun j z _ hz=>hall j z hz) hy (hall _ _ hy) (show k<m by omega) hx
 refine rS (BI rfl (cr ⟨by omega,by omega⟩))<|rS (CL (tL c.cz (y.At-x.At) (by omega) (by first|assumption|omega|(simp; done)|(simp; omega))) (ar) rfl)<|rS (AG rfl)<|RK hK44<|WS fun _ hK45=>rS (FA 1 rfl eK rfl)<|rS (FA 1 rfl bP rfl)<|rS (L1 (Value.int .i64 x.cx.Lo) 1 rfl bk rfl rfl)<|rS (FA 1 rfl eK rfl)<|rS (FA 2 rfl bZ rfl) ?_
 refine rS (L1 (Value.int .i64 y.cx.Hi) 0 rfl bk rfl rfl)<|rS (BI rfl (cr ⟨by omega,by omega⟩))<|rS (MV rfl)<|rS (BI rfl eL)<|rS (MV rfl) ?_
 refine bo (t:=113) rfl (fun h113=>?_) (fun h113=>?_)
 ·replace h113:=DT h113
  refine rS (OX rfl)<|rS (OX rfl)<|rS (OX rfl)<|rS (OX rfl)<|rS (OX rfl)<|rS (OX rfl)<|rS (OX rfl)<|rS (OX rfl)<|rS (OX rfl)<|rS (PK rfl) ?_
  refine RK hK45<|aW rfl<|WS fun _ hK46=>rS (AG rfl)<|RK hK46<|aE<|Q1 hQ rfl rfl rfl ?_
  first|exact congrArg Value.bool (decide_eq_false fun h=>by have q1:=h.gh; have q2:=h.len; omega).symm|exact congrArg Value.bool (decide_eq_false fun h=>by have q:=h.sync i x hx; unfold de at q; first|(rw [cQ (by omega)] at q; omega)|(rw [dC (by omega) hy] at q; omega)|omega).symm|exact congrArg Value.bool (decide_eq_false fun h=>by have q:=h.pair m k y x hy (by omega) hx; unfold fh at q; omega).symm|exact congrArg Value.bool (decide_eq_true (ff (by omega) (by omega) (eG (by omega) hl4_1) (by omega) hl10_1)).symm
 replace h113:=DF h113
 refine rS (FA 1 rfl eK rfl)<|rS (FA 1 rfl bP rfl)<|rS (L1 (Value.int .i64 y.cx.Lo) 0 rfl bk rfl rfl)<|rS (FA 1 rfl eK rfl)<|rS (FA 2 rfl bZ rfl)<|rS (L1 (Value.int .i64 x.cx.Hi) 1 rfl bk rfl rfl)<|rS (BI rfl (cr ⟨by omega,by omega⟩))<|rS (MV rfl)<|rS (BI rfl eL)<|rS (PK rfl) ?_
 refine RK hK45 ?_
 refine bp rfl (fun h123=>?_) (fun h123=>?_)
 rotate_left 1
 ·replace h123:=DF h123
  refine cH<|aL<|KK hK36<|aC<|rS (MV rfl)<|rS (BI rfl (a9 ⟨by omega,by omega⟩))<|rS (AG rfl)<|aX ?_
  have hb48:(Value.int .i64 (((k+1):Nat):Int))=(Value.int .i64 (((k:Nat):Int)+1)):=by exact congrArg (Value.int .i64) (by omega)
  refine aY (hJ33 ⟨(k+1),⟨by omega,fun z hz=>by rw [hy] at hz; cases hz; exact iB (hl13_1 _ hy) hx (by unfold fh; omega)⟩⟩ _ _ _ rfl (by first|omega|(simp; omega)) (an.cons rfl<|an.cons rfl<|a_ rfl hb48<|an.nil _) (fun w hs=>St.bB [2,3] rfl rfl hs))
 replace h123:=DT h123
 refine WS fun _ hK47=>rS (AG rfl)<|RK hK47<|aE<|Q1 hQ rfl rfl rfl ?_
 first|exact congrArg Value.bool (decide_eq_false fun h=>by have q1:=h.gh; have q2:=h.len; omega).symm|exact congrArg Value.bool (decide_eq_false fun h=>by have q:=h.sync i x hx; unfold de at q; first|(rw [cQ (by omega)] at q; omega)|(rw [dC (by omega) hy] at q; omega)|omega).symm|exact congrArg Value.bool (decide_eq_false fun h=>by have q:=h.pair m k y x hy (by omega) hx; unfold fh at q; omega).symm|exact congrArg Value.bool (decide_eq_true (ff (by omega) (by omega) (eG (by omega) hl4_1) (by omega) hl10_1)).symm
set_option maxRecDepth 100000 in
set_option maxHeartbeats 400000 in
theorem CI (l:aV) (kA:Option Addr) (kC:Nat) (az:List RA) (cA:Option Addr) (cC:Nat) (bA:Option Addr) (bC:Nat) (n:Int) (hin:dM l az) (htr:bY l.au=true) (hbk: ∀ b∈l.aa,gO l b) (hn:0≤n∧n<(l.aa.length:Int)):
 dY Tryz.prog 92 [(Value.agg (aG.cells (aG.mk (ay.mk (aA.mk kA l.au.length kC)) l.bJ (aA.mk cA l.ag.length cC) (aA.mk bA l.aa.length bC) l.aB l.aZ l.aO)).toArray),(Value.int .i64 n)] [(rd kA l.au.length 9 (l.au.map ah.cells)),(rd cA l.ag.length 2 (List.zipWith ao.cells l.ag az)),(c_ (aP ao.eX l.ag az)),(rd bA l.aa.length 4 (l.aa.map aT.cells))] (Value.int .i64 (iw l n.toNat)):=by
 have htk:=hin.o0
 have hck:=hin.oZ
 have has:=hin.oG
 have hbm:=hin.oI
 have hsd:=hin.side
 refine bG Fs Tryz.func92 rfl rfl fun w0 Q hQ hN=>?_
 try dsimp only
 refine WS fun _ hK1=>gv rfl fun b2=>rS (AG rfl)<|RK hK1<|aw fun _ hK3=>WS fun _ hK4=>rS (MV rfl)<|rS (BI rfl eC)<|RK hK4 ?_
 refine bp rfl (fun h10=>?_) (fun h10=>?_)
 ·replace h10:=DT h10
  refine aw fun _ hK5=>dA ct [0,1,2,3,4,5,6,7,8,9,10,13] [11,12] [false,false,false,false,false,false,false,false,false,false,false,false] [false,false] [(aU b2 28 (aG.cells (aG.mk (ay.mk (aA.mk kA l.au.length kC)) l.bJ (aA.mk cA l.ag.length cC) (aA.mk bA l.aa.length bC) l.aB l.aZ l.aO))),(rd kA l.au.length 9 (l.au.map ah.cells)).ro,(rd cA l.ag.length 2 (List.zipWith ao.cells l.ag az)).ro,(c_ (aP ao.eX l.ag az)).ro,(rd bA l.aa.length 4 (l.aa.map aT.cells)).ro] [] (by kernel_rfl) (fun w hs=>St.bB [0,1,2,3,4] rfl rfl hs) (fun w hs=>St.bB [] rfl rfl hs)<|eS rfl (FA 0 rfl lF rfl)<|eS rfl (LP (ay.cells (ay.mk (aA.mk kA l.au.length kC))) 0 rfl jx rfl rfl rfl)<|eS rfl (FA 3 rfl dQ rfl)<|eS rfl (L1 (Value.slice bA l.aa.length bC) 0 rfl hP rfl rfl) ?_
  obtain ⟨y,hy⟩: ∃ y_,l.aa[0]? =some y_:=⟨l.aa[0]'(by omega),List.getElem?_eq_getElem _⟩
  have hym:(l.aa.map aT.cells)[0]? =some (aT.cells y):=by rw [List.getElem?_map,hy]; rfl
  refine eS rfl (IA 0 rfl (aQ 4 rfl) pL (by decide) rfl (by omega))<|eS rfl (qP (0*4) rfl (aQ 4 rfl) (Nat.mul_pos (by omega) (by decide)) lD rfl)<|eS rfl (kE 0 0 (br.cells y.ic) rfl ki (aQ 4 rfl) hym rfl (by decide) rfl rfl)<|eS rfl (CL (DK l.au kA kC y.ic (by first|assumption|omega|(simp; done)|(simp; omega)) (by first|assumption|omega|(simp; done)|(simp; omega))) (ax 1 rfl rfl<|ar) rfl)<|eS rfl (MV rfl)<|eS rfl (EX rfl)<|eS rfl (EX rfl)<|eS rfl (AG rfl)<|eJ rfl<|cf rfl fun T6 hT6=>?_
  refine AL rfl dk fun b7=>RN hT6 [1,2,3,4,5] rfl rfl<|cf rfl fun T8 hT8=>e7 rfl cv rfl<|RN hT8 [1,2,3,4,5] rfl rfl<|fJ rfl<|KK hK5<|WS fun _ hK9=>rS (FA 0 rfl bP rfl)<|rS (L1 (Value.int .i64 ((s_ l.au y.ic).Lo)) 0 rfl bk rfl rfl) ?_
  refine rS (AG rfl)<|RK hK9<|aE<|Q1 hQ rfl rfl rfl ?_
  first|(refine congrArg (Value.int .i64) ?_; rw [show n.toNat=0 by omega]; rw [mY hy,(kS htr (hbk _ (List.mem_of_getElem? hy)).1).2])|(refine congrArg (Value.int .i64) ?_; rw [n_ (by omega) hx (by rw [show n.toNat-1=(n-1).toNat by omega]; exact hy),(cj htr ⟨(hbk _ (List.mem_of_getElem? hy)).1,(hbk _ (List.mem_of_getElem? hx)).1⟩).2])
 replace h10:=DF h10
 refine WK hK3<|aw fun _ hK10=>dA ct [0,1,2,3,4,5,6,7,8,9,10,11,12,13,14,15,16,17,18,21] [19,20] [false,false,false,false,false,false,false,false,false,false,false,false,false,false,false,false,false,false,false,false] [false,false] [(aU b2 28 (aG.cells (aG.mk (ay.mk (aA.mk kA l.au.length kC)) l.bJ (aA.mk cA l.ag.length cC) (aA.mk bA l.aa.length bC) l.aB l.aZ l.aO))),(rd kA l.au.length 9 (l.au.map ah.cells)).ro,(rd cA l.ag.length 2 (List.zipWith ao.cells l.ag az)).ro,(c_ (aP ao.eX l.ag az)).ro,(rd bA l.aa.length 4 (l.aa.map aT.cells)).ro] [] (by kernel_rfl) (fun w hs=>St.bB [0,1,2,3,4] rfl rfl hs) (fun w hs=>St.bB [] rfl rfl hs)<|eS rfl (FA 0 rfl lF rfl)<|eS rfl (LP (ay.cells (ay.mk (aA.mk kA l.au.length kC))) 0 rfl jx rfl rfl rfl)<|eS rfl (FA 3 rfl dQ rfl)<|eS rfl (L1 (Value.slice bA l.aa.length bC) 0 rfl hP rfl rfl)<|eS rfl (MV rfl)<|eS rfl (BI rfl (cr ⟨by omega,by omega⟩)) ?_
 obtain ⟨y,hy⟩: ∃ y_,l.aa[((n-1)).toNat]? =some y_:=⟨l.aa[((n-1)).toNat]'(by omega),List.getElem?_eq_getElem _⟩
 have hym:(l.aa.map aT.cells)[((n-1)).toNat]? =some (aT.cells y):=by rw [List.getElem?_map,hy]; rfl
 refine eS rfl (IA (((n-1)).toNat) rfl (aQ 4 rfl) pL (by decide) (by omega) (by omega))<|eS rfl (qP ((((n-1)).toNat)*4) rfl (aQ 4 rfl) (Nat.mul_pos (by omega) (by decide)) lD rfl)<|eS rfl (kE (((n-1)).toNat) 0 (br.cells y.ic) rfl ki (aQ 4 rfl) hym rfl (by decide) rfl rfl)<|eS rfl (FA 3 rfl dQ rfl)<|eS rfl (L1 (Value.slice bA l.aa.length bC) 0 rfl hP rfl rfl)<|eS rfl (MV rfl) ?_
 obtain ⟨x,hx⟩: ∃ y_,l.aa[(n).toNat]? =some y_:=⟨l.aa[(n).toNat]'(by omega),List.getElem?_eq_getElem _⟩
 have hxm:(l.aa.map aT.cells)[(n).toNat]? =some (aT.cells x):=by rw [List.getElem?_map,hx]; rfl
 refine eS rfl (IA ((n).toNat) rfl (aQ 4 rfl) pL (by decide) (by omega) (by omega))<|eS rfl (qP (((n).toNat)*4) rfl (aQ 4 rfl) (Nat.mul_pos (by omega) (by decide)) lD rfl)<|eS rfl (kE ((n).toNat) 0 (br.cells x.ic) rfl ki (aQ 4 rfl) hxm rfl (by decide) rfl rfl)<|eS rfl (CL (zf l.au kA kC y.ic x.ic (by first|assumption|omega|(simp; done)|(simp; omega)) (by first|assumption|omega|(simp; done)|(simp; omega))) (ax 1 rfl rfl<|ar) rfl)<|eS rfl (MV rfl)<|eS rfl (EX rfl)<|eS rfl (EX rfl)<|eS rfl (AG rfl)<|eJ rfl<|cf rfl fun T11 hT11=>?_
 refine AL rfl dk fun b12=>RN hT11 [1,2,3,4,5] rfl rfl<|cf rfl fun T13 hT13=>e7 rfl cv rfl<|RN hT13 [1,2,3,4,5] rfl rfl<|fJ rfl<|KK hK10<|WS fun _ hK14=>rS (FA 0 rfl bP rfl)<|rS (L1 (Value.int .i64 ((dp l.au y.ic x.ic).Lo)) 0 rfl bk rfl rfl) ?_
 refine rS (AG rfl)<|RK hK14<|aE<|Q1 hQ rfl rfl rfl ?_
 first|(refine congrArg (Value.int .i64) ?_; rw [show n.toNat=0 by omega]; rw [mY hy,(kS htr (hbk _ (List.mem_of_getElem? hy)).1).2])|(refine congrArg (Value.int .i64) ?_; rw [n_ (by omega) hx (by rw [show n.toNat-1=(n-1).toNat by omega]; exact hy),(cj htr ⟨(hbk _ (List.mem_of_getElem? hy)).1,(hbk _ (List.mem_of_getElem? hx)).1⟩).2])
set_option maxRecDepth 100000 in
set_option maxHeartbeats 400000 in
theorem zW (l:aV) (kA:Option Addr) (kC:Nat) (az:List RA) (cA:Option Addr) (cC:Nat) (bA:Option Addr) (bC:Nat) (hin:dM l az) (htr:bY l.au=true):
 dY Tryz.prog 72 [(Value.agg (aG.cells (aG.mk (ay.mk (aA.mk kA l.au.length kC)) l.bJ (aA.mk cA l.ag.length cC) (aA.mk bA l.aa.length bC) l.aB l.aZ l.aO)).toArray)] [(rd kA l.au.length 9 (l.au.map ah.cells)),(rd cA l.ag.length 2 (List.zipWith ao.cells l.ag az)),(c_ (aP ao.eX l.ag az)),(rd bA l.aa.length 4 (l.aa.map aT.cells))] (Value.bool (decide (jB l))):=by
 have htk:=hin.o0
 have hck:=hin.oZ
 have has:=hin.oG
 have hbm:=hin.oI
 have hsd:=hin.side
 have hst:=gV htr
 have hl12:=iv htr
 refine bG Gs Tryz.func72 rfl rfl fun w0 Q hQ hN=>?_
 try dsimp only
 refine WS fun _ hK1=>gv rfl fun b2=>rS (AG rfl)<|RK hK1<|aw fun _ hK3=>WS fun _ hK4=>rS (FA 1 rfl qt rfl)<|rS (L1 (Value.int .i64 l.bJ) 0 rfl bk rfl rfl)<|rS (CL (fw l.bJ 1 5000) (ar) rfl)<|rS (NT rfl) ?_
 refine rS (MV rfl) ?_
 refine bo (t:=10) rfl (fun h10=>?_) (fun h10=>?_)
 ·replace h10:=XT h10
  refine rS (OX rfl)<|rS (OX rfl)<|rS (OX rfl)<|rS (OX rfl)<|rS (OX rfl)<|rS (PK rfl)<|rS (MV rfl)<|rS (OX rfl)<|rS (OX rfl)<|rS (OX rfl) ?_
  refine rS (OX rfl)<|rS (OX rfl)<|rS (PK rfl)<|rS (MV rfl)<|rS (OX rfl)<|rS (OX rfl)<|rS (OX rfl)<|rS (OX rfl)<|rS (OX rfl)<|rS (OX rfl) ?_
  refine rS (OX rfl)<|rS (OX rfl)<|rS (PK rfl)<|rS (MV rfl)<|rS (OX rfl)<|rS (OX rfl)<|rS (OX rfl)<|rS (OX rfl)<|rS (PK rfl)<|rS (MV rfl) ?_
  refine rS (OX rfl)<|rS (OX rfl)<|rS (OX rfl)<|rS (OX rfl)<|rS (PK rfl)<|RK hK4<|aW rfl<|WS fun _ hK5=>rS (AG rfl)<|RK hK5 ?_
  refine aE<|Q1 hQ rfl rfl rfl ?_
  first|exact congrArg Value.bool (decide_eq_false fun h=>by have q:=h.head; unfold cU at q; omega).symm|exact congrArg Value.bool (decide_eq_false fun h=>h59 (h.clock _ (List.mem_of_getElem? hx))).symm|exact congrArg Value.bool (decide_eq_false fun h=>by have q:=h.ij _ (List.mem_of_getElem? hy); have q2:=q.2; first|exact h77 q.1|omega).symm|exact congrArg Value.bool (decide_eq_false fun h=>by have q:=h.re n (by omega); simp only [Int.toNat_natCast] at h101; omega).symm|exact congrArg Value.bool (decide_eq_true (ef (by unfold cU; omega) (dq (by omega) hl4_1) (dq (by omega) hl9_1) (fun j hj=>hl14_1 j (by omega)))).symm
 replace h10:=XF h10
 refine rS (FA 2 rfl iY rfl)<|rS (L1 (Value.slice cA l.ag.length cC) 0 rfl oP rfl rfl)<|rS (LN rfl rm)<|rS (CL (fw ((l.ag.length:Nat):Int) 1 4) (ar) rfl)<|rS (NT rfl)<|rS (PK rfl)<|rS (MV rfl) ?_
 refine bo (t:=17) rfl (fun h17=>?_) (fun h17=>?_)
 ·replace h17:=XT h17
  refine rS (OX rfl)<|rS (OX rfl)<|rS (OX rfl)<|rS (OX rfl)<|rS (OX rfl)<|rS (PK rfl)<|rS (MV rfl)<|rS (OX rfl)<|rS (OX rfl)<|rS (OX rfl) ?_
  refine rS (OX rfl)<|rS (OX rfl)<|rS (OX rfl)<|rS (OX rfl)<|rS (OX rfl)<|rS (PK rfl)<|rS (MV rfl)<|rS (OX rfl)<|rS (OX rfl)<|rS (OX rfl) ?_
  refine rS (OX rfl)<|rS (PK rfl)<|rS (MV rfl)<|rS (OX rfl)<|rS (OX rfl)<|rS (OX rfl)<|rS (OX rfl)<|rS (PK rfl)<|RK hK4<|aW rfl ?_
  refine WS fun _ hK6=>rS (AG rfl)<|RK hK6<|aE<|Q1 hQ rfl rfl rfl ?_
  first|exact congrArg Value.bool (decide_eq_false fun h=>by have q:=h.head; unfold cU at q; omega).symm|exact congrArg Value.bool (decide_eq_false fun h=>h59 (h.clock _ (List.mem_of_getElem? hx))).symm|exact congrArg Value.bool (decide_eq_false fun h=>by have q:=h.ij _ (List.mem_of_getElem? hy); have q2:=q.2; first|exact h77 q.1|omega).symm|exact congrArg Value.bool (decide_eq_false fun h=>by have q:=h.re n (by omega); simp only [Int.toNat_natCast] at h101; omega).symm|exact congrArg Value.bool (decide_eq_true (ef (by unfold cU; omega) (dq (by omega) hl4_1) (dq (by omega) hl9_1) (fun j hj=>hl14_1 j (by omega)))).symm
 replace h17:=XF h17
 refine rS (FA 3 rfl dQ rfl)<|rS (L1 (Value.slice bA l.aa.length bC) 0 rfl hP rfl rfl)<|rS (LN rfl jz)<|rS (CL (fw ((l.aa.length:Nat):Int) 1 6) (ar) rfl)<|rS (NT rfl)<|rS (PK rfl)<|rS (MV rfl) ?_
 refine bo (t:=24) rfl (fun h24=>?_) (fun h24=>?_)
 ·replace h24:=XT h24
  refine rS (OX rfl)<|rS (OX rfl)<|rS (OX rfl)<|rS (OX rfl)<|rS (OX rfl)<|rS (OX rfl)<|rS (OX rfl)<|rS (OX rfl)<|rS (PK rfl)<|rS (MV rfl) ?_
  refine rS (OX rfl)<|rS (OX rfl)<|rS (OX rfl)<|rS (OX rfl)<|rS (PK rfl)<|rS (MV rfl)<|rS (OX rfl)<|rS (OX rfl)<|rS (OX rfl)<|rS (OX rfl) ?_
  refine rS (PK rfl)<|RK hK4<|aW rfl<|WS fun _ hK7=>rS (AG rfl)<|RK hK7<|aE<|Q1 hQ rfl rfl rfl ?_
  first|exact congrArg Value.bool (decide_eq_false fun h=>by have q:=h.head; unfold cU at q; omega).symm|exact congrArg Value.bool (decide_eq_false fun h=>h59 (h.clock _ (List.mem_of_getElem? hx))).symm|exact congrArg Value.bool (decide_eq_false fun h=>by have q:=h.ij _ (List.mem_of_getElem? hy); have q2:=q.2; first|exact h77 q.1|omega).symm|exact congrArg Value.bool (decide_eq_false fun h=>by have q:=h.re n (by omega); simp only [Int.toNat_natCast] at h101; omega).symm|exact congrArg Value.bool (decide_eq_true (ef (by unfold cU; omega) (dq (by omega) hl4_1) (dq (by omega) hl9_1) (fun j hj=>hl14_1 j (by omega)))).symm
 replace h24:=XF h24
 refine rS (FA 4 rfl fV rfl)<|rS (L1 (Value.int .i64 l.aB) 0 rfl bk rfl rfl)<|rS (FA 3 rfl dQ rfl)<|rS (L1 (Value.slice bA l.aa.length bC) 0 rfl hP rfl rfl)<|rS (LN rfl jz)<|rS (BI rfl (cr ⟨by omega,by omega⟩))<|rS (CL (fw l.aB 0 (((l.aa.length:Nat):Int)-1)) (ar) rfl)<|rS (NT rfl)<|rS (PK rfl)<|rS (MV rfl) ?_
 refine bo (t:=34) rfl (fun h34=>?_) (fun h34=>?_)
 ·replace h34:=XT h34
  refine rS (OX rfl)<|rS (OX rfl)<|rS (OX rfl)<|rS (OX rfl)<|rS (PK rfl)<|rS (MV rfl)<|rS (OX rfl)<|rS (OX rfl)<|rS (OX rfl)<|rS (OX rfl) ?_
  refine rS (PK rfl)<|RK hK4<|aW rfl<|WS fun _ hK8=>rS (AG rfl)<|RK hK8<|aE<|Q1 hQ rfl rfl rfl ?_
  first|exact congrArg Value.bool (decide_eq_false fun h=>by have q:=h.head; unfold cU at q; omega).symm|exact congrArg Value.bool (decide_eq_false fun h=>h59 (h.clock _ (List.mem_of_getElem? hx))).symm|exact congrArg Value.bool (decide_eq_false fun h=>by have q:=h.ij _ (List.mem_of_getElem? hy); have q2:=q.2; first|exact h77 q.1|omega).symm|exact congrArg Value.bool (decide_eq_false fun h=>by have q:=h.re n (by omega); simp only [Int.toNat_natCast] at h101; omega).symm|exact congrArg Value.bool (decide_eq_true (ef (by unfold cU; omega) (dq (by omega) hl4_1) (dq (by omega) hl9_1) (fun j hj=>hl14_1 j (by omega)))).symm
 replace h34:=XF h34
 refine rS (FA 5 rfl sx rfl)<|rS (L1 (Value.int .i64 l.aZ) 0 rfl bk rfl rfl)<|rS (CL (fw l.aZ 0 3) (ar) rfl)<|rS (NT rfl)<|rS (PK rfl)<|rS (MV rfl) ?_
 refine bo (t:=40) rfl (fun h40=>?_) (fun h40=>?_)
 ·replace h40:=XT h40
  refine rS (OX rfl)<|rS (OX rfl)<|rS (OX rfl)<|rS (OX rfl)<|rS (PK rfl)<|RK hK4<|aW rfl<|WS fun _ hK9=>rS (AG rfl)<|RK hK9 ?_
  refine aE<|Q1 hQ rfl rfl rfl ?_
  first|exact congrArg Value.bool (decide_eq_false fun h=>by have q:=h.head; unfold cU at q; omega).symm|exact congrArg Value.bool (decide_eq_false fun h=>h59 (h.clock _ (List.mem_of_getElem? hx))).symm|exact congrArg Value.bool (decide_eq_false fun h=>by have q:=h.ij _ (List.mem_of_getElem? hy); have q2:=q.2; first|exact h77 q.1|omega).symm|exact congrArg Value.bool (decide_eq_false fun h=>by have q:=h.re n (by omega); simp only [Int.toNat_natCast] at h101; omega).symm|exact congrArg Value.bool (decide_eq_true (ef (by unfold cU; omega) (dq (by omega) hl4_1) (dq (by omega) hl9_1) (fun j hj=>hl14_1 j (by omega)))).symm
 replace h40:=XF h40
 refine rS (FA 6 rfl sk rfl)<|rS (L1 (Value.int .i64 l.aO) 0 rfl bk rfl rfl)<|rS (CL (fw l.aO 0 3) (ar) rfl)<|rS (NT rfl)<|rS (PK rfl)<|RK hK4 ?_
 refine bp rfl (fun h45=>?_) (fun h45=>?_)
 ·replace h45:=XT h45
  refine WS fun _ hK10=>rS (AG rfl)<|RK hK10<|aE<|Q1 hQ rfl rfl rfl ?_
  first|exact congrArg Value.bool (decide_eq_false fun h=>by have q:=h.head; unfold cU at q; omega).symm|exact congrArg Value.bool (decide_eq_false fun h=>h59 (h.clock _ (List.mem_of_getElem? hx))).symm|exact congrArg Value.bool (decide_eq_false fun h=>by have q:=h.ij _ (List.mem_of_getElem? hy); have q2:=q.2; first|exact h77 q.1|omega).symm|exact congrArg Value.bool (decide_eq_false fun h=>by have q:=h.re n (by omega); simp only [Int.toNat_natCast] at h101; omega).symm|exact congrArg Value.bool (decide_eq_true (ef (by unfold cU; omega) (dq (by omega) hl4_1) (dq (by omega) hl9_1) (fun j hj=>hl14_1 j (by omega)))).symm
 replace h45:=XF h45
 refine WK hK3<|aw fun _ hK11=>WS fun _ hK12=>rS (AG rfl)<|RK hK12<|aH ?_
 have hinit:(0≤l.ag.length)∧(∀ (j:Nat) y,j<0→l.ag[j]? =some y→dv y):=by exact ⟨Nat.zero_le _,fun j y hj=>absurd hj (Nat.not_lt_zero _)⟩
 refine cP (ι:={z:Nat // (z≤l.ag.length)∧(∀ (j:Nat) y,j<z→l.ag[j]? =some y→dv y)}) (fun z=>[(1,(Value.pointer (some ⟨b2,0,none⟩))),(3,(Value.int .i64 ((z.1:Nat):Int)))]) (fun z=>[(aU b2 28 (aG.cells (aG.mk (ay.mk (aA.mk kA l.au.length kC)) l.bJ (aA.mk cA l.ag.length cC) (aA.mk bA l.aa.length bC) l.aB l.aZ l.aO))),(rd kA l.au.length 9 (l.au.map ah.cells)).ro,(rd cA l.ag.length 2 (List.zipWith ao.cells l.ag az)).ro,(c_ (aP ao.eX l.ag az)).ro,(rd bA l.aa.length 4 (l.aa.map aT.cells)).ro]) (fun z=>l.ag.length-z.1) ⟨0,hinit⟩ (an.cons rfl<|an.cons rfl<|an.nil _) (fun w hs=>St.bB [0,1,2,3,4] rfl rfl hs) ?_
 clear hinit
 rintro ⟨i,⟨hl4_0,hl4_1⟩⟩ J13 hJ13
 try dsimp only
 refine aw fun _ hK14=>WS fun _ hK15=>rS (MV rfl)<|rS (FA 2 rfl iY rfl)<|rS (L1 (Value.slice cA l.ag.length cC) 0 rfl oP rfl rfl)<|rS (LN rfl rm)<|rS (BI rfl cq)<|RK hK15 ?_
 refine bp rfl (fun h50=>?_) (fun h50=>?_)
 ·replace h50:=DT h50
  refine WK hK14<|aw fun _ hK16=>aH<|WS fun _ hK17=>rS (FA 2 rfl iY rfl)<|rS (L1 (Value.slice cA l.ag.length cC) 0 rfl oP rfl rfl)<|rS (MV rfl) ?_
  obtain ⟨x,hx⟩: ∃ y_,l.ag[i]? =some y_:=⟨l.ag[i]'(by omega),List.getElem?_eq_getElem _⟩
  obtain ⟨xa,hxa⟩: ∃ y_,az[i]? =some y_:=⟨az[i]'(by omega),List.getElem?_eq_getElem _⟩
  have hxm:(List.zipWith ao.cells l.ag az)[i]? =some (ao.cells x xa):=jH hx hxa
  refine rS (IA i rfl (aQ 2 rfl) vj (by decide) (by omega) (by omega))<|rS (kE i 0 (b_.cells (b_.mk x.cz (aA.mk xa.1 x.aJ.length xa.2))) rfl tY (aQ 2 rfl) hxm rfl (by decide) rfl rfl) ?_
  have hsy:=(hin.EM _ _ _ hx hxa).2
  refine rS (CL (yj x xa.1 xa.2 (by first|assumption|omega|(simp; done)|(simp; omega))) (aF (show nj _ (rd xa.1 x.aJ.length 3 (x.aJ.map bI.cells)).holds from (jI 3 rfl (fg hx hxa (by simp [ao.eX]))))<|ar) rfl)<|rS (NT rfl)<|RK hK17 ?_
  refine bp rfl (fun h59=>?_) (fun h59=>?_)
  rotate_left 1
  ·replace h59:=XF h59
   refine cH<|aL<|KK hK16<|aC<|rS (MV rfl)<|rS (BI rfl (a9 ⟨by omega,by omega⟩))<|rS (AG rfl)<|aX ?_
   have hb19:(Value.int .i64 (((i+1):Nat):Int))=(Value.int .i64 (((i:Nat):Int)+1)):=by exact congrArg (Value.int .i64) (by omega)
   refine aY (hJ13 ⟨(i+1),⟨by omega,iB (P:=fun _ y=>dv y) hl4_1 hx h59⟩⟩ _ _ _ rfl (by first|omega|(simp; omega)) (an.cons rfl<|a_ rfl hb19<|an.nil _) (fun w hs=>St.bB [0,1,2,3,4] rfl rfl hs))
  replace h59:=XT h59
  refine WS fun _ hK18=>rS (AG rfl)<|RK hK18<|aE<|Q1 hQ rfl rfl rfl ?_
  first|exact congrArg Value.bool (decide_eq_false fun h=>by have q:=h.head; unfold cU at q; omega).symm|exact congrArg Value.bool (decide_eq_false fun h=>h59 (h.clock _ (List.mem_of_getElem? hx))).symm|exact congrArg Value.bool (decide_eq_false fun h=>by have q:=h.ij _ (List.mem_of_getElem? hy); have q2:=q.2; first|exact h77 q.1|omega).symm|exact congrArg Value.bool (decide_eq_false fun h=>by have q:=h.re n (by omega); simp only [Int.toNat_natCast] at h101; omega).symm|exact congrArg Value.bool (decide_eq_true (ef (by unfold cU; omega) (dq (by omega) hl4_1) (dq (by omega) hl9_1) (fun j hj=>hl14_1 j (by omega)))).symm
 replace h50:=DF h50
 refine bM<|ai<|ai<|aI<|KK hK11<|aw fun _ hK20=>WS fun _ hK21=>rS (AG rfl)<|RK hK21<|aH ?_
 have hinit:(0≤l.aa.length)∧(∀ (j:Nat) y,j<0→l.aa[j]? =some y→gO l y):=by exact ⟨Nat.zero_le _,fun j y hj=>absurd hj (Nat.not_lt_zero _)⟩
 refine cP (ι:={z:Nat // (z≤l.aa.length)∧(∀ (j:Nat) y,j<z→l.aa[j]? =some y→gO l y)}) (fun z=>[(1,(Value.pointer (some ⟨b2,0,none⟩))),(4,(Value.int .i64 ((z.1:Nat):Int)))]) (fun z=>[(aU b2 28 (aG.cells (aG.mk (ay.mk (aA.mk kA l.au.length kC)) l.bJ (aA.mk cA l.ag.length cC) (aA.mk bA l.aa.length bC) l.aB l.aZ l.aO))),(rd kA l.au.length 9 (l.au.map ah.cells)).ro,(rd cA l.ag.length 2 (List.zipWith ao.cells l.ag az)).ro,(c_ (aP ao.eX l.ag az)).ro,(rd bA l.aa.length 4 (l.aa.map aT.cells)).ro]) (fun z=>l.aa.length-z.1) ⟨0,hinit⟩ (an.cons rfl<|an.cons rfl<|an.nil _) (fun w hs=>St.bB [0,1,2,3,4] rfl rfl hs) ?_
 clear hinit
 rintro ⟨m,⟨hl9_0,hl9_1⟩⟩ J22 hJ22
 try dsimp only
 refine aw fun _ hK23=>WS fun _ hK24=>rS (MV rfl)<|rS (FA 3 rfl dQ rfl)<|rS (L1 (Value.slice bA l.aa.length bC) 0 rfl hP rfl rfl)<|rS (LN rfl jz)<|rS (BI rfl cq)<|RK hK24 ?_
 refine bp rfl (fun h64=>?_) (fun h64=>?_)
 rotate_left 1
 ·replace h64:=DF h64
  refine bM<|ai<|ai<|aI<|KK hK20<|aw fun _ hK30=>WS fun _ hK31=>rS (AG rfl)<|RK hK31<|aH ?_
  have hinit:(0≤l.aa.length)∧(∀ j,j<0→1≤iw l j):=by exact ⟨Nat.zero_le _,fun j hj=>absurd hj (Nat.not_lt_zero _)⟩
  refine cP (ι:={z:Nat // (z≤l.aa.length)∧(∀ j,j<z→1≤iw l j)}) (fun z=>[(1,(Value.pointer (some ⟨b2,0,none⟩))),(5,(Value.int .i64 ((z.1:Nat):Int)))]) (fun z=>[(aU b2 28 (aG.cells (aG.mk (ay.mk (aA.mk kA l.au.length kC)) l.bJ (aA.mk cA l.ag.length cC) (aA.mk bA l.aa.length bC) l.aB l.aZ l.aO))),(rd kA l.au.length 9 (l.au.map ah.cells)).ro,(rd cA l.ag.length 2 (List.zipWith ao.cells l.ag az)).ro,(c_ (aP ao.eX l.ag az)).ro,(rd bA l.aa.length 4 (l.aa.map aT.cells)).ro]) (fun z=>l.aa.length-z.1) ⟨0,hinit⟩ (an.cons rfl<|an.cons rfl<|an.nil _) (fun w hs=>St.bB [0,1,2,3,4] rfl rfl hs) ?_
  clear hinit
  rintro ⟨n,⟨hl14_0,hl14_1⟩⟩ J32 hJ32
  try dsimp only
  have hbk:=dq (P:=gO l) (by omega) hl9_1
  refine aw fun _ hK33=>WS fun _ hK34=>rS (MV rfl)<|rS (FA 3 rfl dQ rfl)<|rS (L1 (Value.slice bA l.aa.length bC) 0 rfl hP rfl rfl)<|rS (LN rfl jz)<|rS (BI rfl cq)<|RK hK34 ?_
  refine bp rfl (fun h95=>?_) (fun h95=>?_)
  rotate_left 1
  ·replace h95:=DF h95
   refine bM<|ai<|ai<|aI<|KK hK30<|WS fun _ hK39=>rS (AG rfl)<|RK hK39<|aE<|Q1 hQ rfl rfl rfl ?_
   first|exact congrArg Value.bool (decide_eq_false fun h=>by have q:=h.head; unfold cU at q; omega).symm|exact congrArg Value.bool (decide_eq_false fun h=>h59 (h.clock _ (List.mem_of_getElem? hx))).symm|exact congrArg Value.bool (decide_eq_false fun h=>by have q:=h.ij _ (List.mem_of_getElem? hy); have q2:=q.2; first|exact h77 q.1|omega).symm|exact congrArg Value.bool (decide_eq_false fun h=>by have q:=h.re n (by omega); simp only [Int.toNat_natCast] at h101; omega).symm|exact congrArg Value.bool (decide_eq_true (ef (by unfold cU; omega) (dq (by omega) hl4_1) (dq (by omega) hl9_1) (fun j hj=>hl14_1 j (by omega)))).symm
  replace h95:=DT h95
  refine WK hK33<|aw fun _ hK35=>aH<|WS fun _ hK36=>rS (LW 0 rfl eP rfl rfl)<|rS (MV rfl)<|rS (CL (CI l kA kC az cA cC bA bC ((n:Nat):Int) hin htr (by first|assumption|omega|(simp; done)|(simp; omega)) (by first|assumption|omega|(simp; done)|(simp; omega))) (ax 1 rfl rfl<|ax 2 rfl rfl<|ax 3 rfl rfl<|ax 4 rfl rfl<|ar) rfl)<|rS (BI rfl cq)<|RK hK36 ?_
  refine bp rfl (fun h101=>?_) (fun h101=>?_)
  rotate_left 1
  ·replace h101:=DF h101
   refine cH<|aL<|KK hK35<|aC<|rS (MV rfl)<|rS (BI rfl (a9 ⟨by omega,by omega⟩))<|rS (AG rfl)<|aX ?_
   have hb38:(Value.int .i64 (((n+1):Nat):Int))=(Value.int .i64 (((n:Nat):Int)+1)):=by exact congrArg (Value.int .i64) (by omega)
   refine aY (hJ32 ⟨(n+1),⟨by omega,fun j hj=>by rcases Nat.lt_or_ge j n with q|q; exact hl14_1 j q; (obtain rfl:j=n:=by omega); simp only [Int.toNat_natCast] at h101; omega⟩⟩ _ _ _ rfl (by first|omega|(simp; omega)) (an.cons rfl<|a_ rfl hb38<|an.nil _) (fun w hs=>St.bB [0,1,2,3,4] rfl rfl hs))
  replace h101:=DT h101
  refine WS fun _ hK37=>rS (AG rfl)<|RK hK37<|aE<|Q1 hQ rfl rfl rfl ?_
  first|exact congrArg Value.bool (decide_eq_false fun h=>by have q:=h.head; unfold cU at q; omega).symm|exact congrArg Value.bool (decide_eq_false fun h=>h59 (h.clock _ (List.mem_of_getElem? hx))).symm|exact congrArg Value.bool (decide_eq_false fun h=>by have q:=h.ij _ (List.mem_of_getElem? hy); have q2:=q.2; first|exact h77 q.1|omega).symm|exact congrArg Value.bool (decide_eq_false fun h=>by have q:=h.re n (by omega); simp only [Int.toNat_natCast] at h101; omega).symm|exact congrArg Value.bool (decide_eq_true (ef (by unfold cU; omega) (dq (by omega) hl4_1) (dq (by omega) hl9_1) (fun j hj=>hl14_1 j (by omega)))).symm
 replace h64:=DT h64
 refine WK hK23<|aw fun _ hK25=>aH<|aw fun _ hK26=>dj ct 24 (by kernel_rfl)<|dS (FA 0 rfl lF rfl)<|dS (LP (ay.cells (ay.mk (aA.mk kA l.au.length kC))) 0 rfl jx rfl rfl rfl)<|dS (FA 3 rfl dQ rfl)<|dS (L1 (Value.slice bA l.aa.length bC) 0 rfl hP rfl rfl)<|dS (MV rfl) ?_
 obtain ⟨y,hy⟩: ∃ y_,l.aa[m]? =some y_:=⟨l.aa[m]'(by omega),List.getElem?_eq_getElem _⟩
 have hym:(l.aa.map aT.cells)[m]? =some (aT.cells y):=by rw [List.getElem?_map,hy]; rfl
 refine dS (IA m rfl (aQ 4 rfl) pL (by decide) (by omega) (by omega))<|dS (qP (m*4) rfl (aQ 4 rfl) (Nat.mul_pos (by omega) (by decide)) lD rfl)<|dS (kE m 0 (br.cells y.ic) rfl ki (aQ 4 rfl) hym rfl (by decide) rfl rfl)<|dS (CL (mO l.au kA kC y.ic (by first|assumption|omega|(simp; done)|(simp; omega)) (by first|assumption|omega|(simp; done)|(simp; omega))) (ax 1 rfl rfl<|ar) rfl)<|dS (NT rfl)<|dS (MV rfl) ?_
 refine db (t:=77) rfl (fun h77=>?_) (fun h77=>?_)
 ·replace h77:=XT h77
  refine dS (OX rfl)<|dS (OX rfl)<|dS (OX rfl)<|dS (OX rfl)<|dS (OX rfl)<|dS (OX rfl)<|dS (OX rfl)<|dS (OX rfl)<|dS (OX rfl)<|dS (OX rfl) ?_
  refine dS (OX rfl)<|dS (OX rfl)<|dS (PK rfl)<|cE<|RK hK26<|aW rfl<|WS fun _ hK27=>rS (AG rfl)<|RK hK27<|aE ?_
  refine Q1 hQ rfl rfl rfl ?_
  first|exact congrArg Value.bool (decide_eq_false fun h=>by have q:=h.head; unfold cU at q; omega).symm|exact congrArg Value.bool (decide_eq_false fun h=>h59 (h.clock _ (List.mem_of_getElem? hx))).symm|exact congrArg Value.bool (decide_eq_false fun h=>by have q:=h.ij _ (List.mem_of_getElem? hy); have q2:=q.2; first|exact h77 q.1|omega).symm|exact congrArg Value.bool (decide_eq_false fun h=>by have q:=h.re n (by omega); simp only [Int.toNat_natCast] at h101; omega).symm|exact congrArg Value.bool (decide_eq_true (ef (by unfold cU; omega) (dq (by omega) hl4_1) (dq (by omega) hl9_1) (fun j hj=>hl14_1 j (by omega)))).symm
 replace h77:=XF h77
 refine dS (FA 3 rfl dQ rfl)<|dS (L1 (Value.slice bA l.aa.length bC) 0 rfl hP rfl rfl)<|dS (MV rfl)<|dS (IA m rfl (aQ 4 rfl) pL (by decide) (by omega) (by omega))<|dS (qP ((m*4)+3) rfl (aQ 4 rfl) (Nat.mul_pos (by omega) (by decide)) p5 rfl)<|dS (ir m 3 (Value.int .i64 y.cO) rfl bk (aQ 4 rfl) hym rfl (by decide) rfl)<|dS (FA 2 rfl iY rfl)<|dS (L1 (Value.slice cA l.ag.length cC) 0 rfl oP rfl rfl)<|dS (LN rfl rm)<|dS (BI rfl (cr ⟨by omega,by omega⟩)) ?_
 refine dS (CL (fw y.cO 0 (((l.ag.length:Nat):Int)-1)) (ar) rfl)<|dS (NT rfl)<|dS (PK rfl)<|cE<|RK hK26 ?_
 refine bp rfl (fun h90=>?_) (fun h90=>?_)
 rotate_left 1
 ·replace h90:=XF h90
  refine cH<|aL<|KK hK25<|aC<|rS (MV rfl)<|rS (BI rfl (a9 ⟨by omega,by omega⟩))<|rS (AG rfl)<|aX ?_
  have hb29:(Value.int .i64 (((m+1):Nat):Int))=(Value.int .i64 (((m:Nat):Int)+1)):=by exact congrArg (Value.int .i64) (by omega)
  refine aY (hJ22 ⟨(m+1),⟨by omega,iB (P:=fun _ y=>gO l y) hl9_1 hy ⟨h77,by omega,by omega⟩⟩⟩ _ _ _ rfl (by first|omega|(simp; omega)) (an.cons rfl<|a_ rfl hb29<|an.nil _) (fun w hs=>St.bB [0,1,2,3,4] rfl rfl hs))
 replace h90:=XT h90
 refine WS fun _ hK28=>rS (AG rfl)<|RK hK28<|aE<|Q1 hQ rfl rfl rfl ?_
 first|exact congrArg Value.bool (decide_eq_false fun h=>by have q:=h.head; unfold cU at q; omega).symm|exact congrArg Value.bool (decide_eq_false fun h=>h59 (h.clock _ (List.mem_of_getElem? hx))).symm|exact congrArg Value.bool (decide_eq_false fun h=>by have q:=h.ij _ (List.mem_of_getElem? hy); have q2:=q.2; first|exact h77 q.1|omega).symm|exact congrArg Value.bool (decide_eq_false fun h=>by have q:=h.re n (by omega); simp only [Int.toNat_natCast] at h101; omega).symm|exact congrArg Value.bool (decide_eq_true (ef (by unfold cU; omega) (dq (by omega) hl4_1) (dq (by omega) hl9_1) (fun j hj=>hl14_1 j (by omega)))).symm
end
section
open Go.RowKit
set_option linter.unusedVariables false
set_option maxRecDepth 100000 in
set_option maxHeartbeats 400000 in
theorem xK (l:aV) (kA:Option Addr) (kC:Nat) (az:List RA) (cA:Option Addr) (cC:Nat) (bA:Option Addr) (bC:Nat) (hin:dM l az):
 dY Tryz.prog 41 [(Value.agg (aG.cells (aG.mk (ay.mk (aA.mk kA l.au.length kC)) l.bJ (aA.mk cA l.ag.length cC) (aA.mk bA l.aa.length bC) l.aB l.aZ l.aO)).toArray)] [(rd kA l.au.length 9 (l.au.map ah.cells)),(rd cA l.ag.length 2 (List.zipWith ao.cells l.ag az)),(c_ (aP ao.eX l.ag az)),(rd bA l.aa.length 4 (l.aa.map aT.cells))] (Value.int .i64 (cw l)):=by
 have htk:=hin.o0
 have hck:=hin.oZ
 have has:=hin.oG
 have hbm:=hin.oI
 refine bG Gz Tryz.func41 rfl rfl fun w0 Q hQ hN=>?_
 try dsimp only
 refine WS fun _ hK1=>gv rfl fun b2=>rS (AG rfl)<|RK hK1<|aw fun _ hK3=>WS fun _ hK4=>rS (FA 0 rfl lF rfl)<|rS (LP (ay.cells (ay.mk (aA.mk kA l.au.length kC))) 0 rfl jx rfl rfl rfl)<|rS (CL (pX l.au kA kC (by first|assumption|omega|(simp; done)|(simp; omega))) (ax 1 rfl rfl<|ar) rfl)<|rS (NT rfl) ?_
 refine RK hK4 ?_
 refine bp rfl (fun h6=>?_) (fun h6=>?_)
 ·rw [Bool.not_eq_true'] at h6
  refine WS fun _ hK5=>rS (AG rfl)<|RK hK5<|aE<|Q1 hQ rfl rfl rfl ?_
  first|exact congrArg (Value.int .i64) (g_ (by simpa using h6)).symm|exact congrArg (Value.int .i64) (dh h6 h9).symm|exact congrArg (Value.int .i64) (gR h6 h9).symm
 rw [Bool.not_eq_false'] at h6
 refine WK hK3<|aw fun _ hK6=>WS fun _ hK7=>rS (LW 0 rfl eP rfl rfl)<|rS (CL (zW l kA kC az cA cC bA bC hin (by first|assumption|omega|(simp; done)|(simp; omega))) (ax 1 rfl rfl<|ax 2 rfl rfl<|ax 3 rfl rfl<|ax 4 rfl rfl<|ar) rfl)<|rS (NT rfl)<|RK hK7 ?_
 refine bp rfl (fun h9=>?_) (fun h9=>?_)
 ·replace h9:=XT h9
  refine WS fun _ hK8=>rS (AG rfl)<|RK hK8<|aE<|Q1 hQ rfl rfl rfl ?_
  first|exact congrArg (Value.int .i64) (g_ (by simpa using h6)).symm|exact congrArg (Value.int .i64) (dh h6 h9).symm|exact congrArg (Value.int .i64) (gR h6 h9).symm
 replace h9:=XF h9
 refine WK hK6<|WS fun _ hK9=>rS (AG rfl)<|RK hK9<|aE<|Q1 hQ rfl rfl rfl ?_
 first|exact congrArg (Value.int .i64) (g_ (by simpa using h6)).symm|exact congrArg (Value.int .i64) (dh h6 h9).symm|exact congrArg (Value.int .i64) (gR h6 h9).symm
end
section
open Go.RowKit
set_option linter.unusedVariables false
set_option maxRecDepth 100000 in
set_option maxHeartbeats 400000 in
theorem zV (l:aV) (kA:Option Addr) (kC:Nat) (az:List RA) (cA:Option Addr) (cC:Nat) (bA:Option Addr) (bC:Nat) (hraw:jN l az):
 dY Tryz.prog 26 [(Value.agg (aG.cells (aG.mk (ay.mk (aA.mk kA l.au.length kC)) l.bJ (aA.mk cA l.ag.length cC) (aA.mk bA l.aa.length bC) l.aB l.aZ l.aO)).toArray)] [(rd kA l.au.length 9 (l.au.map ah.cells)),(rd cA l.ag.length 2 (List.zipWith ao.cells l.ag az)),(c_ (aP ao.eX l.ag az)),(rd bA l.aa.length 4 (l.aa.map aT.cells))] (Value.bool (decide (xP l))):=by
 refine bG F6 Tryz.func26 rfl rfl fun w0 Q hQ hN=>?_
 try dsimp only
 refine WS fun _ hK1=>gv rfl fun b2=>rS (AG rfl)<|RK hK1<|WS fun _ hK3=>rS (LW 0 rfl eP rfl rfl)<|rS (CL (yJ l kA kC az cA cC bA bC hraw) (ax 1 rfl rfl<|ax 2 rfl rfl<|ax 3 rfl rfl<|ax 4 rfl rfl<|ar) rfl)<|rS (NT rfl)<|rS (MV rfl) ?_
 refine bo (t:=6) rfl (fun h6=>?_) (fun h6=>?_)
 rotate_left 1
 ·replace h6:=XF h6
  refine rS (OX rfl)<|rS (OX rfl)<|rS (OX rfl)<|rS (PK rfl)<|rS (AG rfl)<|RK hK3<|aE<|Q1 hQ rfl rfl rfl ?_
  first|exact congrArg Value.bool (decide_eq_false fun q=>q.1 h6).symm|exact congrArg Value.bool (decide_eq_decide.2 ⟨fun q=>⟨h6,q⟩,fun q=>q.2⟩)
 replace h6:=XT h6
 refine rS (LW 0 rfl eP rfl rfl) ?_
 have hin:=hraw.small h6
 refine rS (CL (xK l kA kC az cA cC bA bC (by first|assumption|omega|(simp; done)|(simp; omega))) (ax 1 rfl rfl<|ax 2 rfl rfl<|ax 3 rfl rfl<|ax 4 rfl rfl<|ar) rfl)<|rS (BI rfl eC)<|rS (PK rfl)<|rS (AG rfl)<|RK hK3<|aE<|Q1 hQ rfl rfl rfl ?_
 first|exact congrArg Value.bool (decide_eq_false fun q=>q.1 h6).symm|exact congrArg Value.bool (decide_eq_decide.2 ⟨fun q=>⟨h6,q⟩,fun q=>q.2⟩)
set_option maxRecDepth 100000 in
set_option maxHeartbeats 400000 in
theorem Aj (l:aV) (kA:Option Addr) (kC:Nat) (az:List RA) (cA:Option Addr) (cC:Nat) (bA:Option Addr) (bC:Nat) (r:bj) (sgA:Option Addr) (sgC:Nat) (hin:dM l az) (hsl:r.ae.length≤1000000):
 dY Tryz.prog 42 [(Value.agg (aG.cells (aG.mk (ay.mk (aA.mk kA l.au.length kC)) l.bJ (aA.mk cA l.ag.length cC) (aA.mk bA l.aa.length bC) l.aB l.aZ l.aO)).toArray),(Value.agg (aN.cells (aN.mk r.Start r.dw (aA.mk sgA r.ae.length sgC))).toArray)] [(rd kA l.au.length 9 (l.au.map ah.cells)),(rd cA l.ag.length 2 (List.zipWith ao.cells l.ag az)),(c_ (aP ao.eX l.ag az)),(rd bA l.aa.length 4 (l.aa.map aT.cells)),(rd sgA r.ae.length 2 (r.ae.map av.cells))] (Value.bool (decide (c7 l r))):=by
 have htk:=hin.o0
 have hck:=hin.oZ
 have has:=hin.oG
 have hbm:=hin.oI
 refine bG EZ Tryz.func42 rfl rfl fun w0 Q hQ hN=>?_
 try dsimp only
 refine WS fun _ hK1=>gv rfl fun b2=>gv rfl fun b3=>rS (AG rfl)<|RK hK1<|aw fun _ hK4=>WS fun _ hK5=>rS (FA 0 rfl fH rfl)<|rS (L1 (Value.int .i64 r.Start) 0 rfl bk rfl rfl)<|rS (CL (fw r.Start 0 86400000) (ar) rfl) ?_
 refine rS (NT rfl)<|rS (MV rfl) ?_
 refine bo (t:=11) rfl (fun h11=>?_) (fun h11=>?_)
 ·replace h11:=XT h11
  refine rS (OX rfl)<|rS (OX rfl)<|rS (OX rfl)<|rS (OX rfl)<|rS (OX rfl)<|rS (OX rfl)<|rS (PK rfl)<|rS (MV rfl)<|rS (OX rfl)<|rS (OX rfl) ?_
  refine rS (OX rfl)<|rS (OX rfl)<|rS (PK rfl)<|RK hK5<|aW rfl<|WS fun _ hK6=>rS (AG rfl)<|RK hK6<|aE<|Q1 hQ rfl rfl rfl ?_
  first|exact congrArg Value.bool (decide_eq_false fun q=>by have q1:=q.time; have q2:=q.len; omega).symm|exact congrArg Value.bool (decide_eq_true (ib (by omega) (by omega) hl4_1 (by omega))).symm|exact congrArg Value.bool (decide_eq_false fun q=>by have q1:=q.sig i x hx; unfold dK eb at q1; first|omega|(rw [f_ (by omega) hy] at q1; omega)).symm
 replace h11:=XF h11
 refine rS (FA 1 rfl lj rfl)<|rS (L1 (Value.int .i64 r.dw) 0 rfl bk rfl rfl)<|rS (FA 0 rfl fH rfl)<|rS (L1 (Value.int .i64 r.Start) 0 rfl bk rfl rfl)<|rS (CL (fw r.dw r.Start 86400000) (ar) rfl)<|rS (NT rfl)<|rS (PK rfl)<|rS (MV rfl) ?_
 refine bo (t:=19) rfl (fun h19=>?_) (fun h19=>?_)
 ·replace h19:=XT h19
  refine rS (OX rfl)<|rS (OX rfl)<|rS (OX rfl)<|rS (OX rfl)<|rS (PK rfl)<|RK hK5<|aW rfl<|WS fun _ hK7=>rS (AG rfl)<|RK hK7 ?_
  refine aE<|Q1 hQ rfl rfl rfl ?_
  first|exact congrArg Value.bool (decide_eq_false fun q=>by have q1:=q.time; have q2:=q.len; omega).symm|exact congrArg Value.bool (decide_eq_true (ib (by omega) (by omega) hl4_1 (by omega))).symm|exact congrArg Value.bool (decide_eq_false fun q=>by have q1:=q.sig i x hx; unfold dK eb at q1; first|omega|(rw [f_ (by omega) hy] at q1; omega)).symm
 replace h19:=XF h19
 refine rS (FA 2 rfl hH rfl)<|rS (L1 (Value.slice sgA r.ae.length sgC) 0 rfl nK rfl rfl)<|rS (LN rfl sE)<|rS (BI rfl eL)<|rS (PK rfl)<|RK hK5 ?_
 refine bp rfl (fun h24=>?_) (fun h24=>?_)
 ·replace h24:=DT h24
  refine WS fun _ hK8=>rS (AG rfl)<|RK hK8<|aE<|Q1 hQ rfl rfl rfl ?_
  first|exact congrArg Value.bool (decide_eq_false fun q=>by have q1:=q.time; have q2:=q.len; omega).symm|exact congrArg Value.bool (decide_eq_true (ib (by omega) (by omega) hl4_1 (by omega))).symm|exact congrArg Value.bool (decide_eq_false fun q=>by have q1:=q.sig i x hx; unfold dK eb at q1; first|omega|(rw [f_ (by omega) hy] at q1; omega)).symm
 replace h24:=DF h24
 refine WK hK4<|aw fun _ hK9=>WS fun _ hK10=>rS (AG rfl)<|RK hK10<|aH ?_
 have hinit:(0≤r.ae.length)∧(kG l r.ae 0):=by exact ⟨Nat.zero_le _,pk⟩
 refine cP (ι:={z:Nat // (z≤r.ae.length)∧(kG l r.ae z)}) (fun z=>[(2,(Value.pointer (some ⟨b2,0,none⟩))),(3,(Value.pointer (some ⟨b3,0,none⟩))),(5,(Value.int .i64 ((z.1:Nat):Int)))]) (fun z=>[(aU b3 31 (aN.cells (aN.mk r.Start r.dw (aA.mk sgA r.ae.length sgC)))),(aU b2 28 (aG.cells (aG.mk (ay.mk (aA.mk kA l.au.length kC)) l.bJ (aA.mk cA l.ag.length cC) (aA.mk bA l.aa.length bC) l.aB l.aZ l.aO))),(rd kA l.au.length 9 (l.au.map ah.cells)).ro,(rd cA l.ag.length 2 (List.zipWith ao.cells l.ag az)).ro,(c_ (aP ao.eX l.ag az)).ro,(rd bA l.aa.length 4 (l.aa.map aT.cells)).ro,(rd sgA r.ae.length 2 (r.ae.map av.cells)).ro]) (fun z=>r.ae.length-z.1) ⟨0,hinit⟩ (an.cons rfl<|an.cons rfl<|an.cons rfl<|an.nil _) (fun w hs=>St.bB [0,1,2,3,4,5,6] rfl rfl hs) ?_
 clear hinit
 rintro ⟨i,⟨hl4_0,hl4_1⟩⟩ J11 hJ11
 try dsimp only
 refine aw fun _ hK12=>WS fun _ hK13=>rS (MV rfl)<|rS (FA 2 rfl hH rfl)<|rS (L1 (Value.slice sgA r.ae.length sgC) 0 rfl nK rfl rfl)<|rS (LN rfl sE)<|rS (BI rfl cq)<|RK hK13 ?_
 refine bp rfl (fun h14=>?_) (fun h14=>?_)
 rotate_left 1
 ·replace h14:=DF h14
  refine bM<|ai<|ai<|aI<|KK hK9<|WS fun _ hK28=>rS (AG rfl)<|RK hK28<|aE<|Q1 hQ rfl rfl rfl ?_
  first|exact congrArg Value.bool (decide_eq_false fun q=>by have q1:=q.time; have q2:=q.len; omega).symm|exact congrArg Value.bool (decide_eq_true (ib (by omega) (by omega) hl4_1 (by omega))).symm|exact congrArg Value.bool (decide_eq_false fun q=>by have q1:=q.sig i x hx; unfold dK eb at q1; first|omega|(rw [f_ (by omega) hy] at q1; omega)).symm
 replace h14:=DT h14
 refine WK hK12<|aw fun _ hK15=>aH<|WS fun _ hK16=>rS (FA 2 rfl hH rfl)<|rS (L1 (Value.slice sgA r.ae.length sgC) 0 rfl nK rfl rfl)<|rS (MV rfl) ?_
 obtain ⟨x,hx⟩: ∃ y_,r.ae[i]? =some y_:=⟨r.ae[i]'(by omega),List.getElem?_eq_getElem _⟩
 have hxm:(r.ae.map av.cells)[i]? =some (av.cells x):=by rw [List.getElem?_map,hx]; rfl
 refine rS (IA i rfl (aQ 6 rfl) sH (by decide) (by omega) (by omega))<|rS (kE i 0 (av.cells x) rfl iI (aQ 6 rfl) hxm rfl (by decide) rfl rfl)<|AL rfl qe fun b17=>e7 rfl mJ rfl<|RK hK16<|aw fun _ hK18=>WS fun _ hK19=>rS (FA 0 rfl ei rfl)<|rS (L1 (Value.int .i64 x.cy) 0 rfl bk rfl rfl)<|rS (FA 3 rfl dQ rfl) ?_
 refine rS (L1 (Value.slice bA l.aa.length bC) 2 rfl hP rfl rfl)<|rS (LN rfl jz)<|rS (BI rfl (cr ⟨by omega,by omega⟩))<|rS (CL (fw x.cy 0 (((l.aa.length:Nat):Int)-1)) (ar) rfl)<|rS (NT rfl)<|rS (MV rfl) ?_
 refine bo (t:=45) rfl (fun h45=>?_) (fun h45=>?_)
 ·replace h45:=XT h45
  refine rS (OX rfl)<|rS (OX rfl)<|rS (OX rfl)<|rS (OX rfl)<|rS (PK rfl)<|RK hK19<|aW rfl<|WS fun _ hK20=>rS (AG rfl)<|RK hK20 ?_
  refine aE<|Q1 hQ rfl rfl rfl ?_
  first|exact congrArg Value.bool (decide_eq_false fun q=>by have q1:=q.time; have q2:=q.len; omega).symm|exact congrArg Value.bool (decide_eq_true (ib (by omega) (by omega) hl4_1 (by omega))).symm|exact congrArg Value.bool (decide_eq_false fun q=>by have q1:=q.sig i x hx; unfold dK eb at q1; first|omega|(rw [f_ (by omega) hy] at q1; omega)).symm
 replace h45:=XF h45
 refine rS (FA 1 rfl hZ rfl)<|rS (L1 (Value.int .i64 x.Read) 0 rfl bk rfl rfl)<|rS (CL (fw x.Read 0 86400000) (ar) rfl)<|rS (NT rfl)<|rS (PK rfl)<|RK hK19 ?_
 refine bp rfl (fun h50=>?_) (fun h50=>?_)
 ·replace h50:=XT h50
  refine WS fun _ hK21=>rS (AG rfl)<|RK hK21<|aE<|Q1 hQ rfl rfl rfl ?_
  first|exact congrArg Value.bool (decide_eq_false fun q=>by have q1:=q.time; have q2:=q.len; omega).symm|exact congrArg Value.bool (decide_eq_true (ib (by omega) (by omega) hl4_1 (by omega))).symm|exact congrArg Value.bool (decide_eq_false fun q=>by have q1:=q.sig i x hx; unfold dK eb at q1; first|omega|(rw [f_ (by omega) hy] at q1; omega)).symm
 replace h50:=XF h50
 refine WK hK18<|aw fun _ hK22=>dj ct 38 (by kernel_rfl)<|dS (MV rfl)<|dS (BI rfl eL)<|dS (MV rfl) ?_
 refine db (t:=53) rfl (fun h53=>?_) (fun h53=>?_)
 rotate_left 1
 ·replace h53:=DF h53
  refine dS (OX rfl)<|dS (OX rfl)<|dS (OX rfl)<|dS (OX rfl)<|dS (OX rfl)<|dS (OX rfl)<|dS (OX rfl)<|dS (OX rfl)<|dS (OX rfl)<|dS (OX rfl) ?_
  refine dS (OX rfl)<|dS (OX rfl)<|dS (OX rfl)<|dS (OX rfl)<|dS (OX rfl)<|dS (OX rfl)<|dS (OX rfl)<|dS (OX rfl)<|dS (OX rfl)<|dS (OX rfl) ?_
  refine dS (OX rfl)<|dS (OX rfl)<|dS (OX rfl)<|dS (OX rfl)<|dS (OX rfl)<|dS (OX rfl)<|dS (OX rfl)<|dS (OX rfl)<|dS (OX rfl)<|dS (OX rfl) ?_
  refine dS (OX rfl)<|dS (OX rfl)<|dS (OX rfl)<|dS (OX rfl)<|dS (PK rfl)<|cE<|RK hK22<|bH rfl<|cH<|aL ?_
  refine KK hK15<|aC<|rS (MV rfl)<|rS (BI rfl (a9 ⟨by omega,by omega⟩))<|rS (AG rfl)<|aX ?_
  have hb27:(Value.int .i64 (((i+1):Nat):Int))=(Value.int .i64 (((i:Nat):Int)+1)):=by exact congrArg (Value.int .i64) (by omega)
  refine aY (hJ11 ⟨(i+1),⟨by omega,fT hl4_1 hx (by unfold dK eb; first|(rw [pn (by omega)]; simp only; omega)|(rw [f_ (by omega) hy]; omega))⟩⟩ _ _ _ rfl (by first|omega|(simp; omega)) (an.cons rfl<|an.cons rfl<|a_ rfl hb27<|an.nil _) (fun w hs=>St.bB [1,2,3,4,5,6,7] rfl rfl hs))
 replace h53:=DT h53
 refine dS (FA 0 rfl ei rfl)<|dS (L1 (Value.int .i64 x.cy) 0 rfl bk rfl rfl)<|dS (FA 2 rfl hH rfl)<|dS (L1 (Value.slice sgA r.ae.length sgC) 1 rfl nK rfl rfl)<|dS (MV rfl)<|dS (BI rfl (cr ⟨by omega,by omega⟩)) ?_
 obtain ⟨y,hy⟩: ∃ y_,r.ae[(i-1)]? =some y_:=⟨r.ae[(i-1)]'(by omega),List.getElem?_eq_getElem _⟩
 have hym:(r.ae.map av.cells)[(i-1)]? =some (av.cells y):=by rw [List.getElem?_map,hy]; rfl
 refine dS (IA (i-1) rfl (aQ 7 rfl) sH (by decide) (by omega) (by omega))<|dS (qP ((i-1)*2) rfl (aQ 7 rfl) (Nat.mul_pos (by omega) (by decide)) ei rfl)<|dS (ir (i-1) 0 (Value.int .i64 y.cy) rfl bk (aQ 7 rfl) hym rfl (by decide) rfl)<|dS (BI rfl cq)<|dS (MV rfl) ?_
 refine db (t:=64) rfl (fun h64=>?_) (fun h64=>?_)
 ·replace h64:=DT h64
  refine dS (OX rfl)<|dS (OX rfl)<|dS (OX rfl)<|dS (OX rfl)<|dS (OX rfl)<|dS (OX rfl)<|dS (OX rfl)<|dS (OX rfl)<|dS (OX rfl)<|dS (OX rfl) ?_
  refine dS (OX rfl)<|dS (OX rfl)<|dS (OX rfl)<|dS (OX rfl)<|dS (OX rfl)<|dS (OX rfl)<|dS (OX rfl)<|dS (OX rfl)<|dS (OX rfl)<|dS (OX rfl) ?_
  refine dS (OX rfl)<|dS (OX rfl)<|dS (PK rfl)<|dS (PK rfl)<|cE<|RK hK22<|aW rfl<|WS fun _ hK23=>rS (AG rfl)<|RK hK23 ?_
  refine aE<|Q1 hQ rfl rfl rfl ?_
  first|exact congrArg Value.bool (decide_eq_false fun q=>by have q1:=q.time; have q2:=q.len; omega).symm|exact congrArg Value.bool (decide_eq_true (ib (by omega) (by omega) hl4_1 (by omega))).symm|exact congrArg Value.bool (decide_eq_false fun q=>by have q1:=q.sig i x hx; unfold dK eb at q1; first|omega|(rw [f_ (by omega) hy] at q1; omega)).symm
 replace h64:=DF h64
 refine dS (FA 0 rfl ei rfl)<|dS (L1 (Value.int .i64 x.cy) 0 rfl bk rfl rfl)<|dS (FA 2 rfl hH rfl)<|dS (L1 (Value.slice sgA r.ae.length sgC) 1 rfl nK rfl rfl)<|dS (MV rfl)<|dS (BI rfl (cr ⟨by omega,by omega⟩))<|dS (IA (i-1) rfl (aQ 7 rfl) sH (by decide) (by omega) (by omega))<|dS (qP ((i-1)*2) rfl (aQ 7 rfl) (Nat.mul_pos (by omega) (by decide)) ei rfl)<|dS (ir (i-1) 0 (Value.int .i64 y.cy) rfl bk (aQ 7 rfl) hym rfl (by decide) rfl)<|dS (BI rfl eC) ?_
 refine dS (MV rfl) ?_
 refine db (t:=75) rfl (fun h75=>?_) (fun h75=>?_)
 rotate_left 1
 ·replace h75:=DF h75
  refine dS (OX rfl)<|dS (OX rfl)<|dS (OX rfl)<|dS (OX rfl)<|dS (OX rfl)<|dS (OX rfl)<|dS (OX rfl)<|dS (OX rfl)<|dS (OX rfl)<|dS (OX rfl) ?_
  refine dS (PK rfl)<|dS (PK rfl)<|dS (PK rfl)<|cE<|RK hK22<|bH rfl<|cH<|aL<|KK hK15<|aC ?_
  refine rS (MV rfl)<|rS (BI rfl (a9 ⟨by omega,by omega⟩))<|rS (AG rfl)<|aX ?_
  have hb26:(Value.int .i64 (((i+1):Nat):Int))=(Value.int .i64 (((i:Nat):Int)+1)):=by exact congrArg (Value.int .i64) (by omega)
  refine aY (hJ11 ⟨(i+1),⟨by omega,fT hl4_1 hx (by unfold dK eb; first|(rw [pn (by omega)]; simp only; omega)|(rw [f_ (by omega) hy]; omega))⟩⟩ _ _ _ rfl (by first|omega|(simp; omega)) (an.cons rfl<|an.cons rfl<|a_ rfl hb26<|an.nil _) (fun w hs=>St.bB [1,2,3,4,5,6,7] rfl rfl hs))
 replace h75:=DT h75
 refine dS (FA 1 rfl hZ rfl)<|dS (L1 (Value.int .i64 x.Read) 0 rfl bk rfl rfl)<|dS (FA 2 rfl hH rfl)<|dS (L1 (Value.slice sgA r.ae.length sgC) 1 rfl nK rfl rfl)<|dS (MV rfl)<|dS (BI rfl (cr ⟨by omega,by omega⟩))<|dS (IA (i-1) rfl (aQ 7 rfl) sH (by decide) (by omega) (by omega))<|dS (qP (((i-1)*2)+1) rfl (aQ 7 rfl) (Nat.mul_pos (by omega) (by decide)) hZ rfl)<|dS (ir (i-1) 1 (Value.int .i64 y.Read) rfl bk (aQ 7 rfl) hym rfl (by decide) rfl)<|dS (BI rfl eT) ?_
 refine dS (PK rfl)<|dS (PK rfl)<|dS (PK rfl)<|cE<|RK hK22 ?_
 refine bp rfl (fun h88=>?_) (fun h88=>?_)
 ·replace h88:=DT h88
  refine WS fun _ hK24=>rS (AG rfl)<|RK hK24<|aE<|Q1 hQ rfl rfl rfl ?_
  first|exact congrArg Value.bool (decide_eq_false fun q=>by have q1:=q.time; have q2:=q.len; omega).symm|exact congrArg Value.bool (decide_eq_true (ib (by omega) (by omega) hl4_1 (by omega))).symm|exact congrArg Value.bool (decide_eq_false fun q=>by have q1:=q.sig i x hx; unfold dK eb at q1; first|omega|(rw [f_ (by omega) hy] at q1; omega)).symm
 replace h88:=DF h88
 refine cH<|aL<|KK hK15<|aC<|rS (MV rfl)<|rS (BI rfl (a9 ⟨by omega,by omega⟩))<|rS (AG rfl)<|aX ?_
 have hb25:(Value.int .i64 (((i+1):Nat):Int))=(Value.int .i64 (((i:Nat):Int)+1)):=by exact congrArg (Value.int .i64) (by omega)
 refine aY (hJ11 ⟨(i+1),⟨by omega,fT hl4_1 hx (by unfold dK eb; first|(rw [pn (by omega)]; simp only; omega)|(rw [f_ (by omega) hy]; omega))⟩⟩ _ _ _ rfl (by first|omega|(simp; omega)) (an.cons rfl<|an.cons rfl<|a_ rfl hb25<|an.nil _) (fun w hs=>St.bB [1,2,3,4,5,6,7] rfl rfl hs))
set_option maxRecDepth 100000 in
set_option maxHeartbeats 400000 in
theorem z9 (l:aV) (kA:Option Addr) (kC:Nat) (az:List RA) (cA:Option Addr) (cC:Nat) (bA:Option Addr) (bC:Nat) (r:bj) (sgA:Option Addr) (sgC:Nat) (hin:dM l az) (hrr:r.ae.length≤9223372036854775807):
 dY Tryz.prog 27 [(Value.agg (aG.cells (aG.mk (ay.mk (aA.mk kA l.au.length kC)) l.bJ (aA.mk cA l.ag.length cC) (aA.mk bA l.aa.length bC) l.aB l.aZ l.aO)).toArray),(Value.agg (aN.cells (aN.mk r.Start r.dw (aA.mk sgA r.ae.length sgC))).toArray)] [(rd kA l.au.length 9 (l.au.map ah.cells)),(rd cA l.ag.length 2 (List.zipWith ao.cells l.ag az)),(c_ (aP ao.eX l.ag az)),(rd bA l.aa.length 4 (l.aa.map aT.cells)),(rd sgA r.ae.length 2 (r.ae.map av.cells))] (Value.bool (decide (c7 l r))):=by
 refine bG FK Tryz.func27 rfl rfl fun w0 Q hQ hN=>?_
 try dsimp only
 refine WS fun _ hK1=>gv rfl fun b2=>gv rfl fun b3=>rS (AG rfl)<|RK hK1<|WS fun _ hK4=>rS (FA 2 rfl hH rfl)<|rS (L1 (Value.slice sgA r.ae.length sgC) 0 rfl nK rfl rfl)<|rS (LN rfl sE)<|rS (BI rfl eT) ?_
 refine rS (MV rfl) ?_
 refine bo (t:=9) rfl (fun h9=>?_) (fun h9=>?_)
 rotate_left 1
 ·replace h9:=DF h9
  refine rS (OX rfl)<|rS (OX rfl)<|rS (OX rfl)<|rS (PK rfl)<|rS (AG rfl)<|RK hK4<|aE<|Q1 hQ rfl rfl rfl ?_
  first|exact congrArg Value.bool (decide_eq_false fun q=>h9 (by have:=q.len; omega)).symm|rfl
 replace h9:=DT h9
 refine rS (LW 1 rfl eP rfl rfl)<|rS (LW 0 rfl gE rfl rfl)<|rS (CL (Aj l kA kC az cA cC bA bC r sgA sgC hin (by first|assumption|omega|(simp; done)|(simp; omega))) (ax 2 rfl rfl<|ax 3 rfl rfl<|ax 4 rfl rfl<|ax 5 rfl rfl<|ax 6 rfl rfl<|ar) rfl)<|rS (PK rfl)<|rS (AG rfl)<|RK hK4<|aE<|Q1 hQ rfl rfl rfl ?_
 first|exact congrArg Value.bool (decide_eq_false fun q=>h9 (by have:=q.len; omega)).symm|rfl
set_option maxRecDepth 100000 in
set_option maxHeartbeats 400000 in
theorem nX (la:List Int) (laA:Option Addr) (laC:Nat) (n:Int) (hlen:la.length≤1000000):
 dY Tryz.prog 30 [(Value.slice laA la.length laC),(Value.int .i64 n)] [(rd laA la.length 1 (la.map iC))] (Value.bool (decide (n∈la))):=by
 refine bG E8 Tryz.func30 rfl rfl fun w0 Q hQ hN=>?_
 try dsimp only
 refine WS fun _ hK1=>rS (AG rfl)<|RK hK1<|aw fun _ hK2=>WS fun _ hK3=>rS (MV rfl)<|rS (LN rfl jD)<|rS (MV rfl)<|RK hK3<|aH ?_
 have hinit:(0≤la.length)∧(∀ (j:Nat) y,j<0→la[j]? =some y→y≠n):=by exact ⟨Nat.zero_le _,fun j y hj=>absurd hj (Nat.not_lt_zero _)⟩
 refine cP (ι:={z:Nat // (z≤la.length)∧(∀ (j:Nat) y,j<z→la[j]? =some y→y≠n)}) (fun z=>[(1,(Value.int .i64 n)),(7,(Value.slice laA la.length laC)),(8,(Value.int .i64 ((la.length:Nat):Int))),(9,(Value.int .i64 ((z.1:Nat):Int)))]) (fun z=>[(rd laA la.length 1 (la.map iC)).ro]) (fun z=>la.length-z.1) ⟨0,hinit⟩ (an.cons rfl<|an.cons rfl<|an.cons rfl<|an.cons rfl<|an.nil _) (fun w hs=>St.bB [0] rfl rfl hs) ?_
 clear hinit
 rintro ⟨i,⟨hl2_0,hl2_1⟩⟩ J4 hJ4
 try dsimp only
 refine WS fun _ hK5=>rS (BI rfl cq)<|RK hK5<|aw fun _ hK6=>?_
 refine bp rfl (fun h7=>?_) (fun h7=>?_)
 rotate_left 1
 ·replace h7:=DF h7
  refine bM<|ai<|ai<|aI<|KK hK2<|WS fun _ hK13=>rS (AG rfl)<|RK hK13<|aE<|Q1 hQ rfl rfl rfl ?_
  first|exact congrArg Value.bool (decide_eq_true (by rw [← h15]; exact List.mem_of_getElem? hx)).symm|exact congrArg Value.bool (decide_eq_false fun q=>dq (P:=fun y=>y≠n) (by omega) hl2_1 n q rfl).symm
 replace h7:=DT h7
 refine WK hK6<|aw fun _ hK8=>aH<|WS fun _ hK9=>?_
 obtain ⟨x,hx⟩: ∃ y_,la[i]? =some y_:=⟨la[i]'(by omega),List.getElem?_eq_getElem _⟩
 have hxm:(la.map iC)[i]? =some (iC x):=by rw [List.getElem?_map,hx]; rfl
 refine rS (IA i rfl (aQ 0 rfl) di (by decide) (by omega) (by omega))<|rS (ir i 0 (Value.int .i64 x) rfl bk (aQ 0 rfl) hxm rfl (by decide) rfl)<|rS (AG rfl)<|RK hK9<|WS fun _ hK10=>rS (MV rfl)<|rS (MV rfl)<|rS (BI rfl eC)<|RK hK10 ?_
 refine bp rfl (fun h15=>?_) (fun h15=>?_)
 ·replace h15:=DT h15
  refine WS fun _ hK11=>rS (AG rfl)<|RK hK11<|aE<|Q1 hQ rfl rfl rfl ?_
  first|exact congrArg Value.bool (decide_eq_true (by rw [← h15]; exact List.mem_of_getElem? hx)).symm|exact congrArg Value.bool (decide_eq_false fun q=>dq (P:=fun y=>y≠n) (by omega) hl2_1 n q rfl).symm
 replace h15:=DF h15
 refine cH<|aL<|KK hK8<|aC<|rS (BI rfl (a9 ⟨by omega,by omega⟩))<|rS (MV rfl)<|aX ?_
 have hb12:(Value.int .i64 (((i+1):Nat):Int))=(Value.int .i64 (((i:Nat):Int)+1)):=by exact congrArg (Value.int .i64) (by omega)
 refine aY (hJ4 ⟨(i+1),⟨by omega,iB hl2_1 hx h15⟩⟩ _ _ _ rfl (by first|omega|(simp; omega)) (an.cons rfl<|an.cons rfl<|an.cons rfl<|a_ rfl hb12<|an.nil _) (fun w hs=>St.bB [0] rfl rfl hs))
end
section
open Go.RowKit
set_option linter.unusedVariables false
set_option maxRecDepth 100000 in
set_option maxHeartbeats 400000 in
theorem ia (bl:List Int) (blA:Option Addr) (blC:Nat) (i:Int) (hbl: ∀ z∈bl,0≤z∧z≤4294967295) (hbn:bl.length≤9223372036854775807) (hi:0≤i∧i≤1000):
 dY Tryz.prog 53 [(Value.slice blA bl.length blC),(Value.int .i64 i)] [(rd blA bl.length 1 (bl.map dP))] (Value.int .i64 (bx bl i)):=by
 refine bG Gp Tryz.func53 rfl rfl fun w0 Q hQ hN=>?_
 try dsimp only
 refine WS fun _ hK1=>rS (AG rfl)<|RK hK1<|aw fun _ hK2=>WS fun _ hK3=>rS (MV rfl)<|rS (LN rfl Aa)<|rS (BI rfl eC)<|RK hK3 ?_
 refine bp rfl (fun hg7=>?_) (fun hg7=>?_)
 ·replace hg7:=DT hg7
  refine WS fun _ hK4=>rS (AG rfl)<|RK hK4<|aE<|Q1 hQ rfl rfl rfl ?_
  first|exact congrArg (Value.int .i64) (by unfold bx; rw [if_pos (by omega)])|exact congrArg (Value.int .i64) (qE hg7 hz).symm
 replace hg7:=DF hg7
 refine WK hK2<|WS fun _ hK5=>rS (MV rfl)<|rS (MV rfl)<|rS (MV rfl)<|rS (LN rfl Aa)<|rS (BI rfl (l4 (by omega) (by omega))) ?_
 have m1:=Int.emod_nonneg i hg7
 have m2:=Int.emod_lt_of_pos i (show 0<(bl.length:Int) by omega)
 obtain ⟨z,hz⟩: ∃ y_,bl[((i % ((bl.length:Nat):Int))).toNat]? =some y_:=⟨bl[((i % ((bl.length:Nat):Int))).toNat]'(by omega),List.getElem?_eq_getElem _⟩
 have hzm:(bl.map dP)[((i % ((bl.length:Nat):Int))).toNat]? =some (dP z):=by rw [List.getElem?_map,hz]; rfl
 refine rS (IA (((i % ((bl.length:Nat):Int))).toNat) rfl (aQ 0 rfl) E_ (by decide) (by omega) (by omega))<|rS (ir (((i % ((bl.length:Nat):Int))).toNat) 0 (Value.int .u32 z) rfl FR (aQ 0 rfl) hzm rfl (by decide) rfl) ?_
 have hzb:=hbl z (List.mem_of_getElem? hz)
 refine rS (SX (nW (m:=z) rfl rfl D0 rl (sP (by first|assumption|omega))) rfl rfl)<|rS (AG rfl)<|RK hK5<|aE<|Q1 hQ rfl rfl rfl ?_
 first|exact congrArg (Value.int .i64) (by unfold bx; rw [if_pos (by omega)])|exact congrArg (Value.int .i64) (qE hg7 hz).symm
set_option maxRecDepth 100000 in
set_option maxHeartbeats 400000 in
theorem BH (bl:List Int) (blA:Option Addr) (blC:Nat) (i:Int) (hbl: ∀ z∈bl,0≤z∧z≤4294967295) (hbn:bl.length≤9223372036854775807) (hi:0≤i∧i≤1000):
 dY Tryz.prog 55 [(Value.slice blA bl.length blC),(Value.int .i64 i)] [(rd blA bl.length 1 (bl.map dP))] (Value.int .i64 (nt bl i)):=by
 refine bG GN Tryz.func55 rfl rfl fun w0 Q hQ hN=>?_
 try dsimp only
 refine WS fun _ hK1=>rS (AG rfl)<|RK hK1<|WS fun _ hK2=>dV (xs:=[.const (Value.int .i64 1),.const (Value.int .i64 50),.const (Value.int .i64 3000)]) (cs:=[(Value.int .i64 1),(Value.int .i64 50),(Value.int .i64 3000)]) rfl di kb rfl rfl rfl rfl (by simp [Value.cells]) rfl rfl fun b3=>rS (MV rfl)<|rS (MV rfl)<|rS (CL (ia bl blA blC i hbl hbn hi) (ax 1 rfl rfl<|ar) rfl) ?_
 have hcb:=gI hbl i
 refine rS (BI rfl (l4 (by omega) (by omega))) ?_
 try dsimp only
 rcases (show ((bx bl i) % 3)=0∨((bx bl i) % 3)=1∨((bx bl i) % 3)=2 from by omega) with hc9|hc9|hc9
 ·rw [hc9]
  have m1:=Int.emod_nonneg (bx bl i) (show (3:Int)≠0 by decide)
  have m2:=Int.emod_lt_of_pos (bx bl i) (show (0:Int)<3 by decide)
  refine rS (ES 0 0 rfl di rfl (by decide) rfl)<|rS (L1 (Value.int .i64 1) 0 rfl bk rfl rfl)<|rS (AG rfl)<|RK hK2<|aE<|Q1 hQ rfl rfl rfl ?_
  exact congrArg (Value.int .i64) (by unfold nt; rw [hc9]; rfl)
 ·rw [hc9]
  have m1:=Int.emod_nonneg (bx bl i) (show (3:Int)≠0 by decide)
  have m2:=Int.emod_lt_of_pos (bx bl i) (show (0:Int)<3 by decide)
  refine rS (ES 1 1 rfl di rfl (by decide) rfl)<|rS (L1 (Value.int .i64 50) 0 rfl bk rfl rfl)<|rS (AG rfl)<|RK hK2<|aE<|Q1 hQ rfl rfl rfl ?_
  exact congrArg (Value.int .i64) (by unfold nt; rw [hc9]; rfl)
 rw [hc9]
 have m1:=Int.emod_nonneg (bx bl i) (show (3:Int)≠0 by decide)
 have m2:=Int.emod_lt_of_pos (bx bl i) (show (0:Int)<3 by decide)
 refine rS (ES 2 2 rfl di rfl (by decide) rfl)<|rS (L1 (Value.int .i64 3000) 0 rfl bk rfl rfl)<|rS (AG rfl)<|RK hK2<|aE<|Q1 hQ rfl rfl rfl ?_
 exact congrArg (Value.int .i64) (by unfold nt; rw [hc9]; rfl)
end
section
open Go.RowKit
set_option linter.unusedVariables false
set_option maxRecDepth 100000 in
set_option maxHeartbeats 4000000 in
theorem Af (l:aV) (kA:Option Addr) (kC:Nat) (az:List RA) (cA:Option Addr) (cC:Nat) (bA:Option Addr) (bC:Nat) (bl:List Int) (blA:Option Addr) (blC:Nat) (hin:dM l az) (hbl: ∀ z∈bl,0≤z∧z≤4294967295) (hbn:bl.length≤9223372036854775807) (hle:cw l=0):
 rM Tryz.prog 29 [(Value.agg (aG.cells (aG.mk (ay.mk (aA.mk kA l.au.length kC)) l.bJ (aA.mk cA l.ag.length cC) (aA.mk bA l.aa.length bC) l.aB l.aZ l.aO)).toArray),(Value.slice blA bl.length blC)] [(rd kA l.au.length 9 (l.au.map ah.cells)),(rd cA l.ag.length 2 (List.zipWith ao.cells l.ag az)),(c_ (aP ao.eX l.ag az)),(rd bA l.aa.length 4 (l.aa.map aT.cells)),(rd blA bl.length 1 (bl.map dP))] (fun (x:Bool×Int×Int×Int×(List av)×(Option Addr)×Nat×(List Int)×(Option Addr)×Nat×(List Int)×(Option Addr)×Nat)=>bif x.1 then (Value.tuple [(Value.agg (aN.cells (aN.mk x.2.2.1 x.2.2.2.1 (aA.mk x.2.2.2.2.2.1 x.2.2.2.2.1.length x.2.2.2.2.2.2.1))).toArray),(Value.slice x.2.2.2.2.2.2.2.2.1 x.2.2.2.2.2.2.2.1.length x.2.2.2.2.2.2.2.2.2.1),(Value.slice x.2.2.2.2.2.2.2.2.2.2.2.1 x.2.2.2.2.2.2.2.2.2.2.1.length x.2.2.2.2.2.2.2.2.2.2.2.2),(Value.bool (decide (c7 l (bj.mk x.2.2.1 x.2.2.2.1 x.2.2.2.2.1))))].toArray) else (Value.tuple [(Value.agg (aN.cells (aN.mk x.2.2.1 x.2.2.2.1 (aA.mk none 0 0))).toArray),(Value.slice none 0 0),(Value.slice none 0 0),(Value.bool false)].toArray)) (fun (x:Bool×Int×Int×Int×(List av)×(Option Addr)×Nat×(List Int)×(Option Addr)×Nat×(List Int)×(Option Addr)×Nat)=>(x.1=true→(c7 l (bj.mk x.2.2.1 x.2.2.2.1 x.2.2.2.2.1)→eh l (bj.mk x.2.2.1 x.2.2.2.1 x.2.2.2.2.1) x.2.2.2.2.2.2.2.1 x.2.2.2.2.2.2.2.2.2.2.1))∧(x.1=false→(x.2.1=0∧True))) (fun (x:Bool×Int×Int×Int×(List av)×(Option Addr)×Nat×(List Int)×(Option Addr)×Nat×(List Int)×(Option Addr)×Nat)=>bif x.1 then [(own x.2.2.2.2.2.1 x.2.2.2.2.2.2.1 67 2 (x.2.2.2.2.1.map av.cells)),(own x.2.2.2.2.2.2.2.2.1 x.2.2.2.2.2.2.2.2.2.1 3 1 (x.2.2.2.2.2.2.2.1.map iC)),(own x.2.2.2.2.2.2.2.2.2.2.2.1 x.2.2.2.2.2.2.2.2.2.2.2.2 3 1 (x.2.2.2.2.2.2.2.2.2.2.1.map iC))] else []):=by
 have htk:=hin.o0
 have hck:=hin.oZ
 have has:=hin.oG
 have hbm:=hin.oI
 obtain ⟨htr,hok⟩:=dD hle
 have hhd:=hok.head
 unfold cU at hhd
 refine gX Gy Tryz.func29 rfl rfl fun w0 Q hQ hN=>?_
 try dsimp only
 refine WS fun _ hK1=>gv rfl fun b2=>AL rfl Ai fun b3=>rS (AG rfl)<|rS (AG rfl)<|rS (AG rfl)<|RK hK1<|WS fun _ hK4=>rS (MV rfl)<|rS (CL (ia bl blA blC 0 hbl hbn (by first|assumption|omega|(simp; done)|(simp; omega))) (ax 6 rfl rfl<|ar) rfl) ?_
 have hc0:=gI hbl 0
 refine rS (BI rfl (l4 (by omega) (by omega))) ?_
 have hr0n:=Int.emod_nonneg (bx bl 0) (show (100000:Int)≠0 by omega)
 have hr0l:=Int.emod_lt_of_pos (bx bl 0) (show 0<(100000:Int) by omega)
 refine rS (BI rfl (a9 ⟨by omega,by omega⟩))<|rS (AG rfl)<|RK hK4<|WS fun _ hK5=>?_
 obtain ⟨st,hst⟩: ∃ z:Int,(1000+((bx bl 0) % 100000))=z:=⟨_,rfl⟩
 rw [hst]
 have hstb:1000≤st∧st≤101000:=by omega
 refine rS (MV rfl)<|rS (MV rfl)<|rS (FA 0 rfl fH rfl)<|G1 (aN.cells (aN.mk st 0 (aA.mk none 0 0))) rfl uQ rfl rfl<|rS (FA 1 rfl lj rfl)<|G1 (aN.cells (aN.mk st st (aA.mk none 0 0))) rfl uQ rfl rfl<|RK hK5<|aw fun _ hK6=>dj ct 10 (by kernel_rfl)<|dS (FA 6 rfl sk rfl) ?_
 refine dS (L1 (Value.int .i64 l.aO) 1 rfl bk rfl rfl)<|dS (MV rfl)<|dS (CL (ia bl blA blC 1 hbl hbn (by first|assumption|omega|(simp; done)|(simp; omega))) (ax 6 rfl rfl<|ar) rfl)<|dS (FA 5 rfl sx rfl)<|dS (L1 (Value.int .i64 l.aZ) 1 rfl bk rfl rfl) ?_
 have hc1:=gI hbl 1
 refine dS (BI rfl (a9 ⟨by omega,by omega⟩))<|dS (BI rfl (l4 (by omega) (by omega)))<|dS (AG rfl)<|dS (AG rfl)<|cE<|RK hK6<|aw fun _ hK7=>dj ct 8 (by kernel_rfl) ?_
 obtain ⟨sn,hqsne,hqsnn⟩: ∃ sn:Nat,((bx bl 1) % (l.aZ+1))=((sn:Nat):Int)∧((sn:Nat):Int)<(l.aZ+1):=⟨(((bx bl 1) % (l.aZ+1))).toNat,by rw [Int.toNat_of_nonneg (Int.emod_nonneg _ (by omega))],by have h1:=Int.emod_nonneg (bx bl 1) (show ((l.aZ+1):Int)≠0 by omega); have h2:=Int.emod_lt_of_pos (bx bl 1) (show 0<((l.aZ+1):Int) by omega); omega⟩
 rw [hqsne]
 refine dS (MV rfl)<|dS (CL (ia bl blA blC 2 hbl hbn (by first|assumption|omega|(simp; done)|(simp; omega))) (ax 6 rfl rfl<|ar) rfl)<|dS (FA 3 rfl dQ rfl)<|dS (L1 (Value.slice bA l.aa.length bC) 1 rfl hP rfl rfl)<|dS (LN rfl jz) ?_
 have hc2:=gI hbl 2
 refine dS (BI rfl (a9 ⟨by omega,by omega⟩))<|dS (BI rfl (l4 (by omega) (by omega)))<|dS (AG rfl)<|cE<|RK hK7<|WS fun _ hK8=>rS (AG rfl)<|RK hK8<|aw fun _ hK9=>WS fun _ hK10=>?_
 obtain ⟨nb,hqnbe,hqnbn⟩: ∃ nb:Nat,((bx bl 2) % (((l.aa.length:Nat):Int)+1))=((nb:Nat):Int)∧((nb:Nat):Int)<(((l.aa.length:Nat):Int)+1):=⟨(((bx bl 2) % (((l.aa.length:Nat):Int)+1))).toNat,by rw [Int.toNat_of_nonneg (Int.emod_nonneg _ (by omega))],by have h1:=Int.emod_nonneg (bx bl 2) (show ((((l.aa.length:Nat):Int)+1):Int)≠0 by omega); have h2:=Int.emod_lt_of_pos (bx bl 2) (show 0<((((l.aa.length:Nat):Int)+1):Int) by omega); omega⟩
 rw [hqnbe]
 refine rS (MV rfl)<|rS (MV rfl)<|RK hK10<|aH<|fY 3 1<|fY 3 1<|fY 111 3 ?_
 have hinit:(0≤nb)∧(iN l st 0 st l.aO ([]) ([]))∧(([])=List.replicate 0 (-1)):=by exact ⟨Nat.zero_le _,uc hstb (by omega),rfl⟩
 refine cP (ι:={z:Nat×Int×Int×(List Int)×(Option Addr)×Nat×(List Int)×(Option Addr)×Nat×(List bh)×(Option Addr)×Nat // (z.1≤nb)∧(iN l st z.1 z.2.1 z.2.2.1 z.2.2.2.1 z.2.2.2.2.2.2.2.2.2.1)∧(z.2.2.2.2.2.2.1=List.replicate z.1 (-1))}) (fun z=>[(1,(Value.slice blA bl.length blC)),(2,(Value.pointer (some ⟨b2,0,none⟩))),(4,(Value.pointer (some ⟨b3,0,none⟩))),(5,(Value.slice z.1.2.2.2.2.1 z.1.2.2.2.1.length z.1.2.2.2.2.2.1)),(6,(Value.slice z.1.2.2.2.2.2.2.2.1 z.1.2.2.2.2.2.2.1.length z.1.2.2.2.2.2.2.2.2.1)),(7,(Value.bool false)),(8,(Value.int .i64 z.1.2.1)),(9,(Value.int .i64 z.1.2.2.1)),(10,(Value.int .i64 ((sn:Nat):Int))),(11,(Value.int .i64 ((nb:Nat):Int))),(12,(Value.slice z.1.2.2.2.2.2.2.2.2.2.2.1 z.1.2.2.2.2.2.2.2.2.2.1.length z.1.2.2.2.2.2.2.2.2.2.2.2)),(48,(Value.int .i64 ((nb:Nat):Int))),(49,(Value.int .i64 ((z.1.1:Nat):Int)))]) (fun z=>[(own z.1.2.2.2.2.2.2.2.2.2.2.1 z.1.2.2.2.2.2.2.2.2.2.2.2 111 3 (z.1.2.2.2.2.2.2.2.2.2.1.map bh.cells)),(own z.1.2.2.2.2.2.2.2.1 z.1.2.2.2.2.2.2.2.2.1 3 1 (z.1.2.2.2.2.2.2.1.map iC)),(own z.1.2.2.2.2.1 z.1.2.2.2.2.2.1 3 1 (z.1.2.2.2.1.map iC)),(aU b3 31 (aN.cells (aN.mk st st (aA.mk none 0 0)))),(aU b2 28 (aG.cells (aG.mk (ay.mk (aA.mk kA l.au.length kC)) l.bJ (aA.mk cA l.ag.length cC) (aA.mk bA l.aa.length bC) l.aB l.aZ l.aO))),(rd kA l.au.length 9 (l.au.map ah.cells)).ro,(rd cA l.ag.length 2 (List.zipWith ao.cells l.ag az)).ro,(c_ (aP ao.eX l.ag az)).ro,(rd bA l.aa.length 4 (l.aa.map aT.cells)).ro,(rd blA bl.length 1 (bl.map dP)).ro]) (fun z=>nb-z.1.1) ⟨(0,st,l.aO,[],none,0,[],none,0,[],none,0),hinit⟩ (an.cons rfl<|an.cons rfl<|an.cons rfl<|an.cons rfl<|an.cons rfl<|an.cons rfl<|an.cons rfl<|an.cons rfl<|an.cons rfl<|an.cons rfl<|an.cons rfl<|an.cons rfl<|an.cons rfl<|an.nil _) (fun w hs=>St.bB [0,1,2,3,4,5,6,7,8,9] rfl rfl hs) ?_
 clear hinit
 rintro ⟨⟨b,at_,left,times,tA,tC,good,gA,gC,al,qA,qC⟩,⟨hl7_0,hl7_1,hl7_2⟩⟩ J11 hJ11
 try dsimp only at hl7_0 hl7_1 hl7_2
 try dsimp only
 have hgl:good.length=b:=by rw [hl7_2,List.length_replicate]
 have htl:=hl7_1.len
 have hal:=hl7_1.all.len
 have hcl:=vB (N:=b) (P:=l8 al)
 have hlf:=hl7_1.jU
 have hlm:=hhd.2.2.2.2
 refine WS fun _ hK12=>rS (BI rfl cq)<|RK hK12<|aw fun _ hK13=>?_
 refine bp rfl (fun h14=>?_) (fun h14=>?_)
 ·replace h14:=DT h14
  refine WK hK13<|aw fun _ hK15=>aH<|WS fun _ hK16=>rS (MV rfl)<|rS (AG rfl)<|RK hK16<|WS fun _ hK17=>rS (LW 4 rfl eP rfl rfl)<|rS (MV rfl) ?_
  refine rS (CL (zS l kA kC az cA cC bA bC ((b:Nat):Int) hin) (ax 5 rfl rfl<|ax 6 rfl rfl<|ax 7 rfl rfl<|ax 8 rfl rfl<|ar) rfl)<|rS (MV rfl)<|rS (EX rfl)<|rS (EX rfl)<|rS (AG rfl)<|rS (AG rfl)<|RK hK17<|aw fun _ hK18=>WS fun _ hK19=>rS (MV rfl) ?_
  refine rS (BI rfl eB)<|RK hK19 ?_
  refine bp rfl (fun h59=>?_) (fun h59=>?_)
  ·replace h59:=XT h59
   refine WS fun _ hK20=>rS (LW 3 rfl gE rfl rfl)<|By rfl rk rfl<|rS (AG rfl)<|rS (AG rfl)<|rS (AG rfl)<|RK hK20<|aE ?_
   refine hQ _ _ _ (bD (vs:=[(Value.agg (aN.cells (aN.mk st st (aA.mk none 0 0))).toArray),(Value.slice none 0 0),(Value.slice none 0 0),(Value.bool false)]) ⟨⟨_,rfl,.inl ⟨_,_,gE,cd (vs:=(aN.cells (aN.mk st st (aA.mk none 0 0)))) 3 rfl rfl,rfl,rfl⟩⟩,rfl,rfl,rfl,trivial⟩ fun w hs=>fj (false,0,st,st,[],none,0,[],none,0,[],none,0) [] ?_ ?_ rfl rfl rfl hs)
   ·rfl
   ·exact ⟨fun q=>Bool.noConfusion (show false=true from q),fun _=>⟨rfl,trivial⟩⟩
  replace h59:=XF h59
  refine WK hK18<|WS fun _ hK21=>rS (MV rfl)<|rS (MV rfl)<|rS (MV rfl)<|rS (MV rfl) ?_
  have hlv:=oc (i:=((b:Nat):Int)) hle (by omega)
  rw [Int.toNat_natCast] at hlv
  have hlb:=k5 htr hok (i:=b) (by omega)
  have hbnd:=hl7_1.Dv
  have hbi:=hl7_1.jU
  refine rS (BI rfl (mA ⟨by omega,by omega⟩))<|rS (BI rfl (a9 ⟨by omega,by omega⟩))<|rS (CL (ia bl blA blC (3+(4*((b:Nat):Int))) hbl hbn (by first|assumption|omega|(simp; done)|(simp; omega))) (ax 9 rfl rfl<|ar) rfl)<|rS (MV rfl)<|rS (MV rfl)<|rS (BI rfl (mA ⟨by omega,by omega⟩))<|rS (BI rfl (a9 ⟨by omega,by omega⟩))<|rS (CL (BH bl blA blC (4+(4*((b:Nat):Int))) hbl hbn (by first|assumption|omega|(simp; done)|(simp; omega))) (ax 9 rfl rfl<|ar) rfl) ?_
  have hc3:=gI hbl (3+4*((b:Nat):Int))
  have hp4:=z0 (bl:=bl) (4+4*((b:Nat):Int))
  have hr3n:=Int.emod_nonneg (bx bl (3+4*((b:Nat):Int))) (show (nt bl (4+4*((b:Nat):Int)))≠0 by omega)
  have hr3l:=Int.emod_lt_of_pos (bx bl (3+4*((b:Nat):Int))) (show 0<(nt bl (4+4*((b:Nat):Int))) by omega)
  refine rS (BI rfl (l4 (by omega) (by omega)))<|rS (BI rfl (a9 ⟨by omega,by omega⟩))<|rS (BI rfl (a9 ⟨by omega,by omega⟩))<|rS (AG rfl)<|RK hK21<|WS fun _ hK22=>?_
  obtain ⟨d,hd⟩: ∃ z:Int,((ml l ((b:Nat):Int))+((bx bl (3+(4*((b:Nat):Int)))) % (nt bl (4+(4*((b:Nat):Int))))))=z:=⟨_,rfl⟩
  rw [hd]
  have hdb:eO l b≤d∧d≤eO l b+2999:=by omega
  refine rS (MV rfl)<|rS (MV rfl)<|dV (xs:=[.tmp 77]) (cs:=[(Value.int .i64 (at_+d))]) rfl di kb rfl rfl rfl rfl (by simp [Value.cells]) rfl rfl fun b23=>gz (es2:=(List.map iC (times++[at_+d]))) (m':=(times++[at_+d]).length) 3 rfl rfl rfl tF rfl rfl (by simp) (a4 (es:=List.map iC [(at_+d)]) 0 rfl rfl (by simp [bO]) rfl) (mu _) (by first|omega|(simp; done)|(simp; omega)) (by first|(simp only [maxLen]; omega)|(simp [maxLen]; done)|(simp [maxLen]; omega)) (by simp) (by simp) rfl fun a24 c25=>?_
  try dsimp only
  refine rS (MV rfl)<|dV (xs:=[.const (Value.int .i64 (-1))]) (cs:=[(Value.int .i64 (-1))]) rfl di kb rfl rfl rfl rfl (by simp [Value.cells]) rfl rfl fun b26=>gz (es2:=(List.map iC (good++[-1]))) (m':=(good++[-1]).length) 3 rfl rfl rfl tF rfl rfl (by simp) (a4 (es:=List.map iC [(-1)]) 0 rfl rfl (by simp [bO]) rfl) (mu _) (by first|omega|(simp; done)|(simp; omega)) (by first|(simp only [maxLen]; omega)|(simp [maxLen]; done)|(simp [maxLen]; omega)) (by simp) (by simp) rfl fun a27 c28=>?_
  try dsimp only
  refine rS (AG rfl)<|rS (AG rfl)<|RK hK22 ?_
  refine pj (ι:=Unit) (fun z=>[(1,(Value.slice blA bl.length blC)),(2,(Value.pointer (some ⟨b2,0,none⟩))),(4,(Value.pointer (some ⟨b3,0,none⟩))),(5,(Value.slice a24 ((times++[at_+d]).length) c25)),(6,(Value.slice a27 ((good++[-1]).length) c28)),(7,(Value.bool false)),(8,(Value.int .i64 (at_+d))),(9,(Value.int .i64 left)),(10,(Value.int .i64 ((sn:Nat):Int))),(11,(Value.int .i64 ((nb:Nat):Int))),(12,(Value.slice qA al.length qC)),(13,(Value.int .i64 ((b:Nat):Int))),(48,(Value.int .i64 ((nb:Nat):Int))),(49,(Value.int .i64 ((b:Nat):Int)))]) (fun z=>[(own qA qC 111 3 (al.map bh.cells)),(own a27 c28 3 1 (List.map iC (good++[-1]))),(own a24 c25 3 1 (List.map iC (times++[at_+d]))),(aU b3 31 (aN.cells (aN.mk st st (aA.mk none 0 0)))),(aU b2 28 (aG.cells (aG.mk (ay.mk (aA.mk kA l.au.length kC)) l.bJ (aA.mk cA l.ag.length cC) (aA.mk bA l.aa.length bC) l.aB l.aZ l.aO))),(rd kA l.au.length 9 (l.au.map ah.cells)).ro,(rd cA l.ag.length 2 (List.zipWith ao.cells l.ag az)).ro,(c_ (aP ao.eX l.ag az)).ro,(rd bA l.aa.length 4 (l.aa.map aT.cells)).ro,(rd blA bl.length 1 (bl.map dP)).ro]) ?_ fun K29 hK29=>?_
  ·intro _
   try dsimp only
   refine aw fun _ hK30=>dA ct [0,1,2,3,4,5,6,7,8,9,10,11,14] [12,13] [false,false,false,false,false,false,false,false,false,false,false,false,false] [false,false] [(own qA qC 111 3 (al.map bh.cells)),(own a27 c28 3 1 (List.map iC (good++[-1]))),(own a24 c25 3 1 (List.map iC (times++[at_+d]))),(aU b3 31 (aN.cells (aN.mk st st (aA.mk none 0 0)))),(aU b2 28 (aG.cells (aG.mk (ay.mk (aA.mk kA l.au.length kC)) l.bJ (aA.mk cA l.ag.length cC) (aA.mk bA l.aa.length bC) l.aB l.aZ l.aO))),(rd kA l.au.length 9 (l.au.map ah.cells)).ro,(rd cA l.ag.length 2 (List.zipWith ao.cells l.ag az)).ro,(c_ (aP ao.eX l.ag az)).ro,(rd bA l.aa.length 4 (l.aa.map aT.cells)).ro,(rd blA bl.length 1 (bl.map dP)).ro] [] (by kernel_rfl) (fun w hs=>St.bB [0,1,2,3,4,5,6,7,8,9] rfl rfl hs) (fun w hs=>St.bB [] rfl rfl hs)<|eS rfl (LW 4 rfl eP rfl rfl)<|eS rfl (FA 3 rfl dQ rfl)<|eS rfl (L1 (Value.slice bA l.aa.length bC) 4 rfl hP rfl rfl)<|eS rfl (MV rfl) ?_
   obtain ⟨y,hy⟩: ∃ y_,l.aa[b]? =some y_:=⟨l.aa[b]'(by omega),List.getElem?_eq_getElem _⟩
   have hym:(l.aa.map aT.cells)[b]? =some (aT.cells y):=by rw [List.getElem?_map,hy]; rfl
   refine eS rfl (IA b rfl (aQ 8 rfl) pL (by decide) (by omega) (by omega))<|eS rfl (qP ((b*4)+3) rfl (aQ 8 rfl) (Nat.mul_pos (by omega) (by decide)) p5 rfl)<|eS rfl (ir b 3 (Value.int .i64 y.cO) rfl bk (aQ 8 rfl) hym rfl (by decide) rfl)<|eS rfl (MV rfl)<|eS rfl (CL (vv l kA kC az cA cC bA bC y.cO (at_+d) hin) (ax 5 rfl rfl<|ax 6 rfl rfl<|ax 7 rfl rfl<|ax 8 rfl rfl<|ar) rfl)<|eS rfl (MV rfl)<|eS rfl (EX rfl)<|eS rfl (EX rfl)<|eS rfl (AG rfl)<|eJ rfl ?_
   refine cf rfl fun T31 hT31=>AL rfl dk fun b32=>RN hT31 [1,2,3,4,5,6,7,8,9,10] rfl rfl<|cf rfl fun T33 hT33=>e7 rfl cv rfl<|RN hT33 [1,2,3,4,5,6,7,8,9,10] rfl rfl<|fJ rfl<|KK hK30<|aw fun _ hK34=>WS fun _ hK35=>?_
   refine rS (MV rfl)<|rS (BI rfl eB)<|RK hK35 ?_
   refine bp rfl (fun h109=>?_) (fun h109=>?_)
   ·replace h109:=XT h109
    refine WS fun _ hK36=>rS (LW 4 rfl gE rfl rfl)<|CU rfl rk rfl<|rS (AG rfl)<|rS (AG rfl)<|rS (AG rfl)<|RK hK36<|aE ?_
    refine hQ _ _ _ (bD (vs:=[(Value.agg (aN.cells (aN.mk st st (aA.mk none 0 0))).toArray),(Value.slice none 0 0),(Value.slice none 0 0),(Value.bool false)]) ⟨⟨_,rfl,.inl ⟨_,_,gE,cd (vs:=(aN.cells (aN.mk st st (aA.mk none 0 0)))) 4 rfl rfl,rfl,rfl⟩⟩,rfl,rfl,rfl,trivial⟩ fun w hs=>fj (false,0,st,st,[],none,0,[],none,0,[],none,0) [] ?_ ?_ rfl rfl rfl hs)
    ·rfl
    ·exact ⟨fun q=>Bool.noConfusion (show false=true from q),fun _=>⟨rfl,trivial⟩⟩
   replace h109:=XF h109
   refine WK hK34<|dA ct [0,1,2,3,4,5,6,7,8,9,10,11,12,13,14,15,16,17,18,19,20,21] [22,23,24] [false,false,false,false,false,false,false,false,false,false,false,false,false,false,false,false,false,false,false,false,false,false] [false,false,false] [(aU b32 47 (ab.cells (cN l y.cO (at_+d)))),(own a27 c28 3 1 (List.map iC (good++[-1]))),(own a24 c25 3 1 (List.map iC (times++[at_+d]))),(aU b3 31 (aN.cells (aN.mk st st (aA.mk none 0 0)))),(aU b2 28 (aG.cells (aG.mk (ay.mk (aA.mk kA l.au.length kC)) l.bJ (aA.mk cA l.ag.length cC) (aA.mk bA l.aa.length bC) l.aB l.aZ l.aO))),(rd kA l.au.length 9 (l.au.map ah.cells)).ro,(rd cA l.ag.length 2 (List.zipWith ao.cells l.ag az)).ro,(c_ (aP ao.eX l.ag az)).ro,(rd bA l.aa.length 4 (l.aa.map aT.cells)).ro,(rd blA bl.length 1 (bl.map dP)).ro] [] (by kernel_rfl) (fun w hs=>St.bB [0,2,3,4,5,6,7,8,9,10] rfl rfl hs) (fun w hs=>St.bB [] rfl rfl hs) ?_
   have hds:=uO hle hy h109
   have hc6:=gI hbl (6+4*((b:Nat):Int))
   have hr6n:=Int.emod_nonneg (bx bl (6+4*((b:Nat):Int))) (show ((cN l y.cO (at_+d)).Hi-(cN l y.cO (at_+d)).Lo+1)≠0 by omega)
   have hr6l:=Int.emod_lt_of_pos (bx bl (6+4*((b:Nat):Int))) (show 0<((cN l y.cO (at_+d)).Hi-(cN l y.cO (at_+d)).Lo+1) by omega)
   refine eS rfl (MV rfl)<|eS rfl (MV rfl)<|eS rfl (MV rfl)<|eS rfl (FA 0 rfl bP rfl)<|eS rfl (L1 (Value.int .i64 ((cN l y.cO (at_+d)).Lo)) 0 rfl bk rfl rfl)<|eS rfl (BI rfl (a9 ⟨by omega,by omega⟩))<|eS rfl (MV rfl)<|eS rfl (MV rfl)<|eS rfl (BI rfl (mA ⟨by omega,by omega⟩))<|eS rfl (BI rfl (a9 ⟨by omega,by omega⟩)) ?_
   refine eS rfl (CL (ia bl blA blC (6+(4*((b:Nat):Int))) hbl hbn (by first|assumption|omega|(simp; done)|(simp; omega))) (ax 9 rfl rfl<|ar) rfl)<|eS rfl (FA 1 rfl bZ rfl)<|eS rfl (L1 (Value.int .i64 ((cN l y.cO (at_+d)).Hi)) 0 rfl bk rfl rfl)<|eS rfl (FA 0 rfl bP rfl)<|eS rfl (L1 (Value.int .i64 ((cN l y.cO (at_+d)).Lo)) 0 rfl bk rfl rfl)<|eS rfl (BI rfl (cr ⟨by omega,by omega⟩))<|eS rfl (BI rfl (a9 ⟨by omega,by omega⟩))<|eS rfl (BI rfl (l4 (by omega) (by omega)))<|eS rfl (BI rfl (a9 ⟨by omega,by omega⟩))<|eS rfl (SX (aS (xs:=[(0,.tmp 112),(1,.tmp 129)]) (cs:=(av.cells (av.mk ((b:Nat):Int) (((at_+d)+((cN l y.cO (at_+d)).Lo))+((bx bl (6+(4*((b:Nat):Int)))) % ((((cN l y.cO (at_+d)).Hi)-((cN l y.cO (at_+d)).Lo))+1)))))) rfl rfl (aR vp rfl)) rfl rfl) ?_
   refine eS rfl (MV rfl)<|eS rfl (SX (aS (xs:=[(0,.tmp 130),(1,.tmp 131)]) (cs:=(bh.cells (bh.mk (av.mk ((b:Nat):Int) (((at_+d)+((cN l y.cO (at_+d)).Lo))+((bx bl (6+(4*((b:Nat):Int)))) % ((((cN l y.cO (at_+d)).Hi)-((cN l y.cO (at_+d)).Lo))+1)))) ((b:Nat):Int)))) rfl rfl (aR Bj rfl)) rfl rfl)<|eJ rfl<|cf rfl fun T37 hT37=>dV (xs:=[.tmp 132]) (cs:=(bh.cells (bh.mk (av.mk ((b:Nat):Int) (((at_+d)+((cN l y.cO (at_+d)).Lo))+((bx bl (6+(4*((b:Nat):Int)))) % ((((cN l y.cO (at_+d)).Hi)-((cN l y.cO (at_+d)).Lo))+1)))) ((b:Nat):Int)))) rfl h_ xT rfl rfl rfl rfl (by simp [Value.cells,bh.aM]) rfl rfl fun b38=>RN hT37 [1,3,4,5,6,7,8,9,10,11] rfl rfl<|cf rfl fun T39 hT39=>gz (es2:=(List.map bh.cells (al++[(bh.mk (av.mk ((b:Nat):Int) (at_+d+(cN l y.cO (at_+d)).Lo+bx bl (6+4*((b:Nat):Int)) % ((cN l y.cO (at_+d)).Hi-(cN l y.cO (at_+d)).Lo+1))) ((b:Nat):Int))]))) (m':=(al++[(bh.mk (av.mk ((b:Nat):Int) (at_+d+(cN l y.cO (at_+d)).Lo+bx bl (6+4*((b:Nat):Int)) % ((cN l y.cO (at_+d)).Hi-(cN l y.cO (at_+d)).Lo+1))) ((b:Nat):Int))]).length) 2 rfl rfl rfl AW rfl rfl (by simp) (a4 (es:=List.map bh.cells [(bh.mk (av.mk ((b:Nat):Int) (((at_+d)+((cN l y.cO (at_+d)).Lo))+((bx bl (6+(4*((b:Nat):Int)))) % ((((cN l y.cO (at_+d)).Hi)-((cN l y.cO (at_+d)).Lo))+1)))) ((b:Nat):Int))]) 0 rfl rfl (by simp [bh.aM]) rfl) (l1 _) (by first|omega|(simp; done)|(simp; omega)) (by first|(simp only [maxLen]; omega)|(simp [maxLen]; done)|(simp [maxLen]; omega)) (by simp) (by simp) rfl fun a40 c41=>?_
   try dsimp only
   refine RN hT39 [1,3,4,5,6,7,8,9,10,11] rfl rfl<|cf rfl fun T42 hT42=>rS (AG rfl)<|RN hT42 [1,3,4,5,6,7,8,9,10,11] rfl rfl<|fJ rfl<|aL<|KK hK15<|aC<|rS (BI rfl (a9 ⟨by omega,by omega⟩))<|rS (MV rfl) ?_
   refine aX ?_
   have hb43:(Value.int .i64 (((b+1):Nat):Int))=(Value.int .i64 (((b:Nat):Int)+1)):=by exact congrArg (Value.int .i64) (by omega)
   refine aY (hJ11 ⟨((b+1),(at_+d),left,(times++[at_+d]),a24,c25,(good++[-1]),a27,c28,(al++[(bh.mk (av.mk ((b:Nat):Int) (at_+d+(cN l y.cO (at_+d)).Lo+bx bl (6+4*((b:Nat):Int)) % ((cN l y.cO (at_+d)).Hi-(cN l y.cO (at_+d)).Lo+1))) ((b:Nat):Int))]),a40,c41),⟨by omega,hl7_1.xC hdb hlb rfl rfl (uS hle hy h109 (by omega)).2,by rw [hl7_2]; exact (tQ _ _).symm⟩⟩ _ _ _ rfl (by first|omega|(simp; omega)) (an.cons rfl<|an.cons rfl<|an.cons rfl<|an.cons rfl<|an.cons rfl<|an.cons rfl<|an.cons rfl<|an.cons rfl<|an.cons rfl<|an.cons rfl<|an.cons rfl<|an.cons rfl<|a_ rfl hb43<|an.nil _) (fun w hs=>St.bB [2,3,4,5,6,7,8,9,10,11] rfl rfl hs))
  refine WS fun _ hK30=>rS (MV rfl)<|rS (BI rfl eL)<|rS (MV rfl) ?_
  refine bo (t:=85) rfl (fun h85=>?_) (fun h85=>?_)
  rotate_left 1
  ·replace h85:=DF h85
   refine rS (OX rfl)<|rS (OX rfl)<|rS (OX rfl)<|rS (OX rfl)<|rS (OX rfl)<|rS (OX rfl)<|rS (OX rfl)<|rS (PK rfl)<|RK hK30<|bH rfl ?_
   refine cH ?_
   refine aY (iz (an.cons rfl<|an.cons rfl<|an.cons rfl<|an.cons rfl<|an.cons rfl<|an.cons rfl<|an.cons rfl<|an.cons rfl<|an.cons rfl<|an.cons rfl<|an.cons rfl<|an.cons rfl<|an.cons rfl<|an.cons rfl<|an.nil _) (fun w hs=>St.bB [2,3,4,5,6,7,8,9,10,11] rfl rfl hs) (hK29 ()))
  replace h85:=DT h85
  refine rS (MV rfl)<|rS (MV rfl)<|rS (BI rfl (mA ⟨by omega,by omega⟩))<|rS (BI rfl (a9 ⟨by omega,by omega⟩))<|rS (CL (ia bl blA blC (5+(4*((b:Nat):Int))) hbl hbn (by first|assumption|omega|(simp; done)|(simp; omega))) (ax 11 rfl rfl<|ar) rfl) ?_
  have hc5:=gI hbl (5+4*((b:Nat):Int))
  refine rS (BI rfl (l4 (by omega) (by omega)))<|rS (BI rfl eC)<|rS (PK rfl)<|RK hK30 ?_
  refine bp rfl (fun h93=>?_) (fun h93=>?_)
  rotate_left 1
  ·replace h93:=DF h93
   refine cH ?_
   refine aY (iz (an.cons rfl<|an.cons rfl<|an.cons rfl<|an.cons rfl<|an.cons rfl<|an.cons rfl<|an.cons rfl<|an.cons rfl<|an.cons rfl<|an.cons rfl<|an.cons rfl<|an.cons rfl<|an.cons rfl<|an.cons rfl<|an.nil _) (fun w hs=>St.bB [2,3,4,5,6,7,8,9,10,11] rfl rfl hs) (hK29 ()))
  replace h93:=DT h93
  refine WS fun _ hK31=>rS (MV rfl)<|rS (BI rfl (cr ⟨by omega,by omega⟩))<|rS (AG rfl)<|RK hK31<|bM<|ai<|aI<|KK hK15<|aC ?_
  refine rS (BI rfl (a9 ⟨by omega,by omega⟩))<|rS (MV rfl)<|aX ?_
  have hb32:(Value.int .i64 (((b+1):Nat):Int))=(Value.int .i64 (((b:Nat):Int)+1)):=by exact congrArg (Value.int .i64) (by omega)
  refine aY (hJ11 ⟨((b+1),(at_+d),(left-1),(times++[at_+d]),a24,c25,(good++[-1]),a27,c28,al,qA,qC),⟨by omega,hl7_1.tk hdb hlb h85,by rw [hl7_2]; exact (tQ _ _).symm⟩⟩ _ _ _ rfl (by first|omega|(simp; omega)) (an.cons rfl<|an.cons rfl<|an.cons rfl<|an.cons rfl<|an.cons rfl<|an.cons rfl<|an.cons rfl<|an.cons rfl<|an.cons rfl<|an.cons rfl<|an.cons rfl<|an.cons rfl<|a_ rfl hb32<|an.nil _) (fun w hs=>St.bB [2,3,4,5,6,7,8,9,10,11] rfl rfl hs))
 replace h14:=DF h14
 refine bM<|ai<|ai<|aI<|KK hK9<|WS fun _ hK33=>rS (MV rfl)<|rS (MV rfl)<|rS (CL (ia bl blA blC 40 hbl hbn (by first|assumption|omega|(simp; done)|(simp; omega))) (ax 9 rfl rfl<|ar) rfl) ?_
 have hc40:=gI hbl 40
 have hbnd:=hl7_1.Dv
 refine rS (BI rfl (l4 (by omega) (by omega))) ?_
 have hr40n:=Int.emod_nonneg (bx bl 40) (show (5000:Int)≠0 by omega)
 have hr40l:=Int.emod_lt_of_pos (bx bl 40) (show 0<(5000:Int) by omega)
 refine rS (BI rfl (a9 ⟨by omega,by omega⟩))<|rS (FA 1 rfl lj rfl)<|AV (aN.cells (aN.mk st (at_+((bx bl 40) % 5000)) (aA.mk none 0 0))) rfl uQ rfl rfl<|RK hK33<|aw fun _ hK34=>aw fun _ hK35=>?_
 obtain ⟨nw,hnw⟩: ∃ z:Int,(at_+((bx bl 40) % 5000))=z:=⟨_,rfl⟩
 rw [hnw]
 have hnwl:at_≤nw:=by omega
 have hnwb:nw≤4000000000:=by omega
 have hsa:st≤at_:=hl7_1.Dv.2.1
 refine aC<|rS (MV rfl)<|rS (MV rfl)<|RK hK35<|aH ?_
 have hinit:(0≤sn)∧(l7 l times nb 0 al):=by exact ⟨Nat.zero_le _,by rw [show nb=b from (by omega)]; exact hl7_1.all⟩
 refine cP (ι:={z:Nat×(List bh)×(Option Addr)×Nat // (z.1≤sn)∧(l7 l times nb z.1 z.2.1)}) (fun z=>[(1,(Value.slice blA bl.length blC)),(2,(Value.pointer (some ⟨b2,0,none⟩))),(4,(Value.pointer (some ⟨b3,0,none⟩))),(5,(Value.slice tA times.length tC)),(6,(Value.slice gA good.length gC)),(7,(Value.bool false)),(10,(Value.int .i64 ((sn:Nat):Int))),(12,(Value.slice z.1.2.2.1 z.1.2.1.length z.1.2.2.2)),(142,(Value.int .i64 ((sn:Nat):Int))),(143,(Value.int .i64 ((z.1.1:Nat):Int)))]) (fun z=>[(own z.1.2.2.1 z.1.2.2.2 111 3 (z.1.2.1.map bh.cells)),(own gA gC 3 1 (good.map iC)),(own tA tC 3 1 (times.map iC)),(aU b3 31 (aN.cells (aN.mk st nw (aA.mk none 0 0)))),(aU b2 28 (aG.cells (aG.mk (ay.mk (aA.mk kA l.au.length kC)) l.bJ (aA.mk cA l.ag.length cC) (aA.mk bA l.aa.length bC) l.aB l.aZ l.aO))),(rd kA l.au.length 9 (l.au.map ah.cells)).ro,(rd cA l.ag.length 2 (List.zipWith ao.cells l.ag az)).ro,(c_ (aP ao.eX l.ag az)).ro,(rd bA l.aa.length 4 (l.aa.map aT.cells)).ro,(rd blA bl.length 1 (bl.map dP)).ro]) (fun z=>sn-z.1.1) ⟨(0,al,qA,qC),hinit⟩ (an.cons rfl<|an.cons rfl<|an.cons rfl<|an.cons rfl<|an.cons rfl<|an.cons rfl<|an.cons rfl<|an.cons rfl<|an.cons rfl<|an.cons rfl<|an.nil _) (fun w hs=>St.bB [0,1,2,3,4,5,6,7,8,9] rfl rfl hs) ?_
 clear hinit
 rintro ⟨⟨i,al1,uA,uC⟩,⟨hl23_0,hl23_1⟩⟩ J36 hJ36
 try dsimp only at hl23_0 hl23_1
 try dsimp only
 have hal1:=hl23_1.len
 refine WS fun _ hK37=>rS (BI rfl cq)<|RK hK37<|aw fun _ hK38=>?_
 refine bp rfl (fun h39=>?_) (fun h39=>?_)
 ·replace h39:=DT h39
  refine WK hK38<|aw fun _ hK40=>aH<|WS fun _ hK41=>rS (MV rfl)<|rS (AG rfl)<|RK hK41<|dA ct [0,1,2,3,4,5,6,7,8,9,10,11,12,13,14,15,16,17,18,19,20,21,22,23,24,25,26,27] [28,29,30] [false,false,false,false,false,false,false,false,false,false,false,false,false,false,false,false,false,false,false,false,false,false,false,false,false,false,false,false] [false,false,false] [(own gA gC 3 1 (good.map iC)),(own tA tC 3 1 (times.map iC)),(aU b3 31 (aN.cells (aN.mk st nw (aA.mk none 0 0)))),(aU b2 28 (aG.cells (aG.mk (ay.mk (aA.mk kA l.au.length kC)) l.bJ (aA.mk cA l.ag.length cC) (aA.mk bA l.aa.length bC) l.aB l.aZ l.aO))),(rd kA l.au.length 9 (l.au.map ah.cells)).ro,(rd cA l.ag.length 2 (List.zipWith ao.cells l.ag az)).ro,(c_ (aP ao.eX l.ag az)).ro,(rd bA l.aa.length 4 (l.aa.map aT.cells)).ro,(rd blA bl.length 1 (bl.map dP)).ro] [] (by kernel_rfl) (fun w hs=>St.bB [1,2,3,4,5,6,7,8,9] rfl rfl hs) (fun w hs=>St.bB [] rfl rfl hs)<|eS rfl (MV rfl)<|eS rfl (MV rfl) ?_
  refine eS rfl (MV rfl)<|eS rfl (BI rfl (mA ⟨by omega,by omega⟩))<|eS rfl (BI rfl (a9 ⟨by omega,by omega⟩))<|eS rfl (CL (ia bl blA blC (41+(2*((i:Nat):Int))) hbl hbn (by first|assumption|omega|(simp; done)|(simp; omega))) (ax 8 rfl rfl<|ar) rfl)<|eS rfl (FA 3 rfl dQ rfl)<|eS rfl (L1 (Value.slice bA l.aa.length bC) 3 rfl hP rfl rfl)<|eS rfl (LN rfl jz) ?_
  have hc41:=gI hbl (41+2*((i:Nat):Int))
  refine eS rfl (BI rfl (l4 (by omega) (by omega)))<|eS rfl (FA 0 rfl fH rfl)<|eS rfl (L1 (Value.int .i64 st) 2 rfl bk rfl rfl)<|eS rfl (MV rfl)<|eS rfl (MV rfl)<|eS rfl (BI rfl (mA ⟨by omega,by omega⟩))<|eS rfl (BI rfl (a9 ⟨by omega,by omega⟩))<|eS rfl (CL (ia bl blA blC (42+(2*((i:Nat):Int))) hbl hbn (by first|assumption|omega|(simp; done)|(simp; omega))) (ax 8 rfl rfl<|ar) rfl)<|eS rfl (FA 1 rfl lj rfl)<|eS rfl (L1 (Value.int .i64 nw) 2 rfl bk rfl rfl) ?_
  refine eS rfl (FA 0 rfl fH rfl)<|eS rfl (L1 (Value.int .i64 st) 2 rfl bk rfl rfl)<|eS rfl (BI rfl (cr ⟨by omega,by omega⟩))<|eS rfl (BI rfl (a9 ⟨by omega,by omega⟩)) ?_
  have hc42:=gI hbl (42+2*((i:Nat):Int))
  have hr42n:=Int.emod_nonneg (bx bl (42+2*((i:Nat):Int))) (show (nw-st+9)≠0 by omega)
  have hr42l:=Int.emod_lt_of_pos (bx bl (42+2*((i:Nat):Int))) (show 0<(nw-st+9) by omega)
  refine eS rfl (BI rfl (l4 (by omega) (by omega)))<|eS rfl (BI rfl (a9 ⟨by omega,by omega⟩))<|eS rfl (MX rfl)<|eS rfl (SX (aS (xs:=[(0,.tmp 155),(1,.tmp 171)]) (cs:=(av.cells (av.mk ((bx bl (41+(2*((i:Nat):Int)))) % ((l.aa.length:Nat):Int)) (max 0 (st+((bx bl (42+(2*((i:Nat):Int)))) % ((nw-st)+9))))))) rfl rfl (aR vp rfl)) rfl rfl)<|eS rfl (SX (aS (xs:=[(0,.tmp 172),(1,.const (Value.int .i64 (-1)))]) (cs:=(bh.cells (bh.mk (av.mk ((bx bl (41+(2*((i:Nat):Int)))) % ((l.aa.length:Nat):Int)) (max 0 (st+((bx bl (42+(2*((i:Nat):Int)))) % ((nw-st)+9))))) (-1)))) rfl rfl (aR Bj rfl)) rfl rfl)<|eJ rfl<|cf rfl fun T42 hT42=>dV (xs:=[.tmp 173]) (cs:=(bh.cells (bh.mk (av.mk ((bx bl (41+(2*((i:Nat):Int)))) % ((l.aa.length:Nat):Int)) (max 0 (st+((bx bl (42+(2*((i:Nat):Int)))) % ((nw-st)+9))))) (-1)))) rfl h_ xT rfl rfl rfl rfl (by simp [Value.cells,bh.aM]) rfl rfl fun b43=>RN hT42 [2,3,4,5,6,7,8,9,10] rfl rfl<|cf rfl fun T44 hT44=>?_
  refine gz (es2:=(List.map bh.cells (al1++[(bh.mk (av.mk (bx bl (41+2*((i:Nat):Int)) % ((l.aa.length:Nat):Int)) (max 0 (st+bx bl (42+2*((i:Nat):Int)) % (nw-st+9)))) (-1))]))) (m':=(al1++[(bh.mk (av.mk (bx bl (41+2*((i:Nat):Int)) % ((l.aa.length:Nat):Int)) (max 0 (st+bx bl (42+2*((i:Nat):Int)) % (nw-st+9)))) (-1))]).length) 1 rfl rfl rfl AW rfl rfl (by simp) (a4 (es:=List.map bh.cells [(bh.mk (av.mk ((bx bl (41+(2*((i:Nat):Int)))) % ((l.aa.length:Nat):Int)) (max 0 (st+((bx bl (42+(2*((i:Nat):Int)))) % ((nw-st)+9))))) (-1))]) 0 rfl rfl (by simp [bh.aM]) rfl) (l1 _) (by first|omega|(simp; done)|(simp; omega)) (by first|(simp only [maxLen]; omega)|(simp [maxLen]; done)|(simp [maxLen]; omega)) (by simp) (by simp) rfl fun a45 c46=>?_
  try dsimp only
  refine RN hT44 [2,3,4,5,6,7,8,9,10] rfl rfl<|cf rfl fun T47 hT47=>rS (AG rfl)<|RN hT47 [2,3,4,5,6,7,8,9,10] rfl rfl<|fJ rfl<|aL<|KK hK40<|aC<|rS (BI rfl (a9 ⟨by omega,by omega⟩))<|rS (MV rfl) ?_
  refine aX ?_
  have hb48:(Value.int .i64 (((i+1):Nat):Int))=(Value.int .i64 (((i:Nat):Int)+1)):=by exact congrArg (Value.int .i64) (by omega)
  refine aY (hJ36 ⟨((i+1),(al1++[(bh.mk (av.mk (bx bl (41+2*((i:Nat):Int)) % ((l.aa.length:Nat):Int)) (max 0 (st+bx bl (42+2*((i:Nat):Int)) % (nw-st+9)))) (-1))]),a45,c46),⟨by omega,hl23_1.EU rfl⟩⟩ _ _ _ rfl (by first|omega|(simp; omega)) (an.cons rfl<|an.cons rfl<|an.cons rfl<|an.cons rfl<|an.cons rfl<|an.cons rfl<|an.cons rfl<|an.cons rfl<|an.cons rfl<|a_ rfl hb48<|an.nil _) (fun w hs=>St.bB [1,2,3,4,5,6,7,8,9,10] rfl rfl hs))
 replace h39:=DF h39
 refine bM<|ai<|ai<|aI<|KK hK34<|aw fun _ hK49=>WS fun _ hK50=>rS (MV rfl)<|rS (LN rfl Br)<|rS (MV rfl) ?_
 refine RK hK50<|aH ?_
 have hinit:(0≤al1.length)∧(l7 l times nb i al1)∧(al1.length=al1.length):=by exact ⟨Nat.zero_le _,hl23_1,rfl⟩
 refine cP (ι:={z:Nat×(List bh) // (z.1≤al1.length)∧(l7 l times nb i z.2)∧(z.2.length=al1.length)}) (fun z=>[(1,(Value.slice blA bl.length blC)),(2,(Value.pointer (some ⟨b2,0,none⟩))),(4,(Value.pointer (some ⟨b3,0,none⟩))),(5,(Value.slice tA times.length tC)),(6,(Value.slice gA good.length gC)),(7,(Value.bool false)),(12,(Value.slice uA al1.length uC)),(178,(Value.int .i64 ((al1.length:Nat):Int))),(179,(Value.int .i64 ((z.1.1:Nat):Int)))]) (fun z=>[(own uA uC 111 3 (z.1.2.map bh.cells)),(own gA gC 3 1 (good.map iC)),(own tA tC 3 1 (times.map iC)),(aU b3 31 (aN.cells (aN.mk st nw (aA.mk none 0 0)))),(aU b2 28 (aG.cells (aG.mk (ay.mk (aA.mk kA l.au.length kC)) l.bJ (aA.mk cA l.ag.length cC) (aA.mk bA l.aa.length bC) l.aB l.aZ l.aO))),(rd kA l.au.length 9 (l.au.map ah.cells)).ro,(rd cA l.ag.length 2 (List.zipWith ao.cells l.ag az)).ro,(c_ (aP ao.eX l.ag az)).ro,(rd bA l.aa.length 4 (l.aa.map aT.cells)).ro,(rd blA bl.length 1 (bl.map dP)).ro]) (fun z=>al1.length-z.1.1) ⟨(0,al1),hinit⟩ (an.cons rfl<|an.cons rfl<|an.cons rfl<|an.cons rfl<|an.cons rfl<|an.cons rfl<|an.cons rfl<|an.cons rfl<|an.cons rfl<|an.nil _) (fun w hs=>St.bB [0,1,2,3,4,5,6,7,8,9] rfl rfl hs) ?_
 clear hinit
 rintro ⟨⟨j,al⟩,⟨hl28_0,hl28_1,hl28_2⟩⟩ J51 hJ51
 try dsimp only at hl28_0 hl28_1 hl28_2
 try dsimp only
 refine WS fun _ hK52=>rS (BI rfl cq)<|RK hK52<|aw fun _ hK53=>?_
 refine bp rfl (fun h54=>?_) (fun h54=>?_)
 rotate_left 1
 ·replace h54:=DF h54
  refine bM<|ai<|ai<|aI<|KK hK49<|aw fun _ hK94=>WS fun _ hK95=>rS (MV rfl)<|rS (LN rfl Br)<|rS (MV rfl) ?_
  refine RK hK95<|aH ?_
  rw [show (own gA gC 3 1 (good.map iC))=(own gA gC 3 1 ((df nb al 0).map iC)) from by rw [show good=(df nb al 0) from by rw [hl7_2,show nb=b by omega]; rfl]]
  refine fY 67 2 ?_
  have hinit:(0≤al.length):=by exact Nat.zero_le _
  refine cP (ι:={z:Nat×(Option Addr)×Nat // (z.1≤al.length)}) (fun z=>[(1,(Value.slice blA bl.length blC)),(2,(Value.pointer (some ⟨b2,0,none⟩))),(4,(Value.pointer (some ⟨b3,0,none⟩))),(5,(Value.slice tA times.length tC)),(6,(Value.slice gA good.length gC)),(7,(Value.bool false)),(238,(Value.slice uA al1.length uC)),(239,(Value.int .i64 ((al1.length:Nat):Int))),(240,(Value.int .i64 ((z.1.1:Nat):Int)))]) (fun z=>[(own z.1.2.1 z.1.2.2 67 2 ((List.map bh.bQ (al.take z.1.1)).map av.cells)),(own uA uC 111 3 (al.map bh.cells)),(own gA gC 3 1 ((df nb al z.1.1).map iC)),(own tA tC 3 1 (times.map iC)),(aU b3 31 (aN.cells (aN.mk st nw (aA.mk z.1.2.1 ((List.map bh.bQ (al.take z.1.1)).length) z.1.2.2)))),(aU b2 28 (aG.cells (aG.mk (ay.mk (aA.mk kA l.au.length kC)) l.bJ (aA.mk cA l.ag.length cC) (aA.mk bA l.aa.length bC) l.aB l.aZ l.aO))),(rd kA l.au.length 9 (l.au.map ah.cells)).ro,(rd cA l.ag.length 2 (List.zipWith ao.cells l.ag az)).ro,(c_ (aP ao.eX l.ag az)).ro,(rd bA l.aa.length 4 (l.aa.map aT.cells)).ro,(rd blA bl.length 1 (bl.map dP)).ro]) (fun z=>al.length-z.1.1) ⟨(0,none,0),hinit⟩ (an.cons rfl<|an.cons rfl<|an.cons rfl<|an.cons rfl<|an.cons rfl<|an.cons rfl<|an.cons rfl<|an.cons rfl<|an.cons rfl<|an.nil _) (fun w hs=>St.bB [0,1,2,3,4,5,6,7,8,9,10] rfl rfl hs) ?_
  clear hinit
  rintro ⟨⟨m,sA,sC⟩,hl40_0⟩ J96 hJ96
  try dsimp only at hl40_0
  try dsimp only
  refine WS fun _ hK97=>rS (BI rfl cq)<|RK hK97<|aw fun _ hK98=>?_
  refine bp rfl (fun h99=>?_) (fun h99=>?_)
  rotate_left 1
  ·replace h99:=DF h99
   refine bM<|ai<|ai<|aI<|KK hK94<|aw fun _ hK113=>?_
   rw [show (List.map bh.bQ (al.take m))=(List.map bh.bQ al) from by rw [show m=al.length by omega,List.take_length]]
   rw [show (df nb al m)=(df nb al al.length) from by rw [show m=al.length by omega]]
   rw [show good.length=(df nb al al.length).length from by rw [je]; omega]
   refine dA ct [0,1,2,3,4,5,7,8,9] [6] [false,false,false,false,false,false,false,false,false] [false] [(own sA sC 67 2 ((List.map bh.bQ al).map av.cells)),(own uA uC 111 3 (al.map bh.cells)),(own gA gC 3 1 ((df nb al al.length).map iC)),(own tA tC 3 1 (times.map iC)),(aU b3 31 (aN.cells (aN.mk st nw (aA.mk sA ((List.map bh.bQ al).length) sC)))),(aU b2 28 (aG.cells (aG.mk (ay.mk (aA.mk kA l.au.length kC)) l.bJ (aA.mk cA l.ag.length cC) (aA.mk bA l.aa.length bC) l.aB l.aZ l.aO))),(rd kA l.au.length 9 (l.au.map ah.cells)).ro,(rd cA l.ag.length 2 (List.zipWith ao.cells l.ag az)).ro,(c_ (aP ao.eX l.ag az)).ro,(rd bA l.aa.length 4 (l.aa.map aT.cells)).ro,(rd blA bl.length 1 (bl.map dP)).ro] [] (by kernel_rfl) (fun w hs=>St.bB [0,1,2,3,4,5,6,7,8,9,10] rfl rfl hs) (fun w hs=>St.bB [] rfl rfl hs)<|eS rfl (LW 4 rfl gE rfl rfl)<|eS rfl (MV rfl)<|eS rfl (MV rfl)<|eS rfl (LW 5 rfl eP rfl rfl)<|eS rfl (LW 4 rfl gE rfl rfl)<|eS rfl (CL (z9 l kA kC az cA cC bA bC (bj.mk st nw (List.map bh.bQ al)) sA sC hin (by first|assumption|omega|(simp; done)|(simp; omega))) (ax 6 rfl rfl<|ax 7 rfl rfl<|ax 8 rfl rfl<|ax 9 rfl rfl<|aF (ak (n:=(List.map bh.bQ al).length) 0 rfl (by simp))<|ar) rfl)<|eS rfl (AG rfl)<|eS rfl (AG rfl)<|eS rfl (AG rfl) ?_
   refine eJ rfl<|cf rfl fun T114 hT114=>CU rfl rk rfl<|RN hT114 [0,1,2,3,4,5,6,7,8,9,10] rfl rfl<|fJ rfl<|KK hK113<|aE ?_
   refine hQ _ _ _ (bD (vs:=[(Value.agg (aN.cells (aN.mk st nw (aA.mk sA ((List.map bh.bQ al).length) sC))).toArray),(Value.slice tA times.length tC),(Value.slice gA ((df nb al al.length).length) gC),(Value.bool (decide (c7 l (bj.mk st nw (List.map bh.bQ al)))))]) ⟨⟨_,rfl,.inl ⟨_,_,gE,cd (vs:=(aN.cells (aN.mk st nw (aA.mk sA ((List.map bh.bQ al).length) sC)))) 4 rfl rfl,rfl,rfl⟩⟩,rfl,rfl,rfl,trivial⟩ fun w hs=>fj (true,0,st,nw,(List.map bh.bQ al),sA,sC,times,tA,tC,(df nb al al.length),gA,gC) [0,3,2] ?_ ?_ rfl rfl rfl hs)
   ·rfl
   ·exact ⟨fun _ hr=>uf (by rw [show nb=b by omega]; exact hl7_1) hl28_1 (by omega) (by omega) hnwl hr,fun q=>Bool.noConfusion (show true=false from q)⟩
  replace h99:=DT h99
  refine WK hK98<|aw fun _ hK100=>aH<|WS fun _ hK101=>rS (MV rfl) ?_
  obtain ⟨x1,hx1⟩: ∃ y_,al[m]? =some y_:=⟨al[m]'(by omega),List.getElem?_eq_getElem _⟩
  have hx1m:(al.map bh.cells)[m]? =some (bh.cells x1):=by rw [List.getElem?_map,hx1]; rfl
  refine rS (IA m rfl (ak (n:=al1.length) 1 rfl (by first|(simp; done)|(simp; omega))) h_ (by decide) (by omega) (by omega))<|rS (kE m 0 (bh.cells x1) rfl nu (ak (n:=al.length) 1 rfl (by simp)) hx1m rfl (by decide) rfl rfl)<|AL rfl xT fun b102=>rS (AG rfl)<|e7 rfl oE rfl<|RK hK101<|WS fun _ hK103=>rS (FA 2 rfl hH rfl)<|rS (L1 (Value.slice sA ((List.map bh.bQ (al.take m)).length) sC) 5 rfl nK rfl rfl)<|rS (FA 0 rfl sW rfl) ?_
  refine rS (LP (av.cells x1.bQ) 0 rfl iI rfl rfl rfl)<|dV (xs:=[.tmp 248]) (cs:=(av.cells x1.bQ)) rfl sH qe rfl rfl rfl rfl (by simp [Value.cells,av.aM]) rfl rfl fun b104=>gz (es2:=(List.map av.cells (List.map bh.bQ (al.take (m+1))))) (m':=(List.map bh.bQ (al.take (m+1))).length) 2 rfl rfl rfl GI rfl rfl (by simp) (a4 (es:=List.map av.cells [x1.bQ]) 0 rfl rfl (by simp [av.aM]) rfl) (ox _) (by have:=hl28_1.len; simp; omega) (by have:=hl28_1.len; simp only [maxLen]; simp; omega) (by rw [k6 hx1]; simp) (by simp) rfl fun a105 c106=>?_
  try dsimp only
  refine rS (FA 2 rfl hH rfl)<|He (aN.cells (aN.mk st nw (aA.mk a105 ((List.map bh.bQ (al.take (m+1))).length) c106))) rfl GO rfl rfl<|RK hK103<|WS fun _ hK107=>rS (FA 2 rfl vH rfl)<|rS (L1 (Value.int .i64 x1.oH) 1 rfl bk rfl rfl)<|rS (BI rfl il)<|RK hK107 ?_
  refine bp rfl (fun h254=>?_) (fun h254=>?_)
  rotate_left 1
  ·replace h254:=DF h254
   refine cH<|aL<|KK hK100<|aC<|rS (BI rfl (a9 ⟨by omega,by omega⟩))<|rS (MV rfl)<|aX ?_
   rw [show (own gA gC 3 1 ((df nb al m).map iC))=(own gA gC 3 1 ((df nb al (m+1)).map iC)) from by rw [wO hx1 h254]]
   have hb112:(Value.int .i64 (((m+1):Nat):Int))=(Value.int .i64 (((m:Nat):Int)+1)):=by exact congrArg (Value.int .i64) (by omega)
   refine aY (hJ96 ⟨((m+1),a105,c106),(by first|omega|(simp only []; omega))⟩ _ _ _ rfl (by first|omega|(simp; omega)) (an.cons rfl<|an.cons rfl<|an.cons rfl<|an.cons rfl<|an.cons rfl<|an.cons rfl<|an.cons rfl<|an.cons rfl<|a_ rfl hb112<|an.nil _) (fun w hs=>St.bB [2,3,4,5,6,7,8,9,10,11,12] rfl rfl hs))
  replace h254:=DT h254
  refine aC<|rS (MV rfl)<|rS (FA 2 rfl vH rfl)<|rS (L1 (Value.int .i64 x1.oH) 1 rfl bk rfl rfl)<|rS (MV rfl) ?_
  have hgm:(df nb al m).length=nb:=je m
  have hoi:=hl28_1.of_lt (by have:=hl7_1.len; omega) (List.mem_of_getElem? hx1) h254
  obtain ⟨x108,hx109⟩: ∃ y_,(df nb al m)[(x1.oH).toNat]? =some y_:=⟨(df nb al m)[(x1.oH).toNat]'(by omega),List.getElem?_eq_getElem _⟩
  have hx109m:((df nb al m).map iC)[(x1.oH).toNat]? =some (iC x108):=by rw [List.getElem?_map,hx109]; rfl
  refine rS (IA ((x1.oH).toNat) rfl (ak (n:=good.length) 4 rfl (by first|(simp; done)|(simp; omega))) di (by decide) (by omega) (by omega)) ?_
  have hb110:((df nb al m).set ((x1.oH).toNat) ((m:Nat):Int))=(df nb al (m+1)):=by exact uW hx1 h254
  refine dy (k:=(x1.oH).toNat) (o:=0) (vs:=[(Value.int .i64 ((m:Nat):Int))]) (es':=(List.map iC (df nb al (m+1)))) (C':=[_,_,_,_,(own gA gC 3 1 (List.map iC (df nb al (m+1)))),_,_,_,_,_,_,_,_]) 4 rfl rfl rfl uQ rfl rfl rfl rfl hx109m rfl (by decide) (by exact (List.map_set (f:=iC) (l:=(df nb al m)) (i:=(x1.oH).toNat) (a:=((m:Nat):Int))).symm.trans (congrArg _ hb110)) rfl<|aX<|aL<|KK hK100<|aC<|rS (BI rfl (a9 ⟨by omega,by omega⟩))<|rS (MV rfl)<|aX ?_
  have hb111:(Value.int .i64 (((m+1):Nat):Int))=(Value.int .i64 (((m:Nat):Int)+1)):=by exact congrArg (Value.int .i64) (by omega)
  refine aY (hJ96 ⟨((m+1),a105,c106),(by first|omega|(simp only []; omega))⟩ _ _ _ rfl (by first|omega|(simp; omega)) (an.cons rfl<|an.cons rfl<|an.cons rfl<|an.cons rfl<|an.cons rfl<|an.cons rfl<|an.cons rfl<|an.cons rfl<|a_ rfl hb111<|an.nil _) (fun w hs=>St.bB [2,3,4,5,6,7,8,9,10,11,12] rfl rfl hs))
 replace h54:=DT h54
 refine WK hK53<|aw fun _ hK55=>aH<|WS fun _ hK56=>rS (MV rfl)<|rS (AG rfl)<|RK hK56<|WS fun _ hK57=>rS (MV rfl)<|rS (AG rfl) ?_
 refine RK hK57<|aH ?_
 have hinit:(j≤j)∧(l7 l times nb i al)∧(al.length=al1.length):=by exact ⟨Nat.le_refl _,hl28_1,hl28_2⟩
 refine cP (ι:={z:Nat×(List bh) // (z.1≤j)∧(l7 l times nb i z.2)∧(z.2.length=al1.length)}) (fun z=>[(1,(Value.slice blA bl.length blC)),(2,(Value.pointer (some ⟨b2,0,none⟩))),(4,(Value.pointer (some ⟨b3,0,none⟩))),(5,(Value.slice tA times.length tC)),(6,(Value.slice gA good.length gC)),(7,(Value.bool false)),(12,(Value.slice uA al1.length uC)),(19,(Value.int .i64 ((j:Nat):Int))),(20,(Value.int .i64 ((z.1.1:Nat):Int))),(178,(Value.int .i64 ((al1.length:Nat):Int))),(179,(Value.int .i64 ((j:Nat):Int)))]) (fun z=>[(own uA uC 111 3 (z.1.2.map bh.cells)),(own gA gC 3 1 (good.map iC)),(own tA tC 3 1 (times.map iC)),(aU b3 31 (aN.cells (aN.mk st nw (aA.mk none 0 0)))),(aU b2 28 (aG.cells (aG.mk (ay.mk (aA.mk kA l.au.length kC)) l.bJ (aA.mk cA l.ag.length cC) (aA.mk bA l.aa.length bC) l.aB l.aZ l.aO))),(rd kA l.au.length 9 (l.au.map ah.cells)).ro,(rd cA l.ag.length 2 (List.zipWith ao.cells l.ag az)).ro,(c_ (aP ao.eX l.ag az)).ro,(rd bA l.aa.length 4 (l.aa.map aT.cells)).ro,(rd blA bl.length 1 (bl.map dP)).ro]) (fun z=>z.1.1) ⟨(j,al),hinit⟩ (an.cons rfl<|an.cons rfl<|an.cons rfl<|an.cons rfl<|an.cons rfl<|an.cons rfl<|an.cons rfl<|an.cons rfl<|an.cons rfl<|an.cons rfl<|an.cons rfl<|an.nil _) (fun w hs=>St.bB [0,1,2,3,4,5,6,7,8,9] rfl rfl hs) ?_
 clear hinit
 rintro ⟨⟨k,al2⟩,⟨hl31_0,hl31_1,hl31_2⟩⟩ J58 hJ58
 try dsimp only at hl31_0 hl31_1 hl31_2
 try dsimp only
 refine aw fun _ hK59=>WS fun _ hK60=>rS (MV rfl)<|rS (BI rfl eL)<|RK hK60 ?_
 refine bp rfl (fun h61=>?_) (fun h61=>?_)
 rotate_left 1
 ·replace h61:=DF h61
  refine bM<|ai<|ai<|aI<|aL<|KK hK55<|aC<|rS (BI rfl (a9 ⟨by omega,by omega⟩))<|rS (MV rfl)<|aX ?_
  have hb93:(Value.int .i64 (((j+1):Nat):Int))=(Value.int .i64 (((j:Nat):Int)+1)):=by exact congrArg (Value.int .i64) (by omega)
  refine aY (hJ51 ⟨((j+1),al2),⟨by omega,hl31_1,hl31_2⟩⟩ _ _ _ rfl (by first|omega|(simp; omega)) (an.cons rfl<|an.cons rfl<|an.cons rfl<|an.cons rfl<|an.cons rfl<|an.cons rfl<|an.cons rfl<|an.cons rfl<|a_ rfl hb93<|an.nil _) (fun w hs=>St.bB [0,1,2,3,4,5,6,7,8,9] rfl rfl hs))
 replace h61:=DT h61
 refine WK hK59<|aw fun _ hK62=>aH<|aw fun _ hK63=>lK ct [0,1,2,3,4,5,6,7,8,9,10] [11,12,13,14] [false,false,false,false,false,false,false,false,false,false,false] [] [(own uA uC 111 3 (al2.map bh.cells)),(own gA gC 3 1 (good.map iC)),(own tA tC 3 1 (times.map iC)),(aU b3 31 (aN.cells (aN.mk st nw (aA.mk none 0 0)))),(aU b2 28 (aG.cells (aG.mk (ay.mk (aA.mk kA l.au.length kC)) l.bJ (aA.mk cA l.ag.length cC) (aA.mk bA l.aa.length bC) l.aB l.aZ l.aO))),(rd kA l.au.length 9 (l.au.map ah.cells)).ro,(rd cA l.ag.length 2 (List.zipWith ao.cells l.ag az)).ro,(c_ (aP ao.eX l.ag az)).ro,(rd bA l.aa.length 4 (l.aa.map aT.cells)).ro,(rd blA bl.length 1 (bl.map dP)).ro] [] (by kernel_rfl) (fun w hs=>St.bB [0,1,2,3,4,5,6,7,8,9] rfl rfl hs) (fun w hs=>St.bB [] rfl rfl hs)<|eS rfl (MV rfl)<|eS rfl (MV rfl)<|eS rfl (BI rfl (cr ⟨by omega,by omega⟩)) ?_
 obtain ⟨x1,hx1⟩: ∃ y_,al2[(k-1)]? =some y_:=⟨al2[(k-1)]'(by omega),List.getElem?_eq_getElem _⟩
 have hx1m:(al2.map bh.cells)[(k-1)]? =some (bh.cells x1):=by rw [List.getElem?_map,hx1]; rfl
 refine eS rfl (IA (k-1) rfl (ak (n:=al1.length) 0 rfl (by first|(simp; done)|(simp; omega))) h_ (by decide) (by omega) (by omega))<|eS rfl (qP ((k-1)*3) rfl (ak (n:=al2.length) 0 rfl (by simp)) (Nat.mul_pos (by omega) (by decide)) sW rfl)<|eS rfl (kE (k-1) 0 (av.cells x1.bQ) rfl iI (ak (n:=al2.length) 0 rfl (by simp)) hx1m rfl (by decide) rfl rfl)<|eS rfl (MV rfl)<|eS rfl (MV rfl) ?_
 obtain ⟨x2,hx2⟩: ∃ y_,al2[k]? =some y_:=⟨al2[k]'(by omega),List.getElem?_eq_getElem _⟩
 have hx2m:(al2.map bh.cells)[k]? =some (bh.cells x2):=by rw [List.getElem?_map,hx2]; rfl
 refine eS rfl (IA k rfl (ak (n:=al1.length) 0 rfl (by first|(simp; done)|(simp; omega))) h_ (by decide) (by omega) (by omega))<|eS rfl (qP (k*3) rfl (ak (n:=al2.length) 0 rfl (by simp)) (Nat.mul_pos (by omega) (by decide)) sW rfl)<|eS rfl (kE k 0 (av.cells x2.bQ) rfl iI (ak (n:=al2.length) 0 rfl (by simp)) hx2m rfl (by decide) rfl rfl)<|eJ rfl ?_
 refine kH [11,12] (by kernel_rfl) (gr ?_<|gr ?_<|nx)
 rotate_left 1
 ·refine NO rfl rfl [11,13,14] fun T64 hT64=>?_
  refine AL rfl qe fun b65=>RD hT64 1 rfl<|N1 11<|NO rfl rfl [13,14] fun T66 hT66=>AL rfl qe fun b67=>RD hT66 2 rfl<|N1 13<|NO rfl rfl [14] fun T68 hT68=>e7 rfl mJ rfl<|RD hT68 2 rfl ?_
  refine N1 14<|NO rfl rfl [] fun T69 hT69=>oL rfl mJ rfl<|RD hT69 2 rfl<|kD<|KK hK63<|aw fun _ hK70=>WS fun _ hK71=>rS (FA 0 rfl ei rfl)<|rS (L1 (Value.int .i64 x1.bQ.cy) 0 rfl bk rfl rfl) ?_
  refine rS (FA 0 rfl ei rfl)<|rS (L1 (Value.int .i64 x2.bQ.cy) 1 rfl bk rfl rfl)<|rS (BI rfl cq)<|rS (MV rfl) ?_
  refine bo (t:=203) rfl (fun h203=>?_) (fun h203=>?_)
  ·replace h203:=DT h203
   refine rS (OX rfl)<|rS (OX rfl)<|rS (OX rfl)<|rS (OX rfl)<|rS (OX rfl)<|rS (OX rfl)<|rS (OX rfl)<|rS (OX rfl)<|rS (OX rfl)<|rS (OX rfl) ?_
   refine rS (OX rfl)<|rS (OX rfl)<|rS (PK rfl)<|RK hK71<|aW rfl<|bM<|ai<|dZ rfl<|ai<|ai ?_
   refine aI<|aL<|KK hK55<|aC<|rS (BI rfl (a9 ⟨by omega,by omega⟩))<|rS (MV rfl)<|aX ?_
   have hb72:(Value.int .i64 (((j+1):Nat):Int))=(Value.int .i64 (((j:Nat):Int)+1)):=by exact congrArg (Value.int .i64) (by omega)
   refine aY (hJ51 ⟨((j+1),al2),⟨by omega,hl31_1,hl31_2⟩⟩ _ _ _ rfl (by first|omega|(simp; omega)) (an.cons rfl<|an.cons rfl<|an.cons rfl<|an.cons rfl<|an.cons rfl<|an.cons rfl<|an.cons rfl<|an.cons rfl<|a_ rfl hb72<|an.nil _) (fun w hs=>St.bB [2,3,4,5,6,7,8,9,10,11] rfl rfl hs))
  replace h203:=DF h203
  refine rS (FA 0 rfl ei rfl)<|rS (L1 (Value.int .i64 x1.bQ.cy) 0 rfl bk rfl rfl)<|rS (FA 0 rfl ei rfl)<|rS (L1 (Value.int .i64 x2.bQ.cy) 1 rfl bk rfl rfl)<|rS (BI rfl eC)<|rS (MV rfl) ?_
  refine bo (t:=209) rfl (fun h73=>?_) (fun h73=>?_)
  rotate_left 1
  ·replace h73:=DF h73
   refine rS (OX rfl)<|rS (OX rfl)<|rS (OX rfl)<|rS (OX rfl)<|rS (OX rfl)<|rS (PK rfl)<|rS (PK rfl)<|RK hK71<|bH rfl<|WK hK70 ?_
   refine aw fun _ hK84=>WS fun _ hK85=>rS (LW 0 rfl iI rfl rfl)<|rS (LW 1 rfl iI rfl rfl)<|rS (BI rfl (vE _ _ x1.bQ x2.bQ))<|RK hK85 ?_
   refine bp rfl (fun h219=>?_) (fun h219=>?_)
   ·replace h219:=DT h219
    refine WS fun _ hK86=>rS (LW 5 rfl gE rfl rfl)<|AU rfl rk rfl<|rS (AG rfl)<|rS (AG rfl)<|rS (AG rfl)<|RK hK86<|aE ?_
    refine hQ _ _ _ (bD (vs:=[(Value.agg (aN.cells (aN.mk st nw (aA.mk none 0 0))).toArray),(Value.slice none 0 0),(Value.slice none 0 0),(Value.bool false)]) ⟨⟨_,rfl,.inl ⟨_,_,gE,cd (vs:=(aN.cells (aN.mk st nw (aA.mk none 0 0)))) 5 rfl rfl,rfl,rfl⟩⟩,rfl,rfl,rfl,trivial⟩ fun w hs=>fj (false,0,st,nw,[],none,0,[],none,0,[],none,0) [] ?_ ?_ rfl rfl rfl hs)
    ·rfl
    ·exact ⟨fun q=>Bool.noConfusion (show false=true from q),fun _=>⟨rfl,trivial⟩⟩
   replace h219:=DF h219
   refine WK hK84<|dA ct [0,1,2,3,4,5,6,7,8,9,10,11,12,13,14] [15,16,17] [false,false,false,false,false,false,false,true,true,false,false,false,true,true,true] [false,false,false] [(aU b67 67 (av.cells x1.bQ)),(aU b65 67 (av.cells x2.bQ)),(own gA gC 3 1 (good.map iC)),(own tA tC 3 1 (times.map iC)),(aU b3 31 (aN.cells (aN.mk st nw (aA.mk none 0 0)))),(aU b2 28 (aG.cells (aG.mk (ay.mk (aA.mk kA l.au.length kC)) l.bJ (aA.mk cA l.ag.length cC) (aA.mk bA l.aa.length bC) l.aB l.aZ l.aO))),(rd kA l.au.length 9 (l.au.map ah.cells)).ro,(rd cA l.ag.length 2 (List.zipWith ao.cells l.ag az)).ro,(c_ (aP ao.eX l.ag az)).ro,(rd bA l.aa.length 4 (l.aa.map aT.cells)).ro,(rd blA bl.length 1 (bl.map dP)).ro] [(aU b67 67 (av.cells x1.bQ)),(aU b65 67 (av.cells x2.bQ)),(own uA uC 111 3 (al2.map bh.cells)),(own gA gC 3 1 (good.map iC)),(own tA tC 3 1 (times.map iC)),(aU b3 31 (aN.cells (aN.mk st nw (aA.mk none 0 0)))),(aU b2 28 (aG.cells (aG.mk (ay.mk (aA.mk kA l.au.length kC)) l.bJ (aA.mk cA l.ag.length cC) (aA.mk bA l.aa.length bC) l.aB l.aZ l.aO))),(rd kA l.au.length 9 (l.au.map ah.cells)).ro,(rd cA l.ag.length 2 (List.zipWith ao.cells l.ag az)).ro,(c_ (aP ao.eX l.ag az)).ro,(rd bA l.aa.length 4 (l.aa.map aT.cells)).ro,(rd blA bl.length 1 (bl.map dP)).ro] (by kernel_rfl) (fun w hs=>St.bB [0,1,3,4,5,6,7,8,9,10,11] rfl rfl hs) (fun w hs=>St.bB [0,1,2,3,4,5,6,7,8,9,10,11] rfl rfl hs)<|eS rfl (MV rfl)<|eS rfl (MV rfl)<|eS rfl (BI rfl (cr ⟨by omega,by omega⟩))<|eS rfl (MV rfl)<|eS rfl (MV rfl)<|eS rfl (MV rfl)<|eS rfl (MV rfl)<|fS rfl (IA k rfl (ak (n:=al1.length) 2 rfl (by first|(simp; done)|(simp; omega))) h_ (by decide) (by omega) (by omega)) ?_
   refine fS rfl (kE k 0 (bh.cells x2) rfl nu (ak (n:=al2.length) 2 rfl (by simp)) hx2m rfl (by decide) rfl rfl)<|eS rfl (MV rfl)<|eS rfl (MV rfl)<|eS rfl (BI rfl (cr ⟨by omega,by omega⟩))<|fS rfl (IA (k-1) rfl (ak (n:=al1.length) 2 rfl (by first|(simp; done)|(simp; omega))) h_ (by decide) (by omega) (by omega))<|fS rfl (kE (k-1) 0 (bh.cells x1) rfl nu (ak (n:=al2.length) 2 rfl (by simp)) hx1m rfl (by decide) rfl rfl)<|fS rfl (IA (k-1) rfl (ak (n:=al1.length) 2 rfl (by first|(simp; done)|(simp; omega))) h_ (by decide) (by omega) (by omega))<|eJ rfl<|cf rfl fun T87 hT87=>dy (k:=(k-1)) (o:=0) (vs:=(bh.cells x2)) (es':=(List.map bh.cells (al2.set (k-1) x2))) (C':=[_,_,(own uA uC 111 3 (List.map bh.cells (al2.set (k-1) x2))),_,_,_,_,_,_,_,_,_]) 2 rfl rfl rfl oE rfl rfl rfl rfl hx1m rfl (by decide) (by exact (List.map_set (f:=bh.cells) (l:=al2) (i:=(k-1)) (a:=x2)).symm) rfl ?_
   refine RN hT87 [0,1,3,4,5,6,7,8,9,10,11] rfl rfl<|cf rfl fun T88 hT88=>?_
   obtain ⟨x89,hx90⟩: ∃ y_,(al2.set (k-1) x2)[k]? =some y_:=⟨(al2.set (k-1) x2)[k]'(by first|omega|(simp; omega)),List.getElem?_eq_getElem _⟩
   have hx90m:(List.map bh.cells (al2.set (k-1) x2))[k]? =some (bh.cells x89):=by rw [List.getElem?_map,hx90]; rfl
   refine rS (IA k rfl (ak (n:=al1.length) 2 rfl (by first|(simp; done)|(simp; omega))) h_ (by decide) (by omega) (by omega))<|RN hT88 [0,1,3,4,5,6,7,8,9,10,11] rfl rfl<|cf rfl fun T91 hT91=>dy (k:=k) (o:=0) (vs:=(bh.cells x1)) (es':=(List.map bh.cells ((al2.set (k-1) x2).set k x1))) (C':=[_,_,(own uA uC 111 3 (List.map bh.cells ((al2.set (k-1) x2).set k x1))),_,_,_,_,_,_,_,_,_]) 2 rfl rfl rfl oE rfl rfl rfl rfl hx90m rfl (by decide) (by exact (List.map_set (f:=bh.cells) (l:=(al2.set (k-1) x2)) (i:=k) (a:=x1)).symm) rfl<|RN hT91 [0,1,3,4,5,6,7,8,9,10,11] rfl rfl<|fJ rfl<|aL<|KK hK62<|aC<|rS (MV rfl) ?_
   refine rS (BI rfl (cr ⟨by omega,by omega⟩))<|rS (AG rfl)<|aX ?_
   have hb92:(Value.int .i64 (((k-1):Nat):Int))=(Value.int .i64 (((k:Nat):Int)-1)):=by exact congrArg (Value.int .i64) (by omega)
   refine aY (hJ58 ⟨((k-1),((al2.set (k-1) x2).set k x1)),⟨by omega,hl31_1.perm (lY (by omega) hx1 hx2),by simp [hl31_2]⟩⟩ _ _ _ rfl (by first|omega|(simp; omega)) (an.cons rfl<|an.cons rfl<|an.cons rfl<|an.cons rfl<|an.cons rfl<|an.cons rfl<|an.cons rfl<|an.cons rfl<|a_ rfl hb92<|an.cons rfl<|an.cons rfl<|an.nil _) (fun w hs=>St.bB [2,3,4,5,6,7,8,9,10,11] rfl rfl hs))
  replace h73:=DT h73
  refine rS (FA 1 rfl hZ rfl)<|rS (L1 (Value.int .i64 x1.bQ.Read) 0 rfl bk rfl rfl)<|rS (FA 1 rfl hZ rfl)<|rS (L1 (Value.int .i64 x2.bQ.Read) 1 rfl bk rfl rfl)<|rS (BI rfl cq)<|rS (PK rfl)<|rS (PK rfl)<|RK hK71 ?_
  refine bp rfl (fun h216=>?_) (fun h216=>?_)
  ·replace h216:=DT h216
   refine bM<|ai<|dZ rfl<|ai<|ai<|aI<|aL<|KK hK55<|aC<|rS (BI rfl (a9 ⟨by omega,by omega⟩)) ?_
   refine rS (MV rfl)<|aX ?_
   have hb74:(Value.int .i64 (((j+1):Nat):Int))=(Value.int .i64 (((j:Nat):Int)+1)):=by exact congrArg (Value.int .i64) (by omega)
   refine aY (hJ51 ⟨((j+1),al2),⟨by omega,hl31_1,hl31_2⟩⟩ _ _ _ rfl (by first|omega|(simp; omega)) (an.cons rfl<|an.cons rfl<|an.cons rfl<|an.cons rfl<|an.cons rfl<|an.cons rfl<|an.cons rfl<|an.cons rfl<|a_ rfl hb74<|an.nil _) (fun w hs=>St.bB [2,3,4,5,6,7,8,9,10,11] rfl rfl hs))
  replace h216:=DF h216
  refine WK hK70<|aw fun _ hK75=>WS fun _ hK76=>rS (LW 0 rfl iI rfl rfl)<|rS (LW 1 rfl iI rfl rfl)<|rS (BI rfl (vE _ _ x1.bQ x2.bQ))<|RK hK76 ?_
  refine bp rfl (fun h219=>?_) (fun h219=>?_)
  ·replace h219:=DT h219
   refine WS fun _ hK77=>rS (LW 5 rfl gE rfl rfl)<|AU rfl rk rfl<|rS (AG rfl)<|rS (AG rfl)<|rS (AG rfl)<|RK hK77<|aE ?_
   refine hQ _ _ _ (bD (vs:=[(Value.agg (aN.cells (aN.mk st nw (aA.mk none 0 0))).toArray),(Value.slice none 0 0),(Value.slice none 0 0),(Value.bool false)]) ⟨⟨_,rfl,.inl ⟨_,_,gE,cd (vs:=(aN.cells (aN.mk st nw (aA.mk none 0 0)))) 5 rfl rfl,rfl,rfl⟩⟩,rfl,rfl,rfl,trivial⟩ fun w hs=>fj (false,0,st,nw,[],none,0,[],none,0,[],none,0) [] ?_ ?_ rfl rfl rfl hs)
   ·rfl
   ·exact ⟨fun q=>Bool.noConfusion (show false=true from q),fun _=>⟨rfl,trivial⟩⟩
  replace h219:=DF h219
  refine WK hK75<|dA ct [0,1,2,3,4,5,6,7,8,9,10,11,12,13,14] [15,16,17] [false,false,false,false,false,false,false,true,true,false,false,false,true,true,true] [false,false,false] [(aU b67 67 (av.cells x1.bQ)),(aU b65 67 (av.cells x2.bQ)),(own gA gC 3 1 (good.map iC)),(own tA tC 3 1 (times.map iC)),(aU b3 31 (aN.cells (aN.mk st nw (aA.mk none 0 0)))),(aU b2 28 (aG.cells (aG.mk (ay.mk (aA.mk kA l.au.length kC)) l.bJ (aA.mk cA l.ag.length cC) (aA.mk bA l.aa.length bC) l.aB l.aZ l.aO))),(rd kA l.au.length 9 (l.au.map ah.cells)).ro,(rd cA l.ag.length 2 (List.zipWith ao.cells l.ag az)).ro,(c_ (aP ao.eX l.ag az)).ro,(rd bA l.aa.length 4 (l.aa.map aT.cells)).ro,(rd blA bl.length 1 (bl.map dP)).ro] [(aU b67 67 (av.cells x1.bQ)),(aU b65 67 (av.cells x2.bQ)),(own uA uC 111 3 (al2.map bh.cells)),(own gA gC 3 1 (good.map iC)),(own tA tC 3 1 (times.map iC)),(aU b3 31 (aN.cells (aN.mk st nw (aA.mk none 0 0)))),(aU b2 28 (aG.cells (aG.mk (ay.mk (aA.mk kA l.au.length kC)) l.bJ (aA.mk cA l.ag.length cC) (aA.mk bA l.aa.length bC) l.aB l.aZ l.aO))),(rd kA l.au.length 9 (l.au.map ah.cells)).ro,(rd cA l.ag.length 2 (List.zipWith ao.cells l.ag az)).ro,(c_ (aP ao.eX l.ag az)).ro,(rd bA l.aa.length 4 (l.aa.map aT.cells)).ro,(rd blA bl.length 1 (bl.map dP)).ro] (by kernel_rfl) (fun w hs=>St.bB [0,1,3,4,5,6,7,8,9,10,11] rfl rfl hs) (fun w hs=>St.bB [0,1,2,3,4,5,6,7,8,9,10,11] rfl rfl hs)<|eS rfl (MV rfl)<|eS rfl (MV rfl)<|eS rfl (BI rfl (cr ⟨by omega,by omega⟩))<|eS rfl (MV rfl)<|eS rfl (MV rfl)<|eS rfl (MV rfl)<|eS rfl (MV rfl)<|fS rfl (IA k rfl (ak (n:=al1.length) 2 rfl (by first|(simp; done)|(simp; omega))) h_ (by decide) (by omega) (by omega)) ?_
  refine fS rfl (kE k 0 (bh.cells x2) rfl nu (ak (n:=al2.length) 2 rfl (by simp)) hx2m rfl (by decide) rfl rfl)<|eS rfl (MV rfl)<|eS rfl (MV rfl)<|eS rfl (BI rfl (cr ⟨by omega,by omega⟩))<|fS rfl (IA (k-1) rfl (ak (n:=al1.length) 2 rfl (by first|(simp; done)|(simp; omega))) h_ (by decide) (by omega) (by omega))<|fS rfl (kE (k-1) 0 (bh.cells x1) rfl nu (ak (n:=al2.length) 2 rfl (by simp)) hx1m rfl (by decide) rfl rfl)<|fS rfl (IA (k-1) rfl (ak (n:=al1.length) 2 rfl (by first|(simp; done)|(simp; omega))) h_ (by decide) (by omega) (by omega))<|eJ rfl<|cf rfl fun T78 hT78=>dy (k:=(k-1)) (o:=0) (vs:=(bh.cells x2)) (es':=(List.map bh.cells (al2.set (k-1) x2))) (C':=[_,_,(own uA uC 111 3 (List.map bh.cells (al2.set (k-1) x2))),_,_,_,_,_,_,_,_,_]) 2 rfl rfl rfl oE rfl rfl rfl rfl hx1m rfl (by decide) (by exact (List.map_set (f:=bh.cells) (l:=al2) (i:=(k-1)) (a:=x2)).symm) rfl ?_
  refine RN hT78 [0,1,3,4,5,6,7,8,9,10,11] rfl rfl<|cf rfl fun T79 hT79=>?_
  obtain ⟨x80,hx81⟩: ∃ y_,(al2.set (k-1) x2)[k]? =some y_:=⟨(al2.set (k-1) x2)[k]'(by first|omega|(simp; omega)),List.getElem?_eq_getElem _⟩
  have hx81m:(List.map bh.cells (al2.set (k-1) x2))[k]? =some (bh.cells x80):=by rw [List.getElem?_map,hx81]; rfl
  refine rS (IA k rfl (ak (n:=al1.length) 2 rfl (by first|(simp; done)|(simp; omega))) h_ (by decide) (by omega) (by omega))<|RN hT79 [0,1,3,4,5,6,7,8,9,10,11] rfl rfl<|cf rfl fun T82 hT82=>dy (k:=k) (o:=0) (vs:=(bh.cells x1)) (es':=(List.map bh.cells ((al2.set (k-1) x2).set k x1))) (C':=[_,_,(own uA uC 111 3 (List.map bh.cells ((al2.set (k-1) x2).set k x1))),_,_,_,_,_,_,_,_,_]) 2 rfl rfl rfl oE rfl rfl rfl rfl hx81m rfl (by decide) (by exact (List.map_set (f:=bh.cells) (l:=(al2.set (k-1) x2)) (i:=k) (a:=x1)).symm) rfl<|RN hT82 [0,1,3,4,5,6,7,8,9,10,11] rfl rfl<|fJ rfl<|aL<|KK hK62<|aC<|rS (MV rfl) ?_
  refine rS (BI rfl (cr ⟨by omega,by omega⟩))<|rS (AG rfl)<|aX ?_
  have hb83:(Value.int .i64 (((k-1):Nat):Int))=(Value.int .i64 (((k:Nat):Int)-1)):=by exact congrArg (Value.int .i64) (by omega)
  refine aY (hJ58 ⟨((k-1),((al2.set (k-1) x2).set k x1)),⟨by omega,hl31_1.perm (lY (by omega) hx1 hx2),by simp [hl31_2]⟩⟩ _ _ _ rfl (by first|omega|(simp; omega)) (an.cons rfl<|an.cons rfl<|an.cons rfl<|an.cons rfl<|an.cons rfl<|an.cons rfl<|an.cons rfl<|an.cons rfl<|a_ rfl hb83<|an.cons rfl<|an.cons rfl<|an.nil _) (fun w hs=>St.bB [2,3,4,5,6,7,8,9,10,11] rfl rfl hs))
 refine NO rfl rfl [12,13,14] fun T64 hT64=>AL rfl qe fun b65=>RD hT64 1 rfl<|N1 12<|NO rfl rfl [13,14] fun T66 hT66=>AL rfl qe fun b67=>RD hT66 2 rfl<|N1 13<|NO rfl rfl [14] fun T68 hT68=>oL rfl mJ rfl ?_
 refine RD hT68 2 rfl<|N1 14<|NO rfl rfl [] fun T69 hT69=>e7 rfl mJ rfl<|RD hT69 2 rfl<|kD<|KK hK63<|aw fun _ hK70=>WS fun _ hK71=>rS (FA 0 rfl ei rfl) ?_
 refine rS (L1 (Value.int .i64 x1.bQ.cy) 1 rfl bk rfl rfl)<|rS (FA 0 rfl ei rfl)<|rS (L1 (Value.int .i64 x2.bQ.cy) 0 rfl bk rfl rfl)<|rS (BI rfl cq)<|rS (MV rfl) ?_
 refine bo (t:=203) rfl (fun h203=>?_) (fun h203=>?_)
 ·replace h203:=DT h203
  refine rS (OX rfl)<|rS (OX rfl)<|rS (OX rfl)<|rS (OX rfl)<|rS (OX rfl)<|rS (OX rfl)<|rS (OX rfl)<|rS (OX rfl)<|rS (OX rfl)<|rS (OX rfl) ?_
  refine rS (OX rfl)<|rS (OX rfl)<|rS (PK rfl)<|RK hK71<|aW rfl<|bM<|ai<|dZ rfl<|ai<|ai ?_
  refine aI<|aL<|KK hK55<|aC<|rS (BI rfl (a9 ⟨by omega,by omega⟩))<|rS (MV rfl)<|aX ?_
  have hb72:(Value.int .i64 (((j+1):Nat):Int))=(Value.int .i64 (((j:Nat):Int)+1)):=by exact congrArg (Value.int .i64) (by omega)
  refine aY (hJ51 ⟨((j+1),al2),⟨by omega,hl31_1,hl31_2⟩⟩ _ _ _ rfl (by first|omega|(simp; omega)) (an.cons rfl<|an.cons rfl<|an.cons rfl<|an.cons rfl<|an.cons rfl<|an.cons rfl<|an.cons rfl<|an.cons rfl<|a_ rfl hb72<|an.nil _) (fun w hs=>St.bB [2,3,4,5,6,7,8,9,10,11] rfl rfl hs))
 replace h203:=DF h203
 refine rS (FA 0 rfl ei rfl)<|rS (L1 (Value.int .i64 x1.bQ.cy) 1 rfl bk rfl rfl)<|rS (FA 0 rfl ei rfl)<|rS (L1 (Value.int .i64 x2.bQ.cy) 0 rfl bk rfl rfl)<|rS (BI rfl eC)<|rS (MV rfl) ?_
 refine bo (t:=209) rfl (fun h73=>?_) (fun h73=>?_)
 rotate_left 1
 ·replace h73:=DF h73
  refine rS (OX rfl)<|rS (OX rfl)<|rS (OX rfl)<|rS (OX rfl)<|rS (OX rfl)<|rS (PK rfl)<|rS (PK rfl)<|RK hK71<|bH rfl<|WK hK70 ?_
  refine aw fun _ hK84=>WS fun _ hK85=>rS (LW 1 rfl iI rfl rfl)<|rS (LW 0 rfl iI rfl rfl)<|rS (BI rfl (vE _ _ x1.bQ x2.bQ))<|RK hK85 ?_
  refine bp rfl (fun h219=>?_) (fun h219=>?_)
  ·replace h219:=DT h219
   refine WS fun _ hK86=>rS (LW 5 rfl gE rfl rfl)<|AU rfl rk rfl<|rS (AG rfl)<|rS (AG rfl)<|rS (AG rfl)<|RK hK86<|aE ?_
   refine hQ _ _ _ (bD (vs:=[(Value.agg (aN.cells (aN.mk st nw (aA.mk none 0 0))).toArray),(Value.slice none 0 0),(Value.slice none 0 0),(Value.bool false)]) ⟨⟨_,rfl,.inl ⟨_,_,gE,cd (vs:=(aN.cells (aN.mk st nw (aA.mk none 0 0)))) 5 rfl rfl,rfl,rfl⟩⟩,rfl,rfl,rfl,trivial⟩ fun w hs=>fj (false,0,st,nw,[],none,0,[],none,0,[],none,0) [] ?_ ?_ rfl rfl rfl hs)
   ·rfl
   ·exact ⟨fun q=>Bool.noConfusion (show false=true from q),fun _=>⟨rfl,trivial⟩⟩
  replace h219:=DF h219
  refine WK hK84<|dA ct [0,1,2,3,4,5,6,7,8,9,10,11,12,13,14] [15,16,17] [false,false,false,false,false,false,false,true,true,false,false,false,true,true,true] [false,false,false] [(aU b67 67 (av.cells x2.bQ)),(aU b65 67 (av.cells x1.bQ)),(own gA gC 3 1 (good.map iC)),(own tA tC 3 1 (times.map iC)),(aU b3 31 (aN.cells (aN.mk st nw (aA.mk none 0 0)))),(aU b2 28 (aG.cells (aG.mk (ay.mk (aA.mk kA l.au.length kC)) l.bJ (aA.mk cA l.ag.length cC) (aA.mk bA l.aa.length bC) l.aB l.aZ l.aO))),(rd kA l.au.length 9 (l.au.map ah.cells)).ro,(rd cA l.ag.length 2 (List.zipWith ao.cells l.ag az)).ro,(c_ (aP ao.eX l.ag az)).ro,(rd bA l.aa.length 4 (l.aa.map aT.cells)).ro,(rd blA bl.length 1 (bl.map dP)).ro] [(aU b67 67 (av.cells x2.bQ)),(aU b65 67 (av.cells x1.bQ)),(own uA uC 111 3 (al2.map bh.cells)),(own gA gC 3 1 (good.map iC)),(own tA tC 3 1 (times.map iC)),(aU b3 31 (aN.cells (aN.mk st nw (aA.mk none 0 0)))),(aU b2 28 (aG.cells (aG.mk (ay.mk (aA.mk kA l.au.length kC)) l.bJ (aA.mk cA l.ag.length cC) (aA.mk bA l.aa.length bC) l.aB l.aZ l.aO))),(rd kA l.au.length 9 (l.au.map ah.cells)).ro,(rd cA l.ag.length 2 (List.zipWith ao.cells l.ag az)).ro,(c_ (aP ao.eX l.ag az)).ro,(rd bA l.aa.length 4 (l.aa.map aT.cells)).ro,(rd blA bl.length 1 (bl.map dP)).ro] (by kernel_rfl) (fun w hs=>St.bB [0,1,3,4,5,6,7,8,9,10,11] rfl rfl hs) (fun w hs=>St.bB [0,1,2,3,4,5,6,7,8,9,10,11] rfl rfl hs)<|eS rfl (MV rfl)<|eS rfl (MV rfl)<|eS rfl (BI rfl (cr ⟨by omega,by omega⟩))<|eS rfl (MV rfl)<|eS rfl (MV rfl)<|eS rfl (MV rfl)<|eS rfl (MV rfl)<|fS rfl (IA k rfl (ak (n:=al1.length) 2 rfl (by first|(simp; done)|(simp; omega))) h_ (by decide) (by omega) (by omega)) ?_
  refine fS rfl (kE k 0 (bh.cells x2) rfl nu (ak (n:=al2.length) 2 rfl (by simp)) hx2m rfl (by decide) rfl rfl)<|eS rfl (MV rfl)<|eS rfl (MV rfl)<|eS rfl (BI rfl (cr ⟨by omega,by omega⟩))<|fS rfl (IA (k-1) rfl (ak (n:=al1.length) 2 rfl (by first|(simp; done)|(simp; omega))) h_ (by decide) (by omega) (by omega))<|fS rfl (kE (k-1) 0 (bh.cells x1) rfl nu (ak (n:=al2.length) 2 rfl (by simp)) hx1m rfl (by decide) rfl rfl)<|fS rfl (IA (k-1) rfl (ak (n:=al1.length) 2 rfl (by first|(simp; done)|(simp; omega))) h_ (by decide) (by omega) (by omega))<|eJ rfl<|cf rfl fun T87 hT87=>dy (k:=(k-1)) (o:=0) (vs:=(bh.cells x2)) (es':=(List.map bh.cells (al2.set (k-1) x2))) (C':=[_,_,(own uA uC 111 3 (List.map bh.cells (al2.set (k-1) x2))),_,_,_,_,_,_,_,_,_]) 2 rfl rfl rfl oE rfl rfl rfl rfl hx1m rfl (by decide) (by exact (List.map_set (f:=bh.cells) (l:=al2) (i:=(k-1)) (a:=x2)).symm) rfl ?_
  refine RN hT87 [0,1,3,4,5,6,7,8,9,10,11] rfl rfl<|cf rfl fun T88 hT88=>?_
  obtain ⟨x89,hx90⟩: ∃ y_,(al2.set (k-1) x2)[k]? =some y_:=⟨(al2.set (k-1) x2)[k]'(by first|omega|(simp; omega)),List.getElem?_eq_getElem _⟩
  have hx90m:(List.map bh.cells (al2.set (k-1) x2))[k]? =some (bh.cells x89):=by rw [List.getElem?_map,hx90]; rfl
  refine rS (IA k rfl (ak (n:=al1.length) 2 rfl (by first|(simp; done)|(simp; omega))) h_ (by decide) (by omega) (by omega))<|RN hT88 [0,1,3,4,5,6,7,8,9,10,11] rfl rfl<|cf rfl fun T91 hT91=>dy (k:=k) (o:=0) (vs:=(bh.cells x1)) (es':=(List.map bh.cells ((al2.set (k-1) x2).set k x1))) (C':=[_,_,(own uA uC 111 3 (List.map bh.cells ((al2.set (k-1) x2).set k x1))),_,_,_,_,_,_,_,_,_]) 2 rfl rfl rfl oE rfl rfl rfl rfl hx90m rfl (by decide) (by exact (List.map_set (f:=bh.cells) (l:=(al2.set (k-1) x2)) (i:=k) (a:=x1)).symm) rfl<|RN hT91 [0,1,3,4,5,6,7,8,9,10,11] rfl rfl<|fJ rfl<|aL<|KK hK62<|aC<|rS (MV rfl) ?_
  refine rS (BI rfl (cr ⟨by omega,by omega⟩))<|rS (AG rfl)<|aX ?_
  have hb92:(Value.int .i64 (((k-1):Nat):Int))=(Value.int .i64 (((k:Nat):Int)-1)):=by exact congrArg (Value.int .i64) (by omega)
  refine aY (hJ58 ⟨((k-1),((al2.set (k-1) x2).set k x1)),⟨by omega,hl31_1.perm (lY (by omega) hx1 hx2),by simp [hl31_2]⟩⟩ _ _ _ rfl (by first|omega|(simp; omega)) (an.cons rfl<|an.cons rfl<|an.cons rfl<|an.cons rfl<|an.cons rfl<|an.cons rfl<|an.cons rfl<|an.cons rfl<|a_ rfl hb92<|an.cons rfl<|an.cons rfl<|an.nil _) (fun w hs=>St.bB [2,3,4,5,6,7,8,9,10,11] rfl rfl hs))
 replace h73:=DT h73
 refine rS (FA 1 rfl hZ rfl)<|rS (L1 (Value.int .i64 x1.bQ.Read) 1 rfl bk rfl rfl)<|rS (FA 1 rfl hZ rfl)<|rS (L1 (Value.int .i64 x2.bQ.Read) 0 rfl bk rfl rfl)<|rS (BI rfl cq)<|rS (PK rfl)<|rS (PK rfl)<|RK hK71 ?_
 refine bp rfl (fun h216=>?_) (fun h216=>?_)
 ·replace h216:=DT h216
  refine bM<|ai<|dZ rfl<|ai<|ai<|aI<|aL<|KK hK55<|aC<|rS (BI rfl (a9 ⟨by omega,by omega⟩)) ?_
  refine rS (MV rfl)<|aX ?_
  have hb74:(Value.int .i64 (((j+1):Nat):Int))=(Value.int .i64 (((j:Nat):Int)+1)):=by exact congrArg (Value.int .i64) (by omega)
  refine aY (hJ51 ⟨((j+1),al2),⟨by omega,hl31_1,hl31_2⟩⟩ _ _ _ rfl (by first|omega|(simp; omega)) (an.cons rfl<|an.cons rfl<|an.cons rfl<|an.cons rfl<|an.cons rfl<|an.cons rfl<|an.cons rfl<|an.cons rfl<|a_ rfl hb74<|an.nil _) (fun w hs=>St.bB [2,3,4,5,6,7,8,9,10,11] rfl rfl hs))
 replace h216:=DF h216
 refine WK hK70<|aw fun _ hK75=>WS fun _ hK76=>rS (LW 1 rfl iI rfl rfl)<|rS (LW 0 rfl iI rfl rfl)<|rS (BI rfl (vE _ _ x1.bQ x2.bQ))<|RK hK76 ?_
 refine bp rfl (fun h219=>?_) (fun h219=>?_)
 ·replace h219:=DT h219
  refine WS fun _ hK77=>rS (LW 5 rfl gE rfl rfl)<|AU rfl rk rfl<|rS (AG rfl)<|rS (AG rfl)<|rS (AG rfl)<|RK hK77<|aE ?_
  refine hQ _ _ _ (bD (vs:=[(Value.agg (aN.cells (aN.mk st nw (aA.mk none 0 0))).toArray),(Value.slice none 0 0),(Value.slice none 0 0),(Value.bool false)]) ⟨⟨_,rfl,.inl ⟨_,_,gE,cd (vs:=(aN.cells (aN.mk st nw (aA.mk none 0 0)))) 5 rfl rfl,rfl,rfl⟩⟩,rfl,rfl,rfl,trivial⟩ fun w hs=>fj (false,0,st,nw,[],none,0,[],none,0,[],none,0) [] ?_ ?_ rfl rfl rfl hs)
  ·rfl
  ·exact ⟨fun q=>Bool.noConfusion (show false=true from q),fun _=>⟨rfl,trivial⟩⟩
 replace h219:=DF h219
 refine WK hK75<|dA ct [0,1,2,3,4,5,6,7,8,9,10,11,12,13,14] [15,16,17] [false,false,false,false,false,false,false,true,true,false,false,false,true,true,true] [false,false,false] [(aU b67 67 (av.cells x2.bQ)),(aU b65 67 (av.cells x1.bQ)),(own gA gC 3 1 (good.map iC)),(own tA tC 3 1 (times.map iC)),(aU b3 31 (aN.cells (aN.mk st nw (aA.mk none 0 0)))),(aU b2 28 (aG.cells (aG.mk (ay.mk (aA.mk kA l.au.length kC)) l.bJ (aA.mk cA l.ag.length cC) (aA.mk bA l.aa.length bC) l.aB l.aZ l.aO))),(rd kA l.au.length 9 (l.au.map ah.cells)).ro,(rd cA l.ag.length 2 (List.zipWith ao.cells l.ag az)).ro,(c_ (aP ao.eX l.ag az)).ro,(rd bA l.aa.length 4 (l.aa.map aT.cells)).ro,(rd blA bl.length 1 (bl.map dP)).ro] [(aU b67 67 (av.cells x2.bQ)),(aU b65 67 (av.cells x1.bQ)),(own uA uC 111 3 (al2.map bh.cells)),(own gA gC 3 1 (good.map iC)),(own tA tC 3 1 (times.map iC)),(aU b3 31 (aN.cells (aN.mk st nw (aA.mk none 0 0)))),(aU b2 28 (aG.cells (aG.mk (ay.mk (aA.mk kA l.au.length kC)) l.bJ (aA.mk cA l.ag.length cC) (aA.mk bA l.aa.length bC) l.aB l.aZ l.aO))),(rd kA l.au.length 9 (l.au.map ah.cells)).ro,(rd cA l.ag.length 2 (List.zipWith ao.cells l.ag az)).ro,(c_ (aP ao.eX l.ag az)).ro,(rd bA l.aa.length 4 (l.aa.map aT.cells)).ro,(rd blA bl.length 1 (bl.map dP)).ro] (by kernel_rfl) (fun w hs=>St.bB [0,1,3,4,5,6,7,8,9,10,11] rfl rfl hs) (fun w hs=>St.bB [0,1,2,3,4,5,6,7,8,9,10,11] rfl rfl hs)<|eS rfl (MV rfl)<|eS rfl (MV rfl)<|eS rfl (BI rfl (cr ⟨by omega,by omega⟩))<|eS rfl (MV rfl)<|eS rfl (MV rfl)<|eS rfl (MV rfl)<|eS rfl (MV rfl)<|fS rfl (IA k rfl (ak (n:=al1.length) 2 rfl (by first|(simp; done)|(simp; omega))) h_ (by decide) (by omega) (by omega)) ?_
 refine fS rfl (kE k 0 (bh.cells x2) rfl nu (ak (n:=al2.length) 2 rfl (by simp)) hx2m rfl (by decide) rfl rfl)<|eS rfl (MV rfl)<|eS rfl (MV rfl)<|eS rfl (BI rfl (cr ⟨by omega,by omega⟩))<|fS rfl (IA (k-1) rfl (ak (n:=al1.length) 2 rfl (by first|(simp; done)|(simp; omega))) h_ (by decide) (by omega) (by omega))<|fS rfl (kE (k-1) 0 (bh.cells x1) rfl nu (ak (n:=al2.length) 2 rfl (by simp)) hx1m rfl (by decide) rfl rfl)<|fS rfl (IA (k-1) rfl (ak (n:=al1.length) 2 rfl (by first|(simp; done)|(simp; omega))) h_ (by decide) (by omega) (by omega))<|eJ rfl<|cf rfl fun T78 hT78=>dy (k:=(k-1)) (o:=0) (vs:=(bh.cells x2)) (es':=(List.map bh.cells (al2.set (k-1) x2))) (C':=[_,_,(own uA uC 111 3 (List.map bh.cells (al2.set (k-1) x2))),_,_,_,_,_,_,_,_,_]) 2 rfl rfl rfl oE rfl rfl rfl rfl hx1m rfl (by decide) (by exact (List.map_set (f:=bh.cells) (l:=al2) (i:=(k-1)) (a:=x2)).symm) rfl ?_
 refine RN hT78 [0,1,3,4,5,6,7,8,9,10,11] rfl rfl<|cf rfl fun T79 hT79=>?_
 obtain ⟨x80,hx81⟩: ∃ y_,(al2.set (k-1) x2)[k]? =some y_:=⟨(al2.set (k-1) x2)[k]'(by first|omega|(simp; omega)),List.getElem?_eq_getElem _⟩
 have hx81m:(List.map bh.cells (al2.set (k-1) x2))[k]? =some (bh.cells x80):=by rw [List.getElem?_map,hx81]; rfl
 refine rS (IA k rfl (ak (n:=al1.length) 2 rfl (by first|(simp; done)|(simp; omega))) h_ (by decide) (by omega) (by omega))<|RN hT79 [0,1,3,4,5,6,7,8,9,10,11] rfl rfl<|cf rfl fun T82 hT82=>dy (k:=k) (o:=0) (vs:=(bh.cells x1)) (es':=(List.map bh.cells ((al2.set (k-1) x2).set k x1))) (C':=[_,_,(own uA uC 111 3 (List.map bh.cells ((al2.set (k-1) x2).set k x1))),_,_,_,_,_,_,_,_,_]) 2 rfl rfl rfl oE rfl rfl rfl rfl hx81m rfl (by decide) (by exact (List.map_set (f:=bh.cells) (l:=(al2.set (k-1) x2)) (i:=k) (a:=x1)).symm) rfl<|RN hT82 [0,1,3,4,5,6,7,8,9,10,11] rfl rfl<|fJ rfl<|aL<|KK hK62<|aC<|rS (MV rfl) ?_
 refine rS (BI rfl (cr ⟨by omega,by omega⟩))<|rS (AG rfl)<|aX ?_
 have hb83:(Value.int .i64 (((k-1):Nat):Int))=(Value.int .i64 (((k:Nat):Int)-1)):=by exact congrArg (Value.int .i64) (by omega)
 refine aY (hJ58 ⟨((k-1),((al2.set (k-1) x2).set k x1)),⟨by omega,hl31_1.perm (lY (by omega) hx1 hx2),by simp [hl31_2]⟩⟩ _ _ _ rfl (by first|omega|(simp; omega)) (an.cons rfl<|an.cons rfl<|an.cons rfl<|an.cons rfl<|an.cons rfl<|an.cons rfl<|an.cons rfl<|an.cons rfl<|a_ rfl hb83<|an.cons rfl<|an.cons rfl<|an.nil _) (fun w hs=>St.bB [2,3,4,5,6,7,8,9,10,11] rfl rfl hs))
end
section
open Go.RowKit
set_option linter.unusedVariables false
set_option maxRecDepth 100000 in
set_option maxHeartbeats 4000000 in
theorem tN (l:aV) (kA:Option Addr) (kC:Nat) (az:List RA) (cA:Option Addr) (cC:Nat) (bA:Option Addr) (bC:Nat) (bl:List Int) (blA:Option Addr) (blC:Nat) (hraw:jN l az) (hbl: ∀ z∈bl,0≤z∧z≤4294967295) (hbn:bl.length≤9223372036854775807):
 dY Tryz.prog 6 [(Value.agg (aG.cells (aG.mk (ay.mk (aA.mk kA l.au.length kC)) l.bJ (aA.mk cA l.ag.length cC) (aA.mk bA l.aa.length bC) l.aB l.aZ l.aO)).toArray),(Value.slice blA bl.length blC)] [(rd kA l.au.length 9 (l.au.map ah.cells)),(rd cA l.ag.length 2 (List.zipWith ao.cells l.ag az)),(c_ (aP ao.eX l.ag az)),(rd bA l.aa.length 4 (l.aa.map aT.cells)),(rd blA bl.length 1 (bl.map dP))] (Value.bool true):=by
 refine bG Hc Tryz.func6 rfl rfl fun w0 Q hQ hN=>?_
 try dsimp only
 refine WS fun _ hK1=>gv rfl fun b2=>rS (AG rfl)<|RK hK1<|WS fun _ hK3=>rS (CL AO (ar) rfl)<|rS (AG rfl)<|RK hK3<|aw fun _ hK4=>WS fun _ hK5=>?_
 refine rS (LW 0 rfl eP rfl rfl)<|rS (CL (zV l kA kC az cA cC bA bC hraw) (ax 1 rfl rfl<|ax 2 rfl rfl<|ax 3 rfl rfl<|ax 4 rfl rfl<|ar) rfl)<|rS (NT rfl)<|rS (MV rfl) ?_
 refine bo (t:=28) rfl (fun h28=>?_) (fun h28=>?_)
 ·replace h28:=XT h28
  refine rS (OX rfl)<|rS (OX rfl)<|rS (PK rfl)<|RK hK5<|aW rfl<|WS fun _ hK6=>rS (MV rfl)<|rS (AG rfl)<|RK hK6<|aE ?_
  refine Q1 hQ rfl rfl rfl ?_
  first|rfl|exact congrArg Value.bool (decide_eq_true (by omega))
 replace h28:=XF h28
 refine rS (MV rfl)<|rS (NT rfl)<|rS (PK rfl)<|RK hK5<|bH rfl<|WK hK4<|WS fun _ hK7=>?_
 have hin:=hraw.small h28.1
 have hle:=h28.2
 refine rS (LW 0 rfl eP rfl rfl)<|rS (MV rfl)<|cX (Af l kA kC az cA cC bA bC bl blA blC (by first|assumption|omega|(simp; done)|(simp; omega)) hbl hbn (by first|assumption|omega|(simp; done)|(simp; omega))) (ax 1 rfl rfl<|ax 2 rfl rfl<|ax 3 rfl rfl<|ax 4 rfl rfl<|ax 5 rfl rfl<|ar) rfl fun y8 hy9=>?_
 obtain ⟨ok22,ec10,st11,nw12,sg13,sA14,sC15,times16,tA17,tC18,good19,gA20,gC21⟩:=y8
 cases ok22
 ·obtain ⟨hec,he⟩:=hy9.2 rfl
  try dsimp only at hec he
  subst hec
  try dsimp only [cond_true,cond_false,List.cons_append,List.nil_append]
  refine rS (MV rfl)<|rS (EX rfl)<|rS (EX rfl)<|rS (EX rfl)<|rS (EX rfl)<|AL rfl Ai fun b23=>e7 rfl rk rfl<|rS (AG rfl)<|rS (AG rfl)<|rS (AG rfl) ?_
  refine RK hK7<|aw fun _ hK24=>WS fun _ hK25=>rS (MV rfl)<|rS (NT rfl)<|RK hK25<|aW rfl<|WS fun _ hK26=>rS (MV rfl)<|rS (AG rfl) ?_
  refine RK hK26<|aE<|Q1 hQ rfl rfl rfl ?_
  first|rfl|exact congrArg Value.bool (decide_eq_true (by omega))
 obtain htruth:=hy9.1 rfl
 try dsimp only [cond_true,cond_false,List.cons_append,List.nil_append]
 refine rS (MV rfl)<|rS (EX rfl)<|rS (EX rfl)<|rS (EX rfl)<|rS (EX rfl)<|AL rfl Ai fun b27=>e7 rfl rk rfl<|rS (AG rfl)<|rS (AG rfl)<|rS (AG rfl) ?_
 refine RK hK7<|aw fun _ hK28=>WS fun _ hK29=>rS (MV rfl)<|rS (NT rfl)<|RK hK29 ?_
 refine bp rfl (fun h42=>?_) (fun h42=>?_)
 ·replace h42:=XT h42
  refine WS fun _ hK30=>rS (MV rfl)<|rS (AG rfl)<|RK hK30<|aE<|Q1 hQ rfl rfl rfl ?_
  first|rfl|exact congrArg Value.bool (decide_eq_true (by omega))
 replace h42:=XF h42
 refine WK hK28<|WS fun _ hK31=>?_
 obtain ⟨htr,hok⟩:=dD hle
 have hhd:=hok.head
 unfold cU at hhd
 try dsimp only at htruth
 have hro:=h42
 have hT:=htruth hro
 have hrt:=hro.time
 have hrl:=hro.len
 dsimp only at hrt hrl
 have hbm:=hin.oI
 have htl:=hT.le
 have hgl:=hT.len
 have hT1:=hT.e hle
 have hT2:=hT.qj hle
 have hT3:=hT.clear hle
 refine rS (LW 4 rfl eP rfl rfl)<|rS (LW 0 rfl gE rfl rfl)<|cX (pZ l kA kC az cA cC bA bC (bj.mk st11 nw12 sg13) sA14 sC15 (by first|assumption|omega|(simp; done)|(simp; omega)) (by first|assumption|omega|(simp; done)|(simp; omega))) (ax 5 rfl rfl<|ax 6 rfl rfl<|ax 7 rfl rfl<|ax 8 rfl rfl<|aF (ak (n:=sg13.length) 1 rfl (by simp))<|ar) rfl fun y32 hy33=>?_
 obtain ⟨a34,c35⟩:=y32
 try dsimp only
 refine rS (MV rfl)<|rS (EX rfl)<|rS (EX rfl)<|rS (AG rfl)<|rS (AG rfl)<|RK hK31<|WS fun _ hK36=>rS (LW 5 rfl eP rfl rfl)<|rS (LW 1 rfl gE rfl rfl)<|rS (CL (vz l kA kC az cA cC bA bC (bj.mk st11 nw12 sg13) sA14 sC15 (by first|assumption|omega|(simp; done)|(simp; omega)) (by first|assumption|omega|(simp; done)|(simp; omega))) (ax 6 rfl rfl<|ax 7 rfl rfl<|ax 8 rfl rfl<|ax 9 rfl rfl<|aF (ak (n:=sg13.length) 2 rfl (by simp))<|ar) rfl) ?_
 refine rS (MV rfl)<|rS (EX rfl)<|rS (EX rfl)<|rS (AG rfl)<|rS (AG rfl)<|RK hK36<|WS fun _ hK37=>rS (LW 5 rfl eP rfl rfl)<|rS (LW 1 rfl gE rfl rfl)<|cX (Av l kA kC az cA cC bA bC (bj.mk st11 nw12 sg13) sA14 sC15 (by first|assumption|omega|(simp; done)|(simp; omega)) (by first|assumption|omega|(simp; done)|(simp; omega))) (ax 6 rfl rfl<|ax 7 rfl rfl<|ax 8 rfl rfl<|ax 9 rfl rfl<|aF (ak (n:=sg13.length) 2 rfl (by simp))<|ar) rfl fun y38 hy39=>?_
 obtain ⟨a40,c41⟩:=y38
 try dsimp only
 refine rS (MV rfl)<|rS (EX rfl)<|rS (EX rfl)<|rS (AG rfl)<|rS (AG rfl)<|RK hK37<|WS fun _ hK42=>rS (LW 6 rfl eP rfl rfl)<|rS (LW 2 rfl gE rfl rfl)<|cX (xG l kA kC az cA cC bA bC (bj.mk st11 nw12 sg13) sA14 sC15 (by first|assumption|omega|(simp; done)|(simp; omega)) (by first|assumption|omega|(simp; done)|(simp; omega))) (ax 7 rfl rfl<|ax 8 rfl rfl<|ax 9 rfl rfl<|ax 10 rfl rfl<|aF (ak (n:=sg13.length) 3 rfl (by simp))<|ar) rfl fun y43 hy44=>?_
 obtain ⟨a45,c46⟩:=y43
 try dsimp only
 refine rS (MV rfl)<|rS (EX rfl)<|rS (EX rfl)<|rS (AG rfl)<|rS (AG rfl)<|RK hK42<|aw fun _ hK47=>WS fun _ hK48=>rS (MV rfl)<|rS (BI rfl eB) ?_
 refine rS (MV rfl) ?_
 refine bo (t:=70) rfl (fun h70=>?_) (fun h70=>?_)
 ·replace h70:=XT h70
  exact absurd hT1 h70
 replace h70:=XF h70
 refine rS (MV rfl)<|rS (BI rfl eB)<|rS (PK rfl)<|rS (MV rfl) ?_
 refine bo (t:=74) rfl (fun h74=>?_) (fun h74=>?_)
 ·replace h74:=XT h74
  exact absurd hT1 h74
 replace h74:=XF h74
 refine rS (MV rfl)<|rS (BI rfl eB)<|rS (PK rfl)<|rS (MV rfl) ?_
 refine bo (t:=78) rfl (fun h78=>?_) (fun h78=>?_)
 ·replace h78:=XT h78
  exact absurd hT1 h78
 replace h78:=XF h78
 refine rS (MV rfl)<|rS (BI rfl eB)<|rS (PK rfl)<|rS (MV rfl) ?_
 refine bo (t:=82) rfl (fun h82=>?_) (fun h82=>?_)
 ·replace h82:=XT h82
  exact absurd hT1 h82
 replace h82:=XF h82
 refine rS (MV rfl)<|rS (MV rfl)<|rS (LN rfl jD)<|rS (CL (nX (cJ l (bj.mk st11 nw12 sg13)) a34 c35 ((times16.length:Nat):Int) (by exact Nat.le_trans lV (by decide))) (aF (ak (n:=(cJ l (bj.mk st11 nw12 sg13)).length) 2 rfl (by simp))<|ar) rfl)<|rS (NT rfl)<|rS (PK rfl)<|rS (MV rfl) ?_
 refine bo (t:=89) rfl (fun h89=>?_) (fun h89=>?_)
 ·replace h89:=XT h89
  exact absurd hT2 h89
 replace h89:=XF h89
 refine rS (MV rfl)<|rS (BI rfl eC)<|rS (MV rfl) ?_
 refine bo (t:=92) rfl (fun h92=>?_) (fun h92=>?_)
 rotate_left 1
 ·replace h92:=DF h92
  refine rS (OX rfl)<|rS (OX rfl)<|rS (OX rfl)<|rS (OX rfl)<|rS (OX rfl)<|rS (PK rfl)<|rS (PK rfl)<|rS (MV rfl)<|rS (MV rfl)<|rS (BI rfl eC) ?_
  refine rS (MV rfl) ?_
  refine bo (t:=103) rfl (fun h103=>?_) (fun h103=>?_)
  rotate_left 1
  ·replace h103:=DF h103
   refine rS (OX rfl)<|rS (OX rfl)<|rS (OX rfl)<|rS (OX rfl)<|rS (OX rfl)<|rS (PK rfl)<|rS (PK rfl)<|RK hK48<|bH rfl<|WK hK47 ?_
   refine aw fun _ hK106=>WS fun _ hK107=>rS (MV rfl)<|rS (LN rfl jD)<|rS (MV rfl)<|RK hK107<|aH ?_
   have hinit:(0≤times16.length):=by exact Nat.zero_le _
   refine cP (ι:={z:Nat // (z≤times16.length)}) (fun z=>[(2,(Value.pointer (some ⟨b2,0,none⟩))),(5,(Value.bool true)),(6,(Value.pointer (some ⟨b27,0,none⟩))),(7,(Value.slice tA17 times16.length tC18)),(8,(Value.slice gA20 good19.length gC21)),(14,(Value.slice a40 ((eN l (bj.mk st11 nw12 sg13)).length) c41)),(16,(Value.slice a45 ((dH l (bj.mk st11 nw12 sg13)).length) c46)),(111,(Value.slice tA17 times16.length tC18)),(112,(Value.int .i64 ((times16.length:Nat):Int))),(113,(Value.int .i64 ((z.1:Nat):Int)))]) (fun z=>[(own a45 c46 3 1 ((dH l (bj.mk st11 nw12 sg13)).map iC)),(own a40 c41 3 1 ((eN l (bj.mk st11 nw12 sg13)).map iC)),(own a34 c35 3 1 ((cJ l (bj.mk st11 nw12 sg13)).map iC)),(aU b27 31 (aN.cells (aN.mk st11 nw12 (aA.mk sA14 sg13.length sC15)))),(own sA14 sC15 67 2 (sg13.map av.cells)),(own tA17 tC18 3 1 (times16.map iC)),(own gA20 gC21 3 1 (good19.map iC)),(aU b2 28 (aG.cells (aG.mk (ay.mk (aA.mk kA l.au.length kC)) l.bJ (aA.mk cA l.ag.length cC) (aA.mk bA l.aa.length bC) l.aB l.aZ l.aO))),(rd kA l.au.length 9 (l.au.map ah.cells)).ro,(rd cA l.ag.length 2 (List.zipWith ao.cells l.ag az)).ro,(c_ (aP ao.eX l.ag az)).ro,(rd bA l.aa.length 4 (l.aa.map aT.cells)).ro,(rd blA bl.length 1 (bl.map dP)).ro]) (fun z=>times16.length-z.1) ⟨0,hinit⟩ (an.cons rfl<|an.cons rfl<|an.cons rfl<|an.cons rfl<|an.cons rfl<|an.cons rfl<|an.cons rfl<|an.cons rfl<|an.cons rfl<|an.cons rfl<|an.nil _) (fun w hs=>St.bB [0,1,2,3,4,5,6,7,8,9,10,11,12] rfl rfl hs) ?_
   clear hinit
   rintro ⟨b,hl14_0⟩ J108 hJ108
   try dsimp only
   refine WS fun _ hK109=>rS (BI rfl cq)<|RK hK109<|aw fun _ hK110=>?_
   refine bp rfl (fun h111=>?_) (fun h111=>?_)
   rotate_left 1
   ·replace h111:=DF h111
    refine bM<|ai<|ai<|aI<|KK hK106<|aw fun _ hK119=>WS fun _ hK120=>rS (MV rfl)<|rS (LN rfl jD)<|rS (FA 4 rfl fV rfl) ?_
    refine rS (L1 (Value.int .i64 l.aB) 7 rfl bk rfl rfl)<|rS (BI rfl eT)<|RK hK120 ?_
    refine bp rfl (fun h164=>?_) (fun h164=>?_)
    ·replace h164:=DT h164
     refine WS fun _ hK121=>rS (MV rfl)<|rS (AG rfl)<|RK hK121<|aE<|Q1 hQ rfl rfl rfl ?_
     first|rfl|exact congrArg Value.bool (decide_eq_true (by omega))
    replace h164:=DF h164
    refine WK hK119<|WS fun _ hK122=>rS (LW 7 rfl eP rfl rfl)<|rS (LW 3 rfl gE rfl rfl)<|rS (CL (ux l kA kC az cA cC bA bC (bj.mk st11 nw12 sg13) sA14 sC15 (by first|assumption|omega|(simp; done)|(simp; omega)) (by first|assumption|omega|(simp; done)|(simp; omega))) (ax 8 rfl rfl<|ax 9 rfl rfl<|ax 10 rfl rfl<|ax 11 rfl rfl<|aF (ak (n:=sg13.length) 4 rfl (by simp))<|ar) rfl)<|rS (MV rfl)<|rS (EX rfl)<|rS (EX rfl)<|AL rfl dk fun b123=>e7 rfl cv rfl ?_
    refine rS (AG rfl)<|RK hK122<|aw fun _ hK124=>dj ct 32 (by kernel_rfl) ?_
    have hrn:=hT.Bt hle (List.getElem?_eq_getElem (show l.aB.toNat<times16.length by omega)) (by omega)
    refine dS (MV rfl)<|dS (MV rfl)<|dS (MV rfl)<|dS (BI rfl eC)<|dS (PK rfl)<|dS (MV rfl) ?_
    refine db (t:=177) rfl (fun h177=>?_) (fun h177=>?_)
    rotate_left 1
    ·replace h177:=DF h177
     exact absurd hrn.1 h177
    replace h177:=DT h177
    refine dS (MV rfl)<|dS (FA 4 rfl fV rfl)<|dS (L1 (Value.int .i64 l.aB) 8 rfl bk rfl rfl) ?_
    obtain ⟨t,ht⟩: ∃ y_,times16[(l.aB).toNat]? =some y_:=⟨times16[(l.aB).toNat]'(by omega),List.getElem?_eq_getElem _⟩
    have htm:(times16.map iC)[(l.aB).toNat]? =some (iC t):=by rw [List.getElem?_map,ht]; rfl
    refine dS (IA ((l.aB).toNat) rfl (ak (n:=times16.length) 6 rfl (by simp)) di (by decide) (by omega) (by omega))<|dS (ir ((l.aB).toNat) 0 (Value.int .i64 t) rfl bk (ak (n:=times16.length) 6 rfl (by simp)) htm rfl (by decide) rfl) ?_
    have hru:=hT.Bt hle ht (by omega)
    have hsp:=hT.step _ _ ht
    have hfr:=(hT.from_ hle (l.aB.toNat) (by omega)).1
    have hlb:=k5 htr hok (i:=l.aB.toNat) (by omega)
    dsimp only at hru hsp hfr
    refine dS (FA 0 rfl fH rfl)<|dS (L1 (Value.int .i64 st11) 4 rfl bk rfl rfl)<|dS (BI rfl (cr ⟨by omega,by omega⟩))<|dS (FA 0 rfl bP rfl)<|dS (L1 (Value.int .i64 ((l6 l (bj.mk st11 nw12 sg13)).Lo)) 0 rfl bk rfl rfl)<|dS (BI rfl il)<|dS (PK rfl)<|dS (MV rfl) ?_
    refine db (t:=190) rfl (fun h190=>?_) (fun h190=>?_)
    rotate_left 1
    ·replace h190:=DF h190
     exfalso; omega
    replace h190:=DT h190
    refine dS (MV rfl)<|dS (FA 4 rfl fV rfl)<|dS (L1 (Value.int .i64 l.aB) 8 rfl bk rfl rfl)<|dS (IA ((l.aB).toNat) rfl (ak (n:=times16.length) 6 rfl (by simp)) di (by decide) (by omega) (by omega))<|dS (ir ((l.aB).toNat) 0 (Value.int .i64 t) rfl bk (ak (n:=times16.length) 6 rfl (by simp)) htm rfl (by decide) rfl)<|dS (FA 0 rfl fH rfl)<|dS (L1 (Value.int .i64 st11) 4 rfl bk rfl rfl)<|dS (BI rfl (cr ⟨by omega,by omega⟩))<|dS (FA 1 rfl bZ rfl)<|dS (L1 (Value.int .i64 ((l6 l (bj.mk st11 nw12 sg13)).Hi)) 0 rfl bk rfl rfl) ?_
    refine dS (BI rfl eT)<|dS (PK rfl)<|dS (AG rfl)<|cE<|RK hK124<|aE<|Q1 hQ rfl rfl rfl ?_
    first|rfl|exact congrArg Value.bool (decide_eq_true (by omega))
   replace h111:=DT h111
   refine WK hK110<|aw fun _ hK112=>aH<|WS fun _ hK113=>rS (MV rfl) ?_
   obtain ⟨t,ht⟩: ∃ y_,times16[b]? =some y_:=⟨times16[b]'(by omega),List.getElem?_eq_getElem _⟩
   have htm:(times16.map iC)[b]? =some (iC t):=by rw [List.getElem?_map,ht]; rfl
   refine rS (IA b rfl (ak (n:=times16.length) 5 rfl (by simp)) di (by decide) (by omega) (by omega))<|rS (ir b 0 (Value.int .i64 t) rfl bk (ak (n:=times16.length) 5 rfl (by simp)) htm rfl (by decide) rfl)<|rS (AG rfl)<|rS (AG rfl)<|RK hK113<|WS fun _ hK114=>?_
   have hps:=hT.nM hle ht
   refine rS (LW 7 rfl eP rfl rfl)<|rS (LW 3 rfl gE rfl rfl)<|rS (MV rfl)<|rS (CL (ld l kA kC az cA cC bA bC (bj.mk st11 nw12 sg13) sA14 sC15 ((b:Nat):Int) (by first|assumption|omega|(simp; done)|(simp; omega)) (by first|assumption|omega|(simp; done)|(simp; omega))) (ax 8 rfl rfl<|ax 9 rfl rfl<|ax 10 rfl rfl<|ax 11 rfl rfl<|aF (ak (n:=sg13.length) 4 rfl (by simp))<|ar) rfl)<|rS (MV rfl)<|rS (EX rfl)<|rS (EX rfl)<|AL rfl dk fun b115=>e7 rfl cv rfl<|rS (AG rfl) ?_
   refine RK hK114<|WS fun _ hK116=>rS (MV rfl)<|rS (BI rfl eB)<|rS (MV rfl) ?_
   refine bo (t:=127) rfl (fun h127=>?_) (fun h127=>?_)
   ·replace h127:=XT h127
    exact absurd hps.1 h127
   replace h127:=XF h127
   refine rS (MV rfl)<|rS (FA 0 rfl bP rfl)<|rS (L1 (Value.int .i64 ((bR l (bj.mk st11 nw12 sg13) ((b:Nat):Int)).Lo)) 0 rfl bk rfl rfl)<|rS (BI rfl cq)<|rS (PK rfl)<|rS (MV rfl) ?_
   refine bo (t:=133) rfl (fun h133=>?_) (fun h133=>?_)
   ·replace h133:=DT h133
    exfalso; omega
   replace h133:=DF h133
   refine rS (MV rfl)<|rS (FA 1 rfl bZ rfl)<|rS (L1 (Value.int .i64 ((bR l (bj.mk st11 nw12 sg13) ((b:Nat):Int)).Hi)) 0 rfl bk rfl rfl)<|rS (BI rfl eL)<|rS (PK rfl)<|rS (MV rfl) ?_
   refine bo (t:=139) rfl (fun h139=>?_) (fun h139=>?_)
   ·replace h139:=DT h139
    exfalso; omega
   replace h139:=DF h139
   refine rS (MV rfl)<|rS (MV rfl) ?_
   obtain ⟨gd,hgd⟩: ∃ y_,good19[b]? =some y_:=⟨good19[b]'(by omega),List.getElem?_eq_getElem _⟩
   have hgdm:(good19.map iC)[b]? =some (iC gd):=by rw [List.getElem?_map,hgd]; rfl
   refine rS (IA b rfl (ak (n:=good19.length) 7 rfl (by simp)) di (by decide) (by omega) (by omega))<|rS (ir b 0 (Value.int .i64 gd) rfl bk (ak (n:=good19.length) 7 rfl (by simp)) hgdm rfl (by decide) rfl)<|rS (BI rfl il)<|rS (MV rfl) ?_
   refine bo (t:=145) rfl (fun h145=>?_) (fun h145=>?_)
   rotate_left 1
   ·replace h145:=DF h145
    refine rS (OX rfl)<|rS (OX rfl)<|rS (OX rfl)<|rS (OX rfl)<|rS (OX rfl)<|rS (OX rfl)<|rS (OX rfl)<|rS (OX rfl)<|rS (OX rfl)<|rS (OX rfl) ?_
    refine rS (OX rfl)<|rS (PK rfl)<|rS (PK rfl)<|RK hK116<|bH rfl<|cH<|aL<|KK hK112<|aC<|rS (BI rfl (a9 ⟨by omega,by omega⟩)) ?_
    refine rS (MV rfl)<|aX ?_
    have hb118:(Value.int .i64 (((b+1):Nat):Int))=(Value.int .i64 (((b:Nat):Int)+1)):=by exact congrArg (Value.int .i64) (by omega)
    refine aY (hJ108 ⟨(b+1),(by first|omega|(simp only []; omega))⟩ _ _ _ rfl (by first|omega|(simp; omega)) (an.cons rfl<|an.cons rfl<|an.cons rfl<|an.cons rfl<|an.cons rfl<|an.cons rfl<|an.cons rfl<|an.cons rfl<|an.cons rfl<|a_ rfl hb118<|an.nil _) (fun w hs=>St.bB [1,2,3,4,5,6,7,8,9,10,11,12,13] rfl rfl hs))
   replace h145:=DT h145
   refine rS (MV rfl)<|rS (MV rfl)<|rS (MV rfl)<|rS (IA b rfl (ak (n:=good19.length) 7 rfl (by simp)) di (by decide) (by omega) (by omega))<|rS (ir b 0 (Value.int .i64 gd) rfl bk (ak (n:=good19.length) 7 rfl (by simp)) hgdm rfl (by decide) rfl)<|rS (CL (nX (eN l (bj.mk st11 nw12 sg13)) a40 c41 gd (by exact Nat.le_trans lv (by dsimp only; omega))) (aF (ak (n:=(eN l (bj.mk st11 nw12 sg13)).length) 2 rfl (by simp))<|ar) rfl)<|rS (MV rfl) ?_
   refine bo (t:=152) rfl (fun h152=>?_) (fun h152=>?_)
   ·replace h152:=DT h152
    exact absurd h152 (hT.not_false hle hgd h145).1
   replace h152:=DF h152
   refine rS (MV rfl)<|rS (MV rfl)<|rS (CL (nX (dH l (bj.mk st11 nw12 sg13)) a45 c46 ((b:Nat):Int) (by exact Nat.le_trans kp (by omega))) (aF (ak (n:=(dH l (bj.mk st11 nw12 sg13)).length) 1 rfl (by simp))<|ar) rfl)<|rS (PK rfl)<|rS (PK rfl)<|rS (PK rfl)<|RK hK116 ?_
   refine bp rfl (fun h158=>?_) (fun h158=>?_)
   ·replace h158:=DT h158
    exact absurd h158 (hT.not_false hle hgd h145).2
   replace h158:=DF h158
   refine cH<|aL<|KK hK112<|aC<|rS (BI rfl (a9 ⟨by omega,by omega⟩))<|rS (MV rfl)<|aX ?_
   have hb117:(Value.int .i64 (((b+1):Nat):Int))=(Value.int .i64 (((b:Nat):Int)+1)):=by exact congrArg (Value.int .i64) (by omega)
   refine aY (hJ108 ⟨(b+1),(by first|omega|(simp only []; omega))⟩ _ _ _ rfl (by first|omega|(simp; omega)) (an.cons rfl<|an.cons rfl<|an.cons rfl<|an.cons rfl<|an.cons rfl<|an.cons rfl<|an.cons rfl<|an.cons rfl<|an.cons rfl<|a_ rfl hb117<|an.nil _) (fun w hs=>St.bB [1,2,3,4,5,6,7,8,9,10,11,12,13] rfl rfl hs))
  replace h103:=DT h103
  refine rS (MV rfl)<|rS (LN rfl jD)<|rS (FA 4 rfl fV rfl)<|rS (L1 (Value.int .i64 l.aB) 7 rfl bk rfl rfl)<|rS (BI rfl eL)<|rS (PK rfl)<|rS (PK rfl)<|RK hK48 ?_
  refine bp rfl (fun h110=>?_) (fun h110=>?_)
  ·replace h110:=DT h110
   exfalso; have:=hT3.2 h103; omega
  replace h110:=DF h110
  refine WK hK47<|aw fun _ hK87=>WS fun _ hK88=>rS (MV rfl)<|rS (LN rfl jD)<|rS (MV rfl)<|RK hK88<|aH ?_
  have hinit:(0≤times16.length):=by exact Nat.zero_le _
  refine cP (ι:={z:Nat // (z≤times16.length)}) (fun z=>[(2,(Value.pointer (some ⟨b2,0,none⟩))),(5,(Value.bool true)),(6,(Value.pointer (some ⟨b27,0,none⟩))),(7,(Value.slice tA17 times16.length tC18)),(8,(Value.slice gA20 good19.length gC21)),(14,(Value.slice a40 ((eN l (bj.mk st11 nw12 sg13)).length) c41)),(16,(Value.slice a45 ((dH l (bj.mk st11 nw12 sg13)).length) c46)),(111,(Value.slice tA17 times16.length tC18)),(112,(Value.int .i64 ((times16.length:Nat):Int))),(113,(Value.int .i64 ((z.1:Nat):Int)))]) (fun z=>[(own a45 c46 3 1 ((dH l (bj.mk st11 nw12 sg13)).map iC)),(own a40 c41 3 1 ((eN l (bj.mk st11 nw12 sg13)).map iC)),(own a34 c35 3 1 ((cJ l (bj.mk st11 nw12 sg13)).map iC)),(aU b27 31 (aN.cells (aN.mk st11 nw12 (aA.mk sA14 sg13.length sC15)))),(own sA14 sC15 67 2 (sg13.map av.cells)),(own tA17 tC18 3 1 (times16.map iC)),(own gA20 gC21 3 1 (good19.map iC)),(aU b2 28 (aG.cells (aG.mk (ay.mk (aA.mk kA l.au.length kC)) l.bJ (aA.mk cA l.ag.length cC) (aA.mk bA l.aa.length bC) l.aB l.aZ l.aO))),(rd kA l.au.length 9 (l.au.map ah.cells)).ro,(rd cA l.ag.length 2 (List.zipWith ao.cells l.ag az)).ro,(c_ (aP ao.eX l.ag az)).ro,(rd bA l.aa.length 4 (l.aa.map aT.cells)).ro,(rd blA bl.length 1 (bl.map dP)).ro]) (fun z=>times16.length-z.1) ⟨0,hinit⟩ (an.cons rfl<|an.cons rfl<|an.cons rfl<|an.cons rfl<|an.cons rfl<|an.cons rfl<|an.cons rfl<|an.cons rfl<|an.cons rfl<|an.cons rfl<|an.nil _) (fun w hs=>St.bB [0,1,2,3,4,5,6,7,8,9,10,11,12] rfl rfl hs) ?_
  clear hinit
  rintro ⟨b,hl14_0⟩ J89 hJ89
  try dsimp only
  refine WS fun _ hK90=>rS (BI rfl cq)<|RK hK90<|aw fun _ hK91=>?_
  refine bp rfl (fun h92=>?_) (fun h92=>?_)
  rotate_left 1
  ·replace h92:=DF h92
   refine bM<|ai<|ai<|aI<|KK hK87<|aw fun _ hK100=>WS fun _ hK101=>rS (MV rfl)<|rS (LN rfl jD)<|rS (FA 4 rfl fV rfl) ?_
   refine rS (L1 (Value.int .i64 l.aB) 7 rfl bk rfl rfl)<|rS (BI rfl eT)<|RK hK101 ?_
   refine bp rfl (fun h164=>?_) (fun h164=>?_)
   ·replace h164:=DT h164
    refine WS fun _ hK102=>rS (MV rfl)<|rS (AG rfl)<|RK hK102<|aE<|Q1 hQ rfl rfl rfl ?_
    first|rfl|exact congrArg Value.bool (decide_eq_true (by omega))
   replace h164:=DF h164
   refine WK hK100<|WS fun _ hK103=>rS (LW 7 rfl eP rfl rfl)<|rS (LW 3 rfl gE rfl rfl)<|rS (CL (ux l kA kC az cA cC bA bC (bj.mk st11 nw12 sg13) sA14 sC15 (by first|assumption|omega|(simp; done)|(simp; omega)) (by first|assumption|omega|(simp; done)|(simp; omega))) (ax 8 rfl rfl<|ax 9 rfl rfl<|ax 10 rfl rfl<|ax 11 rfl rfl<|aF (ak (n:=sg13.length) 4 rfl (by simp))<|ar) rfl)<|rS (MV rfl)<|rS (EX rfl)<|rS (EX rfl)<|AL rfl dk fun b104=>e7 rfl cv rfl ?_
   refine rS (AG rfl)<|RK hK103<|aw fun _ hK105=>dj ct 32 (by kernel_rfl) ?_
   have hrn:=hT.Bt hle (List.getElem?_eq_getElem (show l.aB.toNat<times16.length by omega)) (by omega)
   refine dS (MV rfl)<|dS (MV rfl)<|dS (MV rfl)<|dS (BI rfl eC)<|dS (PK rfl)<|dS (MV rfl) ?_
   refine db (t:=177) rfl (fun h177=>?_) (fun h177=>?_)
   rotate_left 1
   ·replace h177:=DF h177
    exact absurd hrn.1 h177
   replace h177:=DT h177
   refine dS (MV rfl)<|dS (FA 4 rfl fV rfl)<|dS (L1 (Value.int .i64 l.aB) 8 rfl bk rfl rfl) ?_
   obtain ⟨t,ht⟩: ∃ y_,times16[(l.aB).toNat]? =some y_:=⟨times16[(l.aB).toNat]'(by omega),List.getElem?_eq_getElem _⟩
   have htm:(times16.map iC)[(l.aB).toNat]? =some (iC t):=by rw [List.getElem?_map,ht]; rfl
   refine dS (IA ((l.aB).toNat) rfl (ak (n:=times16.length) 6 rfl (by simp)) di (by decide) (by omega) (by omega))<|dS (ir ((l.aB).toNat) 0 (Value.int .i64 t) rfl bk (ak (n:=times16.length) 6 rfl (by simp)) htm rfl (by decide) rfl) ?_
   have hru:=hT.Bt hle ht (by omega)
   have hsp:=hT.step _ _ ht
   have hfr:=(hT.from_ hle (l.aB.toNat) (by omega)).1
   have hlb:=k5 htr hok (i:=l.aB.toNat) (by omega)
   dsimp only at hru hsp hfr
   refine dS (FA 0 rfl fH rfl)<|dS (L1 (Value.int .i64 st11) 4 rfl bk rfl rfl)<|dS (BI rfl (cr ⟨by omega,by omega⟩))<|dS (FA 0 rfl bP rfl)<|dS (L1 (Value.int .i64 ((l6 l (bj.mk st11 nw12 sg13)).Lo)) 0 rfl bk rfl rfl)<|dS (BI rfl il)<|dS (PK rfl)<|dS (MV rfl) ?_
   refine db (t:=190) rfl (fun h190=>?_) (fun h190=>?_)
   rotate_left 1
   ·replace h190:=DF h190
    exfalso; omega
   replace h190:=DT h190
   refine dS (MV rfl)<|dS (FA 4 rfl fV rfl)<|dS (L1 (Value.int .i64 l.aB) 8 rfl bk rfl rfl)<|dS (IA ((l.aB).toNat) rfl (ak (n:=times16.length) 6 rfl (by simp)) di (by decide) (by omega) (by omega))<|dS (ir ((l.aB).toNat) 0 (Value.int .i64 t) rfl bk (ak (n:=times16.length) 6 rfl (by simp)) htm rfl (by decide) rfl)<|dS (FA 0 rfl fH rfl)<|dS (L1 (Value.int .i64 st11) 4 rfl bk rfl rfl)<|dS (BI rfl (cr ⟨by omega,by omega⟩))<|dS (FA 1 rfl bZ rfl)<|dS (L1 (Value.int .i64 ((l6 l (bj.mk st11 nw12 sg13)).Hi)) 0 rfl bk rfl rfl) ?_
   refine dS (BI rfl eT)<|dS (PK rfl)<|dS (AG rfl)<|cE<|RK hK105<|aE<|Q1 hQ rfl rfl rfl ?_
   first|rfl|exact congrArg Value.bool (decide_eq_true (by omega))
  replace h92:=DT h92
  refine WK hK91<|aw fun _ hK93=>aH<|WS fun _ hK94=>rS (MV rfl) ?_
  obtain ⟨t,ht⟩: ∃ y_,times16[b]? =some y_:=⟨times16[b]'(by omega),List.getElem?_eq_getElem _⟩
  have htm:(times16.map iC)[b]? =some (iC t):=by rw [List.getElem?_map,ht]; rfl
  refine rS (IA b rfl (ak (n:=times16.length) 5 rfl (by simp)) di (by decide) (by omega) (by omega))<|rS (ir b 0 (Value.int .i64 t) rfl bk (ak (n:=times16.length) 5 rfl (by simp)) htm rfl (by decide) rfl)<|rS (AG rfl)<|rS (AG rfl)<|RK hK94<|WS fun _ hK95=>?_
  have hps:=hT.nM hle ht
  refine rS (LW 7 rfl eP rfl rfl)<|rS (LW 3 rfl gE rfl rfl)<|rS (MV rfl)<|rS (CL (ld l kA kC az cA cC bA bC (bj.mk st11 nw12 sg13) sA14 sC15 ((b:Nat):Int) (by first|assumption|omega|(simp; done)|(simp; omega)) (by first|assumption|omega|(simp; done)|(simp; omega))) (ax 8 rfl rfl<|ax 9 rfl rfl<|ax 10 rfl rfl<|ax 11 rfl rfl<|aF (ak (n:=sg13.length) 4 rfl (by simp))<|ar) rfl)<|rS (MV rfl)<|rS (EX rfl)<|rS (EX rfl)<|AL rfl dk fun b96=>e7 rfl cv rfl<|rS (AG rfl) ?_
  refine RK hK95<|WS fun _ hK97=>rS (MV rfl)<|rS (BI rfl eB)<|rS (MV rfl) ?_
  refine bo (t:=127) rfl (fun h127=>?_) (fun h127=>?_)
  ·replace h127:=XT h127
   exact absurd hps.1 h127
  replace h127:=XF h127
  refine rS (MV rfl)<|rS (FA 0 rfl bP rfl)<|rS (L1 (Value.int .i64 ((bR l (bj.mk st11 nw12 sg13) ((b:Nat):Int)).Lo)) 0 rfl bk rfl rfl)<|rS (BI rfl cq)<|rS (PK rfl)<|rS (MV rfl) ?_
  refine bo (t:=133) rfl (fun h133=>?_) (fun h133=>?_)
  ·replace h133:=DT h133
   exfalso; omega
  replace h133:=DF h133
  refine rS (MV rfl)<|rS (FA 1 rfl bZ rfl)<|rS (L1 (Value.int .i64 ((bR l (bj.mk st11 nw12 sg13) ((b:Nat):Int)).Hi)) 0 rfl bk rfl rfl)<|rS (BI rfl eL)<|rS (PK rfl)<|rS (MV rfl) ?_
  refine bo (t:=139) rfl (fun h139=>?_) (fun h139=>?_)
  ·replace h139:=DT h139
   exfalso; omega
  replace h139:=DF h139
  refine rS (MV rfl)<|rS (MV rfl) ?_
  obtain ⟨gd,hgd⟩: ∃ y_,good19[b]? =some y_:=⟨good19[b]'(by omega),List.getElem?_eq_getElem _⟩
  have hgdm:(good19.map iC)[b]? =some (iC gd):=by rw [List.getElem?_map,hgd]; rfl
  refine rS (IA b rfl (ak (n:=good19.length) 7 rfl (by simp)) di (by decide) (by omega) (by omega))<|rS (ir b 0 (Value.int .i64 gd) rfl bk (ak (n:=good19.length) 7 rfl (by simp)) hgdm rfl (by decide) rfl)<|rS (BI rfl il)<|rS (MV rfl) ?_
  refine bo (t:=145) rfl (fun h145=>?_) (fun h145=>?_)
  rotate_left 1
  ·replace h145:=DF h145
   refine rS (OX rfl)<|rS (OX rfl)<|rS (OX rfl)<|rS (OX rfl)<|rS (OX rfl)<|rS (OX rfl)<|rS (OX rfl)<|rS (OX rfl)<|rS (OX rfl)<|rS (OX rfl) ?_
   refine rS (OX rfl)<|rS (PK rfl)<|rS (PK rfl)<|RK hK97<|bH rfl<|cH<|aL<|KK hK93<|aC<|rS (BI rfl (a9 ⟨by omega,by omega⟩)) ?_
   refine rS (MV rfl)<|aX ?_
   have hb99:(Value.int .i64 (((b+1):Nat):Int))=(Value.int .i64 (((b:Nat):Int)+1)):=by exact congrArg (Value.int .i64) (by omega)
   refine aY (hJ89 ⟨(b+1),(by first|omega|(simp only []; omega))⟩ _ _ _ rfl (by first|omega|(simp; omega)) (an.cons rfl<|an.cons rfl<|an.cons rfl<|an.cons rfl<|an.cons rfl<|an.cons rfl<|an.cons rfl<|an.cons rfl<|an.cons rfl<|a_ rfl hb99<|an.nil _) (fun w hs=>St.bB [1,2,3,4,5,6,7,8,9,10,11,12,13] rfl rfl hs))
  replace h145:=DT h145
  refine rS (MV rfl)<|rS (MV rfl)<|rS (MV rfl)<|rS (IA b rfl (ak (n:=good19.length) 7 rfl (by simp)) di (by decide) (by omega) (by omega))<|rS (ir b 0 (Value.int .i64 gd) rfl bk (ak (n:=good19.length) 7 rfl (by simp)) hgdm rfl (by decide) rfl)<|rS (CL (nX (eN l (bj.mk st11 nw12 sg13)) a40 c41 gd (by exact Nat.le_trans lv (by dsimp only; omega))) (aF (ak (n:=(eN l (bj.mk st11 nw12 sg13)).length) 2 rfl (by simp))<|ar) rfl)<|rS (MV rfl) ?_
  refine bo (t:=152) rfl (fun h152=>?_) (fun h152=>?_)
  ·replace h152:=DT h152
   exact absurd h152 (hT.not_false hle hgd h145).1
  replace h152:=DF h152
  refine rS (MV rfl)<|rS (MV rfl)<|rS (CL (nX (dH l (bj.mk st11 nw12 sg13)) a45 c46 ((b:Nat):Int) (by exact Nat.le_trans kp (by omega))) (aF (ak (n:=(dH l (bj.mk st11 nw12 sg13)).length) 1 rfl (by simp))<|ar) rfl)<|rS (PK rfl)<|rS (PK rfl)<|rS (PK rfl)<|RK hK97 ?_
  refine bp rfl (fun h158=>?_) (fun h158=>?_)
  ·replace h158:=DT h158
   exact absurd h158 (hT.not_false hle hgd h145).2
  replace h158:=DF h158
  refine cH<|aL<|KK hK93<|aC<|rS (BI rfl (a9 ⟨by omega,by omega⟩))<|rS (MV rfl)<|aX ?_
  have hb98:(Value.int .i64 (((b+1):Nat):Int))=(Value.int .i64 (((b:Nat):Int)+1)):=by exact congrArg (Value.int .i64) (by omega)
  refine aY (hJ89 ⟨(b+1),(by first|omega|(simp only []; omega))⟩ _ _ _ rfl (by first|omega|(simp; omega)) (an.cons rfl<|an.cons rfl<|an.cons rfl<|an.cons rfl<|an.cons rfl<|an.cons rfl<|an.cons rfl<|an.cons rfl<|an.cons rfl<|a_ rfl hb98<|an.nil _) (fun w hs=>St.bB [1,2,3,4,5,6,7,8,9,10,11,12,13] rfl rfl hs))
 replace h92:=DT h92
 refine rS (MV rfl)<|rS (LN rfl jD)<|rS (FA 4 rfl fV rfl)<|rS (L1 (Value.int .i64 l.aB) 7 rfl bk rfl rfl)<|rS (BI rfl eT)<|rS (PK rfl)<|rS (PK rfl)<|rS (MV rfl) ?_
 refine bo (t:=100) rfl (fun h100=>?_) (fun h100=>?_)
 ·replace h100:=DT h100
  exfalso; have:=hT3.1 h92; omega
 replace h100:=DF h100
 refine rS (MV rfl)<|rS (BI rfl eC)<|rS (MV rfl) ?_
 refine bo (t:=103) rfl (fun h103=>?_) (fun h103=>?_)
 rotate_left 1
 ·replace h103:=DF h103
  refine rS (OX rfl)<|rS (OX rfl)<|rS (OX rfl)<|rS (OX rfl)<|rS (OX rfl)<|rS (PK rfl)<|rS (PK rfl)<|RK hK48<|bH rfl<|WK hK47 ?_
  refine aw fun _ hK68=>WS fun _ hK69=>rS (MV rfl)<|rS (LN rfl jD)<|rS (MV rfl)<|RK hK69<|aH ?_
  have hinit:(0≤times16.length):=by exact Nat.zero_le _
  refine cP (ι:={z:Nat // (z≤times16.length)}) (fun z=>[(2,(Value.pointer (some ⟨b2,0,none⟩))),(5,(Value.bool true)),(6,(Value.pointer (some ⟨b27,0,none⟩))),(7,(Value.slice tA17 times16.length tC18)),(8,(Value.slice gA20 good19.length gC21)),(14,(Value.slice a40 ((eN l (bj.mk st11 nw12 sg13)).length) c41)),(16,(Value.slice a45 ((dH l (bj.mk st11 nw12 sg13)).length) c46)),(111,(Value.slice tA17 times16.length tC18)),(112,(Value.int .i64 ((times16.length:Nat):Int))),(113,(Value.int .i64 ((z.1:Nat):Int)))]) (fun z=>[(own a45 c46 3 1 ((dH l (bj.mk st11 nw12 sg13)).map iC)),(own a40 c41 3 1 ((eN l (bj.mk st11 nw12 sg13)).map iC)),(own a34 c35 3 1 ((cJ l (bj.mk st11 nw12 sg13)).map iC)),(aU b27 31 (aN.cells (aN.mk st11 nw12 (aA.mk sA14 sg13.length sC15)))),(own sA14 sC15 67 2 (sg13.map av.cells)),(own tA17 tC18 3 1 (times16.map iC)),(own gA20 gC21 3 1 (good19.map iC)),(aU b2 28 (aG.cells (aG.mk (ay.mk (aA.mk kA l.au.length kC)) l.bJ (aA.mk cA l.ag.length cC) (aA.mk bA l.aa.length bC) l.aB l.aZ l.aO))),(rd kA l.au.length 9 (l.au.map ah.cells)).ro,(rd cA l.ag.length 2 (List.zipWith ao.cells l.ag az)).ro,(c_ (aP ao.eX l.ag az)).ro,(rd bA l.aa.length 4 (l.aa.map aT.cells)).ro,(rd blA bl.length 1 (bl.map dP)).ro]) (fun z=>times16.length-z.1) ⟨0,hinit⟩ (an.cons rfl<|an.cons rfl<|an.cons rfl<|an.cons rfl<|an.cons rfl<|an.cons rfl<|an.cons rfl<|an.cons rfl<|an.cons rfl<|an.cons rfl<|an.nil _) (fun w hs=>St.bB [0,1,2,3,4,5,6,7,8,9,10,11,12] rfl rfl hs) ?_
  clear hinit
  rintro ⟨b,hl14_0⟩ J70 hJ70
  try dsimp only
  refine WS fun _ hK71=>rS (BI rfl cq)<|RK hK71<|aw fun _ hK72=>?_
  refine bp rfl (fun h73=>?_) (fun h73=>?_)
  rotate_left 1
  ·replace h73:=DF h73
   refine bM<|ai<|ai<|aI<|KK hK68<|aw fun _ hK81=>WS fun _ hK82=>rS (MV rfl)<|rS (LN rfl jD)<|rS (FA 4 rfl fV rfl) ?_
   refine rS (L1 (Value.int .i64 l.aB) 7 rfl bk rfl rfl)<|rS (BI rfl eT)<|RK hK82 ?_
   refine bp rfl (fun h164=>?_) (fun h164=>?_)
   ·replace h164:=DT h164
    refine WS fun _ hK83=>rS (MV rfl)<|rS (AG rfl)<|RK hK83<|aE<|Q1 hQ rfl rfl rfl ?_
    first|rfl|exact congrArg Value.bool (decide_eq_true (by omega))
   replace h164:=DF h164
   refine WK hK81<|WS fun _ hK84=>rS (LW 7 rfl eP rfl rfl)<|rS (LW 3 rfl gE rfl rfl)<|rS (CL (ux l kA kC az cA cC bA bC (bj.mk st11 nw12 sg13) sA14 sC15 (by first|assumption|omega|(simp; done)|(simp; omega)) (by first|assumption|omega|(simp; done)|(simp; omega))) (ax 8 rfl rfl<|ax 9 rfl rfl<|ax 10 rfl rfl<|ax 11 rfl rfl<|aF (ak (n:=sg13.length) 4 rfl (by simp))<|ar) rfl)<|rS (MV rfl)<|rS (EX rfl)<|rS (EX rfl)<|AL rfl dk fun b85=>e7 rfl cv rfl ?_
   refine rS (AG rfl)<|RK hK84<|aw fun _ hK86=>dj ct 32 (by kernel_rfl) ?_
   have hrn:=hT.Bt hle (List.getElem?_eq_getElem (show l.aB.toNat<times16.length by omega)) (by omega)
   refine dS (MV rfl)<|dS (MV rfl)<|dS (MV rfl)<|dS (BI rfl eC)<|dS (PK rfl)<|dS (MV rfl) ?_
   refine db (t:=177) rfl (fun h177=>?_) (fun h177=>?_)
   rotate_left 1
   ·replace h177:=DF h177
    exact absurd hrn.1 h177
   replace h177:=DT h177
   refine dS (MV rfl)<|dS (FA 4 rfl fV rfl)<|dS (L1 (Value.int .i64 l.aB) 8 rfl bk rfl rfl) ?_
   obtain ⟨t,ht⟩: ∃ y_,times16[(l.aB).toNat]? =some y_:=⟨times16[(l.aB).toNat]'(by omega),List.getElem?_eq_getElem _⟩
   have htm:(times16.map iC)[(l.aB).toNat]? =some (iC t):=by rw [List.getElem?_map,ht]; rfl
   refine dS (IA ((l.aB).toNat) rfl (ak (n:=times16.length) 6 rfl (by simp)) di (by decide) (by omega) (by omega))<|dS (ir ((l.aB).toNat) 0 (Value.int .i64 t) rfl bk (ak (n:=times16.length) 6 rfl (by simp)) htm rfl (by decide) rfl) ?_
   have hru:=hT.Bt hle ht (by omega)
   have hsp:=hT.step _ _ ht
   have hfr:=(hT.from_ hle (l.aB.toNat) (by omega)).1
   have hlb:=k5 htr hok (i:=l.aB.toNat) (by omega)
   dsimp only at hru hsp hfr
   refine dS (FA 0 rfl fH rfl)<|dS (L1 (Value.int .i64 st11) 4 rfl bk rfl rfl)<|dS (BI rfl (cr ⟨by omega,by omega⟩))<|dS (FA 0 rfl bP rfl)<|dS (L1 (Value.int .i64 ((l6 l (bj.mk st11 nw12 sg13)).Lo)) 0 rfl bk rfl rfl)<|dS (BI rfl il)<|dS (PK rfl)<|dS (MV rfl) ?_
   refine db (t:=190) rfl (fun h190=>?_) (fun h190=>?_)
   rotate_left 1
   ·replace h190:=DF h190
    exfalso; omega
   replace h190:=DT h190
   refine dS (MV rfl)<|dS (FA 4 rfl fV rfl)<|dS (L1 (Value.int .i64 l.aB) 8 rfl bk rfl rfl)<|dS (IA ((l.aB).toNat) rfl (ak (n:=times16.length) 6 rfl (by simp)) di (by decide) (by omega) (by omega))<|dS (ir ((l.aB).toNat) 0 (Value.int .i64 t) rfl bk (ak (n:=times16.length) 6 rfl (by simp)) htm rfl (by decide) rfl)<|dS (FA 0 rfl fH rfl)<|dS (L1 (Value.int .i64 st11) 4 rfl bk rfl rfl)<|dS (BI rfl (cr ⟨by omega,by omega⟩))<|dS (FA 1 rfl bZ rfl)<|dS (L1 (Value.int .i64 ((l6 l (bj.mk st11 nw12 sg13)).Hi)) 0 rfl bk rfl rfl) ?_
   refine dS (BI rfl eT)<|dS (PK rfl)<|dS (AG rfl)<|cE<|RK hK86<|aE<|Q1 hQ rfl rfl rfl ?_
   first|rfl|exact congrArg Value.bool (decide_eq_true (by omega))
  replace h73:=DT h73
  refine WK hK72<|aw fun _ hK74=>aH<|WS fun _ hK75=>rS (MV rfl) ?_
  obtain ⟨t,ht⟩: ∃ y_,times16[b]? =some y_:=⟨times16[b]'(by omega),List.getElem?_eq_getElem _⟩
  have htm:(times16.map iC)[b]? =some (iC t):=by rw [List.getElem?_map,ht]; rfl
  refine rS (IA b rfl (ak (n:=times16.length) 5 rfl (by simp)) di (by decide) (by omega) (by omega))<|rS (ir b 0 (Value.int .i64 t) rfl bk (ak (n:=times16.length) 5 rfl (by simp)) htm rfl (by decide) rfl)<|rS (AG rfl)<|rS (AG rfl)<|RK hK75<|WS fun _ hK76=>?_
  have hps:=hT.nM hle ht
  refine rS (LW 7 rfl eP rfl rfl)<|rS (LW 3 rfl gE rfl rfl)<|rS (MV rfl)<|rS (CL (ld l kA kC az cA cC bA bC (bj.mk st11 nw12 sg13) sA14 sC15 ((b:Nat):Int) (by first|assumption|omega|(simp; done)|(simp; omega)) (by first|assumption|omega|(simp; done)|(simp; omega))) (ax 8 rfl rfl<|ax 9 rfl rfl<|ax 10 rfl rfl<|ax 11 rfl rfl<|aF (ak (n:=sg13.length) 4 rfl (by simp))<|ar) rfl)<|rS (MV rfl)<|rS (EX rfl)<|rS (EX rfl)<|AL rfl dk fun b77=>e7 rfl cv rfl<|rS (AG rfl) ?_
  refine RK hK76<|WS fun _ hK78=>rS (MV rfl)<|rS (BI rfl eB)<|rS (MV rfl) ?_
  refine bo (t:=127) rfl (fun h127=>?_) (fun h127=>?_)
  ·replace h127:=XT h127
   exact absurd hps.1 h127
  replace h127:=XF h127
  refine rS (MV rfl)<|rS (FA 0 rfl bP rfl)<|rS (L1 (Value.int .i64 ((bR l (bj.mk st11 nw12 sg13) ((b:Nat):Int)).Lo)) 0 rfl bk rfl rfl)<|rS (BI rfl cq)<|rS (PK rfl)<|rS (MV rfl) ?_
  refine bo (t:=133) rfl (fun h133=>?_) (fun h133=>?_)
  ·replace h133:=DT h133
   exfalso; omega
  replace h133:=DF h133
  refine rS (MV rfl)<|rS (FA 1 rfl bZ rfl)<|rS (L1 (Value.int .i64 ((bR l (bj.mk st11 nw12 sg13) ((b:Nat):Int)).Hi)) 0 rfl bk rfl rfl)<|rS (BI rfl eL)<|rS (PK rfl)<|rS (MV rfl) ?_
  refine bo (t:=139) rfl (fun h139=>?_) (fun h139=>?_)
  ·replace h139:=DT h139
   exfalso; omega
  replace h139:=DF h139
  refine rS (MV rfl)<|rS (MV rfl) ?_
  obtain ⟨gd,hgd⟩: ∃ y_,good19[b]? =some y_:=⟨good19[b]'(by omega),List.getElem?_eq_getElem _⟩
  have hgdm:(good19.map iC)[b]? =some (iC gd):=by rw [List.getElem?_map,hgd]; rfl
  refine rS (IA b rfl (ak (n:=good19.length) 7 rfl (by simp)) di (by decide) (by omega) (by omega))<|rS (ir b 0 (Value.int .i64 gd) rfl bk (ak (n:=good19.length) 7 rfl (by simp)) hgdm rfl (by decide) rfl)<|rS (BI rfl il)<|rS (MV rfl) ?_
  refine bo (t:=145) rfl (fun h145=>?_) (fun h145=>?_)
  rotate_left 1
  ·replace h145:=DF h145
   refine rS (OX rfl)<|rS (OX rfl)<|rS (OX rfl)<|rS (OX rfl)<|rS (OX rfl)<|rS (OX rfl)<|rS (OX rfl)<|rS (OX rfl)<|rS (OX rfl)<|rS (OX rfl) ?_
   refine rS (OX rfl)<|rS (PK rfl)<|rS (PK rfl)<|RK hK78<|bH rfl<|cH<|aL<|KK hK74<|aC<|rS (BI rfl (a9 ⟨by omega,by omega⟩)) ?_
   refine rS (MV rfl)<|aX ?_
   have hb80:(Value.int .i64 (((b+1):Nat):Int))=(Value.int .i64 (((b:Nat):Int)+1)):=by exact congrArg (Value.int .i64) (by omega)
   refine aY (hJ70 ⟨(b+1),(by first|omega|(simp only []; omega))⟩ _ _ _ rfl (by first|omega|(simp; omega)) (an.cons rfl<|an.cons rfl<|an.cons rfl<|an.cons rfl<|an.cons rfl<|an.cons rfl<|an.cons rfl<|an.cons rfl<|an.cons rfl<|a_ rfl hb80<|an.nil _) (fun w hs=>St.bB [1,2,3,4,5,6,7,8,9,10,11,12,13] rfl rfl hs))
  replace h145:=DT h145
  refine rS (MV rfl)<|rS (MV rfl)<|rS (MV rfl)<|rS (IA b rfl (ak (n:=good19.length) 7 rfl (by simp)) di (by decide) (by omega) (by omega))<|rS (ir b 0 (Value.int .i64 gd) rfl bk (ak (n:=good19.length) 7 rfl (by simp)) hgdm rfl (by decide) rfl)<|rS (CL (nX (eN l (bj.mk st11 nw12 sg13)) a40 c41 gd (by exact Nat.le_trans lv (by dsimp only; omega))) (aF (ak (n:=(eN l (bj.mk st11 nw12 sg13)).length) 2 rfl (by simp))<|ar) rfl)<|rS (MV rfl) ?_
  refine bo (t:=152) rfl (fun h152=>?_) (fun h152=>?_)
  ·replace h152:=DT h152
   exact absurd h152 (hT.not_false hle hgd h145).1
  replace h152:=DF h152
  refine rS (MV rfl)<|rS (MV rfl)<|rS (CL (nX (dH l (bj.mk st11 nw12 sg13)) a45 c46 ((b:Nat):Int) (by exact Nat.le_trans kp (by omega))) (aF (ak (n:=(dH l (bj.mk st11 nw12 sg13)).length) 1 rfl (by simp))<|ar) rfl)<|rS (PK rfl)<|rS (PK rfl)<|rS (PK rfl)<|RK hK78 ?_
  refine bp rfl (fun h158=>?_) (fun h158=>?_)
  ·replace h158:=DT h158
   exact absurd h158 (hT.not_false hle hgd h145).2
  replace h158:=DF h158
  refine cH<|aL<|KK hK74<|aC<|rS (BI rfl (a9 ⟨by omega,by omega⟩))<|rS (MV rfl)<|aX ?_
  have hb79:(Value.int .i64 (((b+1):Nat):Int))=(Value.int .i64 (((b:Nat):Int)+1)):=by exact congrArg (Value.int .i64) (by omega)
  refine aY (hJ70 ⟨(b+1),(by first|omega|(simp only []; omega))⟩ _ _ _ rfl (by first|omega|(simp; omega)) (an.cons rfl<|an.cons rfl<|an.cons rfl<|an.cons rfl<|an.cons rfl<|an.cons rfl<|an.cons rfl<|an.cons rfl<|an.cons rfl<|a_ rfl hb79<|an.nil _) (fun w hs=>St.bB [1,2,3,4,5,6,7,8,9,10,11,12,13] rfl rfl hs))
 replace h103:=DT h103
 refine rS (MV rfl)<|rS (LN rfl jD)<|rS (FA 4 rfl fV rfl)<|rS (L1 (Value.int .i64 l.aB) 7 rfl bk rfl rfl)<|rS (BI rfl eL)<|rS (PK rfl)<|rS (PK rfl)<|RK hK48 ?_
 refine bp rfl (fun h110=>?_) (fun h110=>?_)
 ·replace h110:=DT h110
  exfalso; have:=hT3.2 h103; omega
 replace h110:=DF h110
 refine WK hK47<|aw fun _ hK49=>WS fun _ hK50=>rS (MV rfl)<|rS (LN rfl jD)<|rS (MV rfl)<|RK hK50<|aH ?_
 have hinit:(0≤times16.length):=by exact Nat.zero_le _
 refine cP (ι:={z:Nat // (z≤times16.length)}) (fun z=>[(2,(Value.pointer (some ⟨b2,0,none⟩))),(5,(Value.bool true)),(6,(Value.pointer (some ⟨b27,0,none⟩))),(7,(Value.slice tA17 times16.length tC18)),(8,(Value.slice gA20 good19.length gC21)),(14,(Value.slice a40 ((eN l (bj.mk st11 nw12 sg13)).length) c41)),(16,(Value.slice a45 ((dH l (bj.mk st11 nw12 sg13)).length) c46)),(111,(Value.slice tA17 times16.length tC18)),(112,(Value.int .i64 ((times16.length:Nat):Int))),(113,(Value.int .i64 ((z.1:Nat):Int)))]) (fun z=>[(own a45 c46 3 1 ((dH l (bj.mk st11 nw12 sg13)).map iC)),(own a40 c41 3 1 ((eN l (bj.mk st11 nw12 sg13)).map iC)),(own a34 c35 3 1 ((cJ l (bj.mk st11 nw12 sg13)).map iC)),(aU b27 31 (aN.cells (aN.mk st11 nw12 (aA.mk sA14 sg13.length sC15)))),(own sA14 sC15 67 2 (sg13.map av.cells)),(own tA17 tC18 3 1 (times16.map iC)),(own gA20 gC21 3 1 (good19.map iC)),(aU b2 28 (aG.cells (aG.mk (ay.mk (aA.mk kA l.au.length kC)) l.bJ (aA.mk cA l.ag.length cC) (aA.mk bA l.aa.length bC) l.aB l.aZ l.aO))),(rd kA l.au.length 9 (l.au.map ah.cells)).ro,(rd cA l.ag.length 2 (List.zipWith ao.cells l.ag az)).ro,(c_ (aP ao.eX l.ag az)).ro,(rd bA l.aa.length 4 (l.aa.map aT.cells)).ro,(rd blA bl.length 1 (bl.map dP)).ro]) (fun z=>times16.length-z.1) ⟨0,hinit⟩ (an.cons rfl<|an.cons rfl<|an.cons rfl<|an.cons rfl<|an.cons rfl<|an.cons rfl<|an.cons rfl<|an.cons rfl<|an.cons rfl<|an.cons rfl<|an.nil _) (fun w hs=>St.bB [0,1,2,3,4,5,6,7,8,9,10,11,12] rfl rfl hs) ?_
 clear hinit
 rintro ⟨b,hl14_0⟩ J51 hJ51
 try dsimp only
 refine WS fun _ hK52=>rS (BI rfl cq)<|RK hK52<|aw fun _ hK53=>?_
 refine bp rfl (fun h54=>?_) (fun h54=>?_)
 rotate_left 1
 ·replace h54:=DF h54
  refine bM<|ai<|ai<|aI<|KK hK49<|aw fun _ hK62=>WS fun _ hK63=>rS (MV rfl)<|rS (LN rfl jD)<|rS (FA 4 rfl fV rfl) ?_
  refine rS (L1 (Value.int .i64 l.aB) 7 rfl bk rfl rfl)<|rS (BI rfl eT)<|RK hK63 ?_
  refine bp rfl (fun h164=>?_) (fun h164=>?_)
  ·replace h164:=DT h164
   refine WS fun _ hK64=>rS (MV rfl)<|rS (AG rfl)<|RK hK64<|aE<|Q1 hQ rfl rfl rfl ?_
   first|rfl|exact congrArg Value.bool (decide_eq_true (by omega))
  replace h164:=DF h164
  refine WK hK62<|WS fun _ hK65=>rS (LW 7 rfl eP rfl rfl)<|rS (LW 3 rfl gE rfl rfl)<|rS (CL (ux l kA kC az cA cC bA bC (bj.mk st11 nw12 sg13) sA14 sC15 (by first|assumption|omega|(simp; done)|(simp; omega)) (by first|assumption|omega|(simp; done)|(simp; omega))) (ax 8 rfl rfl<|ax 9 rfl rfl<|ax 10 rfl rfl<|ax 11 rfl rfl<|aF (ak (n:=sg13.length) 4 rfl (by simp))<|ar) rfl)<|rS (MV rfl)<|rS (EX rfl)<|rS (EX rfl)<|AL rfl dk fun b66=>e7 rfl cv rfl ?_
  refine rS (AG rfl)<|RK hK65<|aw fun _ hK67=>dj ct 32 (by kernel_rfl) ?_
  have hrn:=hT.Bt hle (List.getElem?_eq_getElem (show l.aB.toNat<times16.length by omega)) (by omega)
  refine dS (MV rfl)<|dS (MV rfl)<|dS (MV rfl)<|dS (BI rfl eC)<|dS (PK rfl)<|dS (MV rfl) ?_
  refine db (t:=177) rfl (fun h177=>?_) (fun h177=>?_)
  rotate_left 1
  ·replace h177:=DF h177
   exact absurd hrn.1 h177
  replace h177:=DT h177
  refine dS (MV rfl)<|dS (FA 4 rfl fV rfl)<|dS (L1 (Value.int .i64 l.aB) 8 rfl bk rfl rfl) ?_
  obtain ⟨t,ht⟩: ∃ y_,times16[(l.aB).toNat]? =some y_:=⟨times16[(l.aB).toNat]'(by omega),List.getElem?_eq_getElem _⟩
  have htm:(times16.map iC)[(l.aB).toNat]? =some (iC t):=by rw [List.getElem?_map,ht]; rfl
  refine dS (IA ((l.aB).toNat) rfl (ak (n:=times16.length) 6 rfl (by simp)) di (by decide) (by omega) (by omega))<|dS (ir ((l.aB).toNat) 0 (Value.int .i64 t) rfl bk (ak (n:=times16.length) 6 rfl (by simp)) htm rfl (by decide) rfl) ?_
  have hru:=hT.Bt hle ht (by omega)
  have hsp:=hT.step _ _ ht
  have hfr:=(hT.from_ hle (l.aB.toNat) (by omega)).1
  have hlb:=k5 htr hok (i:=l.aB.toNat) (by omega)
  dsimp only at hru hsp hfr
  refine dS (FA 0 rfl fH rfl)<|dS (L1 (Value.int .i64 st11) 4 rfl bk rfl rfl)<|dS (BI rfl (cr ⟨by omega,by omega⟩))<|dS (FA 0 rfl bP rfl)<|dS (L1 (Value.int .i64 ((l6 l (bj.mk st11 nw12 sg13)).Lo)) 0 rfl bk rfl rfl)<|dS (BI rfl il)<|dS (PK rfl)<|dS (MV rfl) ?_
  refine db (t:=190) rfl (fun h190=>?_) (fun h190=>?_)
  rotate_left 1
  ·replace h190:=DF h190
   exfalso; omega
  replace h190:=DT h190
  refine dS (MV rfl)<|dS (FA 4 rfl fV rfl)<|dS (L1 (Value.int .i64 l.aB) 8 rfl bk rfl rfl)<|dS (IA ((l.aB).toNat) rfl (ak (n:=times16.length) 6 rfl (by simp)) di (by decide) (by omega) (by omega))<|dS (ir ((l.aB).toNat) 0 (Value.int .i64 t) rfl bk (ak (n:=times16.length) 6 rfl (by simp)) htm rfl (by decide) rfl)<|dS (FA 0 rfl fH rfl)<|dS (L1 (Value.int .i64 st11) 4 rfl bk rfl rfl)<|dS (BI rfl (cr ⟨by omega,by omega⟩))<|dS (FA 1 rfl bZ rfl)<|dS (L1 (Value.int .i64 ((l6 l (bj.mk st11 nw12 sg13)).Hi)) 0 rfl bk rfl rfl) ?_
  refine dS (BI rfl eT)<|dS (PK rfl)<|dS (AG rfl)<|cE<|RK hK67<|aE<|Q1 hQ rfl rfl rfl ?_
  first|rfl|exact congrArg Value.bool (decide_eq_true (by omega))
 replace h54:=DT h54
 refine WK hK53<|aw fun _ hK55=>aH<|WS fun _ hK56=>rS (MV rfl) ?_
 obtain ⟨t,ht⟩: ∃ y_,times16[b]? =some y_:=⟨times16[b]'(by omega),List.getElem?_eq_getElem _⟩
 have htm:(times16.map iC)[b]? =some (iC t):=by rw [List.getElem?_map,ht]; rfl
 refine rS (IA b rfl (ak (n:=times16.length) 5 rfl (by simp)) di (by decide) (by omega) (by omega))<|rS (ir b 0 (Value.int .i64 t) rfl bk (ak (n:=times16.length) 5 rfl (by simp)) htm rfl (by decide) rfl)<|rS (AG rfl)<|rS (AG rfl)<|RK hK56<|WS fun _ hK57=>?_
 have hps:=hT.nM hle ht
 refine rS (LW 7 rfl eP rfl rfl)<|rS (LW 3 rfl gE rfl rfl)<|rS (MV rfl)<|rS (CL (ld l kA kC az cA cC bA bC (bj.mk st11 nw12 sg13) sA14 sC15 ((b:Nat):Int) (by first|assumption|omega|(simp; done)|(simp; omega)) (by first|assumption|omega|(simp; done)|(simp; omega))) (ax 8 rfl rfl<|ax 9 rfl rfl<|ax 10 rfl rfl<|ax 11 rfl rfl<|aF (ak (n:=sg13.length) 4 rfl (by simp))<|ar) rfl)<|rS (MV rfl)<|rS (EX rfl)<|rS (EX rfl)<|AL rfl dk fun b58=>e7 rfl cv rfl<|rS (AG rfl) ?_
 refine RK hK57<|WS fun _ hK59=>rS (MV rfl)<|rS (BI rfl eB)<|rS (MV rfl) ?_
 refine bo (t:=127) rfl (fun h127=>?_) (fun h127=>?_)
 ·replace h127:=XT h127
  exact absurd hps.1 h127
 replace h127:=XF h127
 refine rS (MV rfl)<|rS (FA 0 rfl bP rfl)<|rS (L1 (Value.int .i64 ((bR l (bj.mk st11 nw12 sg13) ((b:Nat):Int)).Lo)) 0 rfl bk rfl rfl)<|rS (BI rfl cq)<|rS (PK rfl)<|rS (MV rfl) ?_
 refine bo (t:=133) rfl (fun h133=>?_) (fun h133=>?_)
 ·replace h133:=DT h133
  exfalso; omega
 replace h133:=DF h133
 refine rS (MV rfl)<|rS (FA 1 rfl bZ rfl)<|rS (L1 (Value.int .i64 ((bR l (bj.mk st11 nw12 sg13) ((b:Nat):Int)).Hi)) 0 rfl bk rfl rfl)<|rS (BI rfl eL)<|rS (PK rfl)<|rS (MV rfl) ?_
 refine bo (t:=139) rfl (fun h139=>?_) (fun h139=>?_)
 ·replace h139:=DT h139
  exfalso; omega
 replace h139:=DF h139
 refine rS (MV rfl)<|rS (MV rfl) ?_
 obtain ⟨gd,hgd⟩: ∃ y_,good19[b]? =some y_:=⟨good19[b]'(by omega),List.getElem?_eq_getElem _⟩
 have hgdm:(good19.map iC)[b]? =some (iC gd):=by rw [List.getElem?_map,hgd]; rfl
 refine rS (IA b rfl (ak (n:=good19.length) 7 rfl (by simp)) di (by decide) (by omega) (by omega))<|rS (ir b 0 (Value.int .i64 gd) rfl bk (ak (n:=good19.length) 7 rfl (by simp)) hgdm rfl (by decide) rfl)<|rS (BI rfl il)<|rS (MV rfl) ?_
 refine bo (t:=145) rfl (fun h145=>?_) (fun h145=>?_)
 rotate_left 1
 ·replace h145:=DF h145
  refine rS (OX rfl)<|rS (OX rfl)<|rS (OX rfl)<|rS (OX rfl)<|rS (OX rfl)<|rS (OX rfl)<|rS (OX rfl)<|rS (OX rfl)<|rS (OX rfl)<|rS (OX rfl) ?_
  refine rS (OX rfl)<|rS (PK rfl)<|rS (PK rfl)<|RK hK59<|bH rfl<|cH<|aL<|KK hK55<|aC<|rS (BI rfl (a9 ⟨by omega,by omega⟩)) ?_
  refine rS (MV rfl)<|aX ?_
  have hb61:(Value.int .i64 (((b+1):Nat):Int))=(Value.int .i64 (((b:Nat):Int)+1)):=by exact congrArg (Value.int .i64) (by omega)
  refine aY (hJ51 ⟨(b+1),(by first|omega|(simp only []; omega))⟩ _ _ _ rfl (by first|omega|(simp; omega)) (an.cons rfl<|an.cons rfl<|an.cons rfl<|an.cons rfl<|an.cons rfl<|an.cons rfl<|an.cons rfl<|an.cons rfl<|an.cons rfl<|a_ rfl hb61<|an.nil _) (fun w hs=>St.bB [1,2,3,4,5,6,7,8,9,10,11,12,13] rfl rfl hs))
 replace h145:=DT h145
 refine rS (MV rfl)<|rS (MV rfl)<|rS (MV rfl)<|rS (IA b rfl (ak (n:=good19.length) 7 rfl (by simp)) di (by decide) (by omega) (by omega))<|rS (ir b 0 (Value.int .i64 gd) rfl bk (ak (n:=good19.length) 7 rfl (by simp)) hgdm rfl (by decide) rfl)<|rS (CL (nX (eN l (bj.mk st11 nw12 sg13)) a40 c41 gd (by exact Nat.le_trans lv (by dsimp only; omega))) (aF (ak (n:=(eN l (bj.mk st11 nw12 sg13)).length) 2 rfl (by simp))<|ar) rfl)<|rS (MV rfl) ?_
 refine bo (t:=152) rfl (fun h152=>?_) (fun h152=>?_)
 ·replace h152:=DT h152
  exact absurd h152 (hT.not_false hle hgd h145).1
 replace h152:=DF h152
 refine rS (MV rfl)<|rS (MV rfl)<|rS (CL (nX (dH l (bj.mk st11 nw12 sg13)) a45 c46 ((b:Nat):Int) (by exact Nat.le_trans kp (by omega))) (aF (ak (n:=(dH l (bj.mk st11 nw12 sg13)).length) 1 rfl (by simp))<|ar) rfl)<|rS (PK rfl)<|rS (PK rfl)<|rS (PK rfl)<|RK hK59 ?_
 refine bp rfl (fun h158=>?_) (fun h158=>?_)
 ·replace h158:=DT h158
  exact absurd h158 (hT.not_false hle hgd h145).2
 replace h158:=DF h158
 refine cH<|aL<|KK hK55<|aC<|rS (BI rfl (a9 ⟨by omega,by omega⟩))<|rS (MV rfl)<|aX ?_
 have hb60:(Value.int .i64 (((b+1):Nat):Int))=(Value.int .i64 (((b:Nat):Int)+1)):=by exact congrArg (Value.int .i64) (by omega)
 refine aY (hJ51 ⟨(b+1),(by first|omega|(simp only []; omega))⟩ _ _ _ rfl (by first|omega|(simp; omega)) (an.cons rfl<|an.cons rfl<|an.cons rfl<|an.cons rfl<|an.cons rfl<|an.cons rfl<|an.cons rfl<|an.cons rfl<|an.cons rfl<|a_ rfl hb60<|an.nil _) (fun w hs=>St.bB [1,2,3,4,5,6,7,8,9,10,11,12,13] rfl rfl hs))
end
section
open Go.RowKit
set_option linter.unusedVariables false
def oq {α:Type} (cells:α→List Value) (sz:Nat) (R:World→α→Prop) (w:World) (s:aA):Prop:= ∃ l:List α,s.n=l.length∧(rd s.a l.length sz (l.map cells)).holds w∧(∀ x∈l,R w x)∧l.length≤maxLen∧s.n≤s.c
theorem pB {w:World} {R:World→bI→Prop}: ∀ {l:List b_},(∀ x∈l,oq bI.cells 3 R w x.aJ)→ ∃ (ms:List ao) (az:List RA),l.map b_.cells=List.zipWith ao.cells ms az∧ms.length=l.length∧az.length=l.length∧(∀ X∈aP ao.eX ms az,X.holds w)∧
 (∀ (k:Nat) m (a:RA),ms[k]? =some m→az[k]? =some a→m.aJ.length≤a.2∧m.aJ.length≤9223372036854775807)∧ms.map (fun m=>m.cz)=l.map (fun x=>x.cz)∧ ∀ (k:Nat) m y,ms[k]? =some m→y∈m.aJ→R w y
 |[],_=>⟨[],[],rfl,rfl,rfl,(fun X hX=>by cases hX),(fun k m a h=>by simp at h),rfl,(fun k m y h=>by simp at h)⟩
 |x::l,h=>by
  obtain ⟨ms,az,h1,h2,h3,h4,h5,h6,h7⟩:=pB (fun y hy=>h y (List.mem_cons_of_mem _ hy))
  obtain ⟨sy,e1,e2,e3,e4,e5⟩:=h x (by simp)
  have e4':sy.length≤9223372036854775807:=e4
  refine ⟨⟨x.cz,sy⟩::ms,(x.aJ.a,x.aJ.c)::az,?_,by simp [h2],by simp [h3],fun X hX=>?_,fun k m a hm ha=>?_,by simp [h6],fun k m y hm hy=>?_⟩
  ·obtain ⟨dr,⟨a,n,c⟩⟩:=x
   simp only at e1
   subst e1
   simp only [List.map_cons,List.zipWith_cons_cons,h1]
   rfl
  ·rcases List.mem_append.1 hX with hX|hX
   ·simp only [ao.eX,List.mem_singleton] at hX
    subst hX; exact e2
   ·exact h4 X hX
  ·cases k with
   |zero=>
    simp only [List.getElem?_cons_zero,Option.some.injEq] at hm ha
    subst hm ha
    exact ⟨by simp only; omega,e4'⟩
   |succ k=>exact h5 k m a (by simpa using hm) (by simpa using ha)
  ·cases k with
   |zero=>
    simp only [List.getElem?_cons_zero,Option.some.injEq] at hm
    subst hm
    exact e3 y hy
   |succ k=>exact h7 k m y (by simpa using hm) hy
theorem w5 {w:World} {s:aG} {R1:World→ah→Prop} {R2:World→b_→Prop} {R3:World→aT→Prop} {R4:World→bI→Prop} (h1:oq ah.cells 9 R1 w s.au.jf) (hs: ∀ x,R1 w x→0≤x.fx∧x.fx≤255) (h2:oq b_.cells 2 R2 w s.ag) (hc: ∀ x,R2 w x→oq bI.cells 3 R4 w x.aJ) (h3:oq aT.cells 4 R3 w s.aa):
 ∃ (l:aV) (az:List RA) (kA:Option Addr) (kC:Nat) (cA:Option Addr) (cC:Nat) (bA:Option Addr) (bC:Nat),s=aG.mk (ay.mk (aA.mk kA l.au.length kC)) l.bJ (aA.mk cA l.ag.length cC) (aA.mk bA l.aa.length bC) l.aB l.aZ l.aO∧jN l az∧
  ((rd kA l.au.length 9 (l.au.map ah.cells)).holds w∧(rd cA l.ag.length 2 (List.zipWith ao.cells l.ag az)).holds w∧(c_ (aP ao.eX l.ag az)).holds w∧(rd bA l.aa.length 4 (l.aa.map aT.cells)).holds w)∧l.bJ=s.bJ∧l.aB=s.aB∧l.aZ=s.aZ∧l.aO=s.aO:=by
 obtain ⟨⟨⟨ka,kn,kc⟩⟩,fa,⟨ca,cn,cc⟩,⟨ba,bn,bc⟩,fi,fk,mi⟩:=s
 obtain ⟨ts,t1,t2,t3,t4,t5⟩:=h1
 obtain ⟨cs,c1,c2,c3,c4,c5⟩:=h2
 obtain ⟨bs,b1,b2,b3,b4,b5⟩:=h3
 simp only at t1 c1 b1
 subst t1 c1 b1
 obtain ⟨ms,az,m1,m2,m3,m4,m5,_⟩:=pB (fun x hx=>hc x (c3 x hx))
 have t4':ts.length≤9223372036854775807:=t4
 have c4':cs.length≤9223372036854775807:=c4
 have b4':bs.length≤9223372036854775807:=b4
 refine ⟨⟨ts,fa,ms,bs,fi,fk,mi⟩,az,ka,kc,ca,cc,ba,bc,by simp only [m2],⟨t4',fun x hx=>hs x (t3 x hx),by simp only; omega,by simp only; omega,b4',m5⟩,⟨t2,?_,m4,b2⟩,rfl,rfl,rfl,rfl⟩
 simp only at c2 ⊢
 rw [m2,← m1]; exact c2
end
section
open Go.ChangeShapes Go.WideShapes Go.ChangeAt Go.RowKit
set_option linter.unusedVariables false
theorem FX:Tryz.prog.cellsOf 28=7:=by kernel_rfl
theorem Dp:Tryz.prog.cellsOf 24=1:=by kernel_rfl
theorem Fv:Tryz.prog.cellsOf 22=1:=by kernel_rfl
theorem Bd:Tryz.prog.cellsOf 141=9:=by kernel_rfl
theorem xD:Tryz.prog.cellsOf 3=1:=by kernel_rfl
def wy (w:World) (n:Int):Prop:=mC n
theorem xB:pR Tryz.prog 3 Int iC wy:=Cs rl
theorem wT:Tryz.prog.cellsOf 47=2:=by kernel_rfl
structure xq (w:World) (s:ab):Prop where
 Lo:wy w s.Lo
 Hi:wy w s.Hi
theorem F8:fL Tryz.prog 47=some [(3,0),(3,1)]:=by kernel_rfl
theorem xW:pR Tryz.prog 47 ab ab.cells xq:=fun {H} enc w base sp held fuel cs x h=>by
 obtain ⟨hl,hp⟩:=jm F8 h
 obtain ⟨n0,y0,h0⟩:=hp 0 3 0 rfl
 obtain ⟨s0,c0,r0⟩:=xB _ _ _ _ _ _ _ _ h0
 obtain ⟨n1,y1,h1⟩:=hp 1 3 1 rfl
 obtain ⟨s1,c1,r1⟩:=xB _ _ _ _ _ _ _ _ h1
 refine ⟨⟨s0,s1⟩,?_,⟨r0,r1⟩⟩
 have e1:=gU (hl.trans wT) (by rw [xD]) c1
 have e0:=dN c0 (m:=1) (by rw [xD]) e1
 exact e0
theorem G3:Tryz.prog.cellsOf 5=1:=by kernel_rfl
def GY (w:World) (n:Int):Prop:=0≤n∧n≤255
theorem G5:pR Tryz.prog 5 Int yf GY:=Ek EP
structure xE (w:World) (s:ah):Prop where
 Id:wy w s.Id
 g7:xq w s.g7
 iL:xq w s.iL
 cR:xq w s.cR
 fx:GY w s.fx
 pP:wy w s.pP
theorem D1:fL Tryz.prog 141=some [(3,0),(47,1),(47,3),(47,5),(5,7),(3,8)]:=by kernel_rfl
theorem Dc:pR Tryz.prog 141 ah ah.cells xE:=fun {H} enc w base sp held fuel cs x h=>by
 obtain ⟨hl,hp⟩:=jm D1 h
 obtain ⟨n0,y0,h0⟩:=hp 0 3 0 rfl
 obtain ⟨s0,c0,r0⟩:=xB _ _ _ _ _ _ _ _ h0
 obtain ⟨n1,y1,h1⟩:=hp 1 47 1 rfl
 obtain ⟨s1,c1,r1⟩:=xW _ _ _ _ _ _ _ _ h1
 obtain ⟨n2,y2,h2⟩:=hp 2 47 3 rfl
 obtain ⟨s2,c2,r2⟩:=xW _ _ _ _ _ _ _ _ h2
 obtain ⟨n3,y3,h3⟩:=hp 3 47 5 rfl
 obtain ⟨s3,c3,r3⟩:=xW _ _ _ _ _ _ _ _ h3
 obtain ⟨n4,y4,h4⟩:=hp 4 5 7 rfl
 obtain ⟨s4,c4,r4⟩:=G5 _ _ _ _ _ _ _ _ h4
 obtain ⟨n5,y5,h5⟩:=hp 5 3 8 rfl
 obtain ⟨s5,c5,r5⟩:=xB _ _ _ _ _ _ _ _ h5
 refine ⟨⟨s0,s1,s2,s3,s4,s5⟩,?_,⟨r0,r1,r2,r3,r4,r5⟩⟩
 have e5:=gU (hl.trans Bd) (by rw [xD]) c5
 have e4:=dN c4 (m:=8) (by rw [G3]) e5
 have e3:=dN c3 (m:=7) (by rw [wT]) e4
 have e2:=dN c2 (m:=5) (by rw [wT]) e3
 have e1:=dN c1 (m:=3) (by rw [wT]) e2
 have e0:=dN c0 (m:=1) (by rw [xD]) e1
 exact e0
def Ea (w:World) (s:aA):Prop:= ∃ l:List ah,s.n=l.length∧(rd s.a l.length 9 (l.map ah.cells)).holds w∧(∀ x∈l,xE w x)∧l.length≤maxLen∧s.n≤s.c
theorem Gf:pR Tryz.prog 22 aA (fun s=>[Value.slice s.a s.n s.c]) Ea:=mw rj Bd Dc
structure Ex (w:World) (s:ay):Prop where
 jf:Ea w s.jf
theorem Ft:fL Tryz.prog 24=some [(22,0)]:=by kernel_rfl
theorem GC:pR Tryz.prog 24 ay ay.cells Ex:=fun {H} enc w base sp held fuel cs x h=>by
 obtain ⟨hl,hp⟩:=jm Ft h
 obtain ⟨n0,y0,h0⟩:=hp 0 22 0 rfl
 obtain ⟨s0,c0,r0⟩:=Gf _ _ _ _ _ _ _ _ h0
 refine ⟨⟨s0⟩,?_,⟨r0⟩⟩
 have e0:=gU (hl.trans Dp) (by rw [Fv]) c0
 exact e0
theorem GP:Tryz.prog.cellsOf 25=1:=by kernel_rfl
theorem Dx:Tryz.prog.cellsOf 63=2:=by kernel_rfl
theorem E2:Tryz.prog.cellsOf 61=1:=by kernel_rfl
theorem DZ:Tryz.prog.cellsOf 65=3:=by kernel_rfl
structure BU (w:World) (s:bI):Prop where
 At:wy w s.At
 cx:xq w s.cx
theorem E5:fL Tryz.prog 65=some [(3,0),(47,1)]:=by kernel_rfl
theorem Fa:pR Tryz.prog 65 bI bI.cells BU:=fun {H} enc w base sp held fuel cs x h=>by
 obtain ⟨hl,hp⟩:=jm E5 h
 obtain ⟨n0,y0,h0⟩:=hp 0 3 0 rfl
 obtain ⟨s0,c0,r0⟩:=xB _ _ _ _ _ _ _ _ h0
 obtain ⟨n1,y1,h1⟩:=hp 1 47 1 rfl
 obtain ⟨s1,c1,r1⟩:=xW _ _ _ _ _ _ _ _ h1
 refine ⟨⟨s0,s1⟩,?_,⟨r0,r1⟩⟩
 have e1:=gU (hl.trans DZ) (by rw [wT]) c1
 have e0:=dN c0 (m:=1) (by rw [xD]) e1
 exact e0
def Eo (w:World) (s:aA):Prop:= ∃ l:List bI,s.n=l.length∧(rd s.a l.length 3 (l.map bI.cells)).holds w∧(∀ x∈l,BU w x)∧l.length≤maxLen∧s.n≤s.c
theorem E9:pR Tryz.prog 61 aA (fun s=>[Value.slice s.a s.n s.c]) Eo:=mw s8 DZ Fa
structure Ct (w:World) (s:b_):Prop where
 cz:wy w s.cz
 aJ:Eo w s.aJ
theorem FZ:fL Tryz.prog 63=some [(3,0),(61,1)]:=by kernel_rfl
theorem Ge:pR Tryz.prog 63 b_ b_.cells Ct:=fun {H} enc w base sp held fuel cs x h=>by
 obtain ⟨hl,hp⟩:=jm FZ h
 obtain ⟨n0,y0,h0⟩:=hp 0 3 0 rfl
 obtain ⟨s0,c0,r0⟩:=xB _ _ _ _ _ _ _ _ h0
 obtain ⟨n1,y1,h1⟩:=hp 1 61 1 rfl
 obtain ⟨s1,c1,r1⟩:=E9 _ _ _ _ _ _ _ _ h1
 refine ⟨⟨s0,s1⟩,?_,⟨r0,r1⟩⟩
 have e1:=gU (hl.trans Dx) (by rw [E2]) c1
 have e0:=dN c0 (m:=1) (by rw [xD]) e1
 exact e0
def D_ (w:World) (s:aA):Prop:= ∃ l:List b_,s.n=l.length∧(rd s.a l.length 2 (l.map b_.cells)).holds w∧(∀ x∈l,Ct w x)∧l.length≤maxLen∧s.n≤s.c
theorem GA:pR Tryz.prog 25 aA (fun s=>[Value.slice s.a s.n s.c]) D_:=mw rm Dx Ge
theorem FO:Tryz.prog.cellsOf 26=1:=by kernel_rfl
theorem Bn:Tryz.prog.cellsOf 101=4:=by kernel_rfl
theorem Dn:Tryz.prog.cellsOf 99=3:=by kernel_rfl
structure CY (w:World) (s:br):Prop where
 aj:wy w s.aj
 dU:xq w s.dU
theorem GJ:fL Tryz.prog 99=some [(3,0),(47,1)]:=by kernel_rfl
theorem GK:pR Tryz.prog 99 br br.cells CY:=fun {H} enc w base sp held fuel cs x h=>by
 obtain ⟨hl,hp⟩:=jm GJ h
 obtain ⟨n0,y0,h0⟩:=hp 0 3 0 rfl
 obtain ⟨s0,c0,r0⟩:=xB _ _ _ _ _ _ _ _ h0
 obtain ⟨n1,y1,h1⟩:=hp 1 47 1 rfl
 obtain ⟨s1,c1,r1⟩:=xW _ _ _ _ _ _ _ _ h1
 refine ⟨⟨s0,s1⟩,?_,⟨r0,r1⟩⟩
 have e1:=gU (hl.trans Dn) (by rw [wT]) c1
 have e0:=dN c0 (m:=1) (by rw [xD]) e1
 exact e0
structure yB (w:World) (s:aT):Prop where
 ic:CY w s.ic
 cO:wy w s.cO
theorem EC:fL Tryz.prog 101=some [(99,0),(3,3)]:=by kernel_rfl
theorem Dd:pR Tryz.prog 101 aT aT.cells yB:=fun {H} enc w base sp held fuel cs x h=>by
 obtain ⟨hl,hp⟩:=jm EC h
 obtain ⟨n0,y0,h0⟩:=hp 0 99 0 rfl
 obtain ⟨s0,c0,r0⟩:=GK _ _ _ _ _ _ _ _ h0
 obtain ⟨n1,y1,h1⟩:=hp 1 3 3 rfl
 obtain ⟨s1,c1,r1⟩:=xB _ _ _ _ _ _ _ _ h1
 refine ⟨⟨s0,s1⟩,?_,⟨r0,r1⟩⟩
 have e1:=gU (hl.trans Bn) (by rw [xD]) c1
 have e0:=dN c0 (m:=3) (by rw [Dn]) e1
 exact e0
def Em (w:World) (s:aA):Prop:= ∃ l:List aT,s.n=l.length∧(rd s.a l.length 4 (l.map aT.cells)).holds w∧(∀ x∈l,yB w x)∧l.length≤maxLen∧s.n≤s.c
theorem FC:pR Tryz.prog 26 aA (fun s=>[Value.slice s.a s.n s.c]) Em:=mw jz Bn Dd
structure Ga (w:World) (s:aG):Prop where
 au:Ex w s.au
 bJ:wy w s.bJ
 ag:D_ w s.ag
 aa:Em w s.aa
 aB:wy w s.aB
 aZ:wy w s.aZ
 aO:wy w s.aO
theorem DP:fL Tryz.prog 28=some [(24,0),(3,1),(25,2),(26,3),(3,4),(3,5),(3,6)]:=by kernel_rfl
theorem FG:pR Tryz.prog 28 aG aG.cells Ga:=fun {H} enc w base sp held fuel cs x h=>by
 obtain ⟨hl,hp⟩:=jm DP h
 obtain ⟨n0,y0,h0⟩:=hp 0 24 0 rfl
 obtain ⟨s0,c0,r0⟩:=GC _ _ _ _ _ _ _ _ h0
 obtain ⟨n1,y1,h1⟩:=hp 1 3 1 rfl
 obtain ⟨s1,c1,r1⟩:=xB _ _ _ _ _ _ _ _ h1
 obtain ⟨n2,y2,h2⟩:=hp 2 25 2 rfl
 obtain ⟨s2,c2,r2⟩:=GA _ _ _ _ _ _ _ _ h2
 obtain ⟨n3,y3,h3⟩:=hp 3 26 3 rfl
 obtain ⟨s3,c3,r3⟩:=FC _ _ _ _ _ _ _ _ h3
 obtain ⟨n4,y4,h4⟩:=hp 4 3 4 rfl
 obtain ⟨s4,c4,r4⟩:=xB _ _ _ _ _ _ _ _ h4
 obtain ⟨n5,y5,h5⟩:=hp 5 3 5 rfl
 obtain ⟨s5,c5,r5⟩:=xB _ _ _ _ _ _ _ _ h5
 obtain ⟨n6,y6,h6⟩:=hp 6 3 6 rfl
 obtain ⟨s6,c6,r6⟩:=xB _ _ _ _ _ _ _ _ h6
 refine ⟨⟨s0,s1,s2,s3,s4,s5,s6⟩,?_,⟨r0,r1,r2,r3,r4,r5,r6⟩⟩
 have e6:=gU (hl.trans FX) (by rw [xD]) c6
 have e5:=dN c5 (m:=6) (by rw [xD]) e6
 have e4:=dN c4 (m:=5) (by rw [xD]) e5
 have e3:=dN c3 (m:=4) (by rw [FO]) e4
 have e2:=dN c2 (m:=3) (by rw [GP]) e3
 have e1:=dN c1 (m:=2) (by rw [xD]) e2
 have e0:=dN c0 (m:=1) (by rw [Dp]) e1
 exact e0
theorem Fk:Tryz.prog.cellsOf 60=1:=by kernel_rfl
def Dr (w:World) (n:Int):Prop:=0≤n∧n≤4294967295
theorem F4:pR Tryz.prog 60 Int dP Dr:=Cg D0
def Gk (w:World) (s:aA):Prop:= ∃ l:List Int,s.n=l.length∧(rd s.a l.length 1 (l.map dP)).holds w∧(∀ x∈l,Dr w x)∧l.length≤maxLen∧s.n≤s.c
theorem ET:pR Tryz.prog 70 aA (fun s=>[Value.slice s.a s.n s.c]) Gk:=mw Aa Fk F4
theorem rh:ownKnob Tryz.prog.godebug=none:=by kernel_rfl
theorem qH:laidOutB Tryz.prog=true:=by kernel_rfl
set_option maxRecDepth 100000 in
theorem oK (os:Os) (started:os.Started) (H:Type) (enc:TypeId×Value→H):
 ReturnsInHanded {} Tryz.checked os 6 .any (Rows.beamClearSpec.pre6 enc Tryz.prog Tryz.f6 Rows.beamClearRow.domain false) (Rows.beamClearSpec.post enc Tryz.prog Tryz.f6 false true false false):=by
 refine returnsInHanded_of_change (C:=Tryz.checked) rh started (by kernel_rfl) Tryz.func6
  (ChangeSpec.witness6 (enc:=enc) (C:=Tryz.checked) false ⟨#[],#[.agg #[(Value.slice none 0 0),(Value.int .i64 0),(Value.slice none 0 0),(Value.slice none 0 0),(Value.int .i64 0),(Value.int .i64 0),(Value.int .i64 0)],Value.slice none 0 0],[]⟩ 8 (by kernel_rfl) (by kernel_rfl) (by kernel_rfl) (by kernel_rfl)) ?_
 intro W base args ds gs before hval0 hW hcnd _
 have hval: ∀ (j:Nat) t v,Tryz.f6.params[j]? =some t→args[j]? =some v→Value.okWide Tryz.prog W .any base t v:=hval0
 have hW':=hW
 obtain ⟨p,q,hA0,hV,rfl,hfz,hnd⟩:=hW
 have hA:DataW.TrodAll enc Tryz.prog W 0 (fun _=>true) true Tryz.f6.params.toList args.toList ds p:=hA0
 have hA1:=hA
 rw [Tryz.params6] at hA hval
 obtain ⟨v0,vs0,d0,ds0,p0,q0,hargs,rfl,rfl,h0,r0⟩:=trodAll_cons hA
 obtain ⟨v1,vs1,d1,ds1,p1,q1,rfl,rfl,rfl,h1,r1⟩:=trodAll_cons r0
 obtain ⟨rfl,rfl,rfl⟩:=trodAll_nil r1
 obtain rfl:args= #[v0,v1]:=by cases args; simp_all
 obtain ⟨rfl,rfl⟩:=trodVars_none hV
 obtain ⟨s0,rfl,R0⟩:=u7 DP FG (hval 0 28 v0 rfl rfl) h0
 obtain ⟨s1,rfl,R1⟩:=wq ET Aa (hval 1 70 v1 rfl rfl) h1
 simp only [List.append_nil] at hW' hA1
 obtain ⟨l,az,kA,kC,cA,cC,bA,bC,rfl,hraw,hl4,_⟩:=w5 (R1:=xE) (R2:=Ct) (R3:=yB) (R4:=BU) R0.au.jf (fun x hx=>hx.fx) R0.ag (fun x hx=>hx.aJ) R0.aa
 obtain ⟨lA,ln,lC⟩:=s1
 obtain ⟨bl,hnb,hrdb,hallb,hmaxb⟩:=R1
 simp only at hnb hrdb
 subst hnb
 have hrun:=(tN l kA kC az cA cC bA bC bl lA lC hraw (fun x hx=>hallb x hx) (by have:=hmaxb; simp only [maxLen] at this; omega)).run W (by intro A hA; simp only [List.mem_cons,List.not_mem_nil,or_false] at hA; rcases hA with rfl|rfl|rfl|rfl|rfl; exact hl4.1; exact hl4.2.1; exact hl4.2.2.1; exact hl4.2.2.2; exact hrdb)
 refine (hrun).mono fun e W' ⟨he,hk⟩=>?_
 subst he
 exact ⟨_,rfl,yk qH hW' hA1 rfl rfl (by kernel_rfl) hk.below (by kernel_rfl) Hd⟩
/-- the statement -/
theorem beamClear_said:Rows.BeamClearSaid:=
 OpenClaim.holds_of_wide 6 Tryz.f6 rfl rfl rfl rfl rfl rfl rfl ⟨rfl,rfl,rfl,rfl,rfl⟩ rfl rfl rfl rfl rfl (by kernel_rfl) Tryz.func6 (by kernel_rfl)
  (of_decide_eq_true (by kernel_rfl)) (by unfold Func.isWrapper; first|(rw [if_pos (by decide+kernel)]; kernel_rfl)|(rw [if_neg (by decide+kernel)]; exact ⟨rfl,rfl⟩))
  (fun os started H enc _=>oK os started H enc)
#print axioms beamClear_said
end
end Go.Proofs.YthiigjekcdjkkaaGreat
