/-
 The statement raceRide_said, part 7 of 7: Rp1, Rp2, Rt1, Rt2, Rt3, Rr1, DrawB, Rep6, RkS, RaS, RtS, Rx1, Rx3, Rx5, Rx8, Rx9, Rx10, Rx11, Rx12, Rz1, Rz2, Rx2, Rz3, Rz4, Rw1, LineOpen, RideOpen, Ride0.
 Conditions: none.
-/
import Derived.Test.YtlajhejcfcoddaaGreatDoorTz1
import Derived.Test.YtlajhejcfcoddaaGreatDoorTz2
import Derived.Test.YtlajhejcfcoddaaGreatDoorTz3
import Derived.Test.YtlajhejcfcoddaaGreatDoorTz4
import Derived.Test.YtlajhejcfcoddaaGreatDoorTz5
import Derived.Test.YtlajhejcfcoddaaGreatDoorTz6
import Derived.Test.YtlajhejcfcoddaaGreatDoorCards
import Derived.Test.YtlajhejcfcoddaaGreatDoorTie
import Derived.SevenTiedAt
import Derived.LaidMore
import Derived.Stop.Joined
import Derived.Test.YtlajhejcfcoddaaGreatDoorRows
import Derived.Test.YtlajhejcfcoddaaGreatDoorProg
import Derived.KernelRfl
namespace Go.Proofs.YtlajhejcfcoddaaGreatDoor
set_option maxRecDepth 100000
set_option maxHeartbeats 4000000
set_option linter.unusedVariables false
section
open Go.RowKit
theorem DQ (r:bX) (kA:OA) (kC:Nat) (cA:OA) (cC:Nat) (bA:OA) (bC:Nat) (slA:OA) (slC:Nat) (drA:OA) (drC:Nat) (heA:OA) (heC:Nat) (tA:OA) (tN tC:Nat) (gs gw:Nat) (m:gG) (i:Int) (g1 g2:Nat) (hb: ∀ p∈m,0≤p.2.Lo∧p.2.Lo≤p.2.Hi∧p.2.Hi≤30000000):
 zY Tryz.prog 118 [] [(vP g1),(vP g2)] [(bQ gw 112 (eW.cells (eW.mk (oi r kA kC cA cC bA bC slA slC drA drC heA heC) (bk.mk tA tN tC) (Value.map (some gs))))),(gQ iV gs (bK dm m)),(bQ g1 94 [(vP gw)]),(bQ g2 3 [(vI i)])] ([]:List Int) (fun ys x ys'=> ∃ n,n∈(iT m i (au m i))∧x=[vI n]∧ys'=ys++[n]) (fun ys=> ∀ n,n∈ys↔n∈(iT m i (au m i))):=by
 have LY:=fZ (i:=i) hb
 refine qq kr Tryz.func118 U U fun l J Z A0 w0 Q hY Gy Go hQ hN=>?_
 try dsimp only
 refine ah fun _ G6=>ek cE [6,7] [] [] [0,1,2,3,4] [] U U U U U<|eS U (Ox 3 U ct U)<|eS U (SX (bx U U) U U)<|eS U (FA 12 U fB U)<|eS U (Eh (Value.map (some gs)) 1 U ct U U)<|eS U (Ox 4 U ct U)<|eS U (SX (jW (kV:=iV) (x:=i) (l:=m) (f:=dm) (z:=(aa.mk 0 0)) U U U lP (dJ og) uh (by exact j4 2 U)) U U)<|ff U<|cf U fun T2 H1=>AL U dk fun b3=>aG (H1 _ _ (aK [1,2,3,4,5]) ?_)
 refine cf U fun T4 IF=>fG U cx U<|aG (IF _ _ (aK [1,2,3,4,5]) ?_)
 refine fV U<|KK G6<|ah fun _ HA=>WS fun _ Cu=>?_
 rw [show ((List.lookup i m).getD (aa.mk 0 0))=(au m i) from rfl]
 refine rP 3 [] (mc 0 U I) ?_
 refine jA (k:=([]:List Int)) (k':=(([]:List Int)++[((au m i).Lo)])) 1 (by first|exact hsz|exact Nat.le_refl _) hY Gy Go U U U (by exact ⟨_,cq ..,U,U⟩) U U (fun B7 u s=>?_) (fun B7 u s=>?_)
 rotate_left 1
 ·refine rP 1 [] I ?_
  refine RK Cu<|aL U<|ao ?_
  refine hQ _ _ _ (gp (vs:=[]) trivial fun w hs=>pH 1 U u s hs)
 refine bh 1 U<|RK Cu<|aS U<|WK HA<|WS fun _ AC=>fr 1 [] (mr 4 U I) U<|rS (SX (bx U U) U U)<|rP 2 [] (mr 2 U I) ?_
 refine jl (kV:=iV) (m:=bK dm m) 3 U U lP U ⟨U,fun h=>h⟩ (by exact j4 3 U) U fun IR=>?_
 try dsimp only
 refine RK AC<|aA ?_
 have j:(wj m i (au m i) m (([]:List Int)++[((au m i).Lo)]))∧(∀ p∈m,p∈m)∧(J (([]:List Int)++[((au m i).Lo)]) B7)∧(Fo A0 w0 B7):=by exact ⟨EZ,fun p hp=>hp,asm,asm⟩
 refine bR (ι:={z:gG×(List Int)×aq // (wj m i (au m i) z.1 z.2.1)∧(∀ p∈z.1,p∈m)∧(J z.2.1 z.2.2)∧(Fo A0 w0 z.2.2)}) [0,1,2,4,24] [1,3,4,5,6] U U (fun z=>[]) (fun z=>[(wc iV IR gs (bK dm m) (bK dm z.1.1) none),z.1.2.2]) (fun _=>rfl) (fun _=>rfl) (fun z=>z.1.1.length) ⟨(m,(([]:List Int)++[((au m i).Lo)]),B7),j⟩ (ee.nil _) (aK [1,3,4,5,6,0,2]) ?_
 clear j
 rintro ⟨⟨left,ys,A⟩,⟨D,B,E,F⟩⟩ J12 G
 try dsimp only at D B E F
 try dsimp only
 refine WS fun _ o=>iq (dJ og).inj (f:=dm) 5 U U U U (fun q=>?_) (fun x y hm hn=>?_)
 ·refine rP 1 [] I ?_
  refine RK o<|ah fun _ Id=>aS U<|bI<|ae<|ae<|aC ?_
  refine hN _ _ _ (gp (vs:=[]) trivial fun w hs=>Fs 6 U (by rw [q] at D; exact Jk D) E F hs)
 try dsimp only
 refine bh 1 U<|RK o<|ah fun _ AO=>aL U<|WK AO<|aA<|WS fun _ A1=>rS (SX (il 5 U U U) U U)<|bh 2 U<|AL U dk fun LT=>bh 1 U<|fG U cx U<|RK A1<|WS fun _ A2=>rP 1 [] I ?_
 have IO:=hb _ (B _ hm)
 dsimp only at IO
 refine fr 5 [] (mc 0 U I) U<|rS (SX (aZ (xs:=[(0,.tmp 32),(1,.tmp 35)]) (cs:=[(vI (y.Lo+1)),(vI (y.Hi+1))]) U U (bf Mm U)) U U)<|bh 1 U<|RK A2<|aA<|iG 3<|dy fun R19 c=>WS fun _ A3=>rS (SX (bP (r:= .bool true) U U U fW) U U)<|RK A3<|ah fun _ A4=>aL U<|WK A4<|ah fun _ X=>aA<|WS fun _ A5=>rS (SX (o_ (v:=(vI (y.Lo+1))) 0 U U U BB ct U dc U) U U)<|bh 1 U<|RK A5<|WS fun _ M=>rP 4 [] (mr 5 U I) ?_
 refine cb (t:=43) U (bp fun q=>?_) (bq fun q=>?_)
 ·refine bh 14 U<|RK M<|aS U<|cr<|aF<|KK X<|an<|rS (SX (bP (r:= .int .i64 1) U U U (gP ⟨dc,dc⟩)) U U)<|bh 1 U<|RK c<|dy fun R73 g=>WS fun _ C2=>rS (SX (bP (r:= .bool true) U U U fW) U U)<|RK C2<|ah fun _ DU=>aL U<|WK DU<|ah fun _ b=>aA<|WS fun _ Di=>rS (SX (o_ (v:=(vI (y.Hi+1))) 1 U U U BB ct U dc U) U U)<|bh 1 U<|RK Di<|WS fun _ P=>rP 4 [] (mr 5 U I) ?_
  refine cb (t:=43) U (bp fun GE=>?_) (bq fun GE=>?_)
  ·refine bh 14 U<|RK P<|aS U<|cr<|aF<|KK b<|an<|rS (SX (bP (r:= .int .i64 2) U U U (gP ⟨dc,dc⟩)) U U)<|rP 1 [] I ?_
   refine RK g<|dy fun R91 LE=>WS fun _ EQ=>rS (SX (bP (r:= .bool false) U U U fW) U U)<|RK EQ<|ah fun _ J8=>aS U<|bI<|ae<|ae<|aC<|aF<|gi 6 U eQ U ?_
   refine bg (G ⟨((bY left x),ys,A),⟨j5 hn hm B D (fun n C=>by first|exact C|(simp [C]; done)) (fun n C=>by exact .inl C) (fun L n C K=>by simp only [bw,List.not_mem_nil,or_false] at C; rcases C with rfl|rfl<;>first|(simp; done)|(exfalso; omega)),e_ B,E,F⟩⟩ _ _ _ rfl (er hm) (aW rfl) (aK [1,2,3,4,5,6,7]))
  refine fr 5 [] (mc 1 U I) U<|cH (xs:=[.tmp 48]) (cs:=[(vI (y.Hi+1))]) U cy hE U U U U (by simp [Value.cells]) U U fun Ey=>rS (CL (dR.eq (js ((au m i).Lo) ((au m i).Hi) ([(y.Hi+1)]) (some ⟨Ey,0,none⟩) 1 om) cp) (al (aV 0 U U (by simp [bu]) U)<|aD) U)<|rP 2 [] I ?_
  refine cb (t:=52) U (aR fun GT=>?_) (aQ fun GT=>?_)
  ·refine bh 5 U<|RK P<|aS U<|cr<|aF<|KK b<|an<|rS (SX (bP (r:= .int .i64 2) U U U (gP ⟨dc,dc⟩)) U U)<|rP 1 [] I ?_
   refine RK g<|dy fun R88 K8=>WS fun _ D8=>rS (SX (bP (r:= .bool false) U U U fW) U U)<|RK D8<|ah fun _ J7=>aS U<|bI<|ae<|ae<|aC<|aF<|gi 7 U eQ U ?_
   refine bg (G ⟨((bY left x),ys,A),⟨j5 hn hm B D (fun n C=>by first|exact C|(simp [C]; done)) (fun n C=>by exact .inl C) (fun L n C K=>by simp only [bw,List.not_mem_nil,or_false] at C; rcases C with rfl|rfl<;>first|(simp; done)|(exfalso; omega)),e_ B,E,F⟩⟩ _ _ _ rfl (er hm) (aW rfl) (aK [2,3,4,5,6,7,8]))
  refine rP 2 [] I ?_
  refine jA (k:=ys) (k':=(ys++[((y.Hi+1))])) 8 (by first|exact hsz|exact Nat.le_refl _) hY E F U U U (by exact ⟨_,lJ (B _ hm) dso (by first|exact .inl rfl|exact .inr U) om,U,U⟩) U U (fun B82 W T=>?_) (fun B82 W T=>?_)
  rotate_left 1
  ·refine rP 2 [] I ?_
   refine RK P<|aL U<|ao ?_
   refine hQ _ _ _ (gp (vs:=[]) trivial fun w hs=>pH 8 U W T hs)
  refine bh 2 U<|RK P<|aS U<|cr<|aF<|KK b<|an<|rS (SX (bP (r:= .int .i64 2) U U U (gP ⟨dc,dc⟩)) U U)<|rP 1 [] I ?_
  refine RK g<|dy fun R85 K5=>WS fun _ Do=>rS (SX (bP (r:= .bool false) U U U fW) U U)<|RK Do<|ah fun _ J6=>aS U<|bI<|ae<|ae<|aC<|aF<|gi 7 U eQ U ?_
  refine bg (G ⟨((bY left x),(ys++[((y.Hi+1))]),B82),⟨j5 hn hm B D (fun n C=>by first|exact C|(simp [C]; done)) (fun n C=>by (simp only [dM,bJ] at C; rcases C with C|rfl<;>first|exact .inl C|exact .inr (lJ (B _ hm) dso sm om))) (fun L n C K=>by simp only [bw,List.not_mem_nil,or_false] at C; rcases C with rfl|rfl<;>first|(simp; done)|(exfalso; omega)),e_ B,W,T⟩⟩ _ _ _ rfl (er hm) (aW rfl) (aK [2,3,4,5,6,7,8]))
 refine rP 5 [] (mc 1 U I) ?_
 refine cH (xs:=[.tmp 48]) (cs:=[(vI (y.Lo+1))]) U cy hE U U U U (by simp [Value.cells]) U U fun EY=>?_
 refine rS (CL (dR.eq (js ((au m i).Lo) ((au m i).Hi) ([(y.Lo+1)]) (some ⟨EY,0,none⟩) 1 (by (simp; done))) cp) (al (aV 0 U U (by simp [bu]) U)<|aD) U) ?_
 refine rP 2 [] I ?_
 refine cb (t:=52) U (aR fun FS=>?_) (aQ fun FS=>?_)
 ·refine bh 5 U<|RK M<|aS U<|cr<|aF<|KK X<|an<|rS (SX (bP (r:= .int .i64 1) U U U (gP ⟨dc,dc⟩)) U U)<|bh 1 U<|RK c<|dy fun R52 e=>WS fun _ Ci=>rS (SX (bP (r:= .bool true) U U U fW) U U)<|RK Ci<|ah fun _ Ck=>aL U<|WK Ck<|ah fun _ a=>aA<|WS fun _ Cp=>rS (SX (o_ (v:=(vI (y.Hi+1))) 1 U U U BB ct U dc U) U U)<|bh 1 U<|RK Cp<|WS fun _ O=>rP 4 [] (mr 6 U I) ?_
  refine cb (t:=43) U (bp fun Fn=>?_) (bq fun Fn=>?_)
  ·refine bh 14 U<|RK O<|aS U<|cr<|aF<|KK a<|an<|rS (SX (bP (r:= .int .i64 2) U U U (gP ⟨dc,dc⟩)) U U)<|rP 1 [] I ?_
   refine RK e<|dy fun R70 K4=>WS fun _ C1=>rS (SX (bP (r:= .bool false) U U U fW) U U)<|RK C1<|ah fun _ J5=>aS U<|bI<|ae<|ae<|aC<|aF<|gi 7 U eQ U ?_
   refine bg (G ⟨((bY left x),ys,A),⟨j5 hn hm B D (fun n C=>by first|exact C|(simp [C]; done)) (fun n C=>by exact .inl C) (fun L n C K=>by simp only [bw,List.not_mem_nil,or_false] at C; rcases C with rfl|rfl<;>first|(simp; done)|(exfalso; omega)),e_ B,E,F⟩⟩ _ _ _ rfl (er hm) (aW rfl) (aK [2,3,4,5,6,7,8]))
  refine rP 5 [] (mc 2 U I) ?_
  refine cH (xs:=[.tmp 48]) (cs:=[(vI (y.Hi+1))]) U cy hE U U U U (by simp [Value.cells]) U U fun Eq=>?_
  refine rS (CL (dR.eq (js ((au m i).Lo) ((au m i).Hi) ([(y.Hi+1)]) (some ⟨Eq,0,none⟩) 1 (by (simp; done))) cp) (al (aV 0 U U (by simp [bu]) U)<|aD) U) ?_
  refine rP 2 [] I ?_
  refine cb (t:=52) U (aR fun F2=>?_) (aQ fun F2=>?_)
  ·refine bh 5 U<|RK O<|aS U<|cr<|aF<|KK a<|an<|rS (SX (bP (r:= .int .i64 2) U U U (gP ⟨dc,dc⟩)) U U)<|rP 1 [] I ?_
   refine RK e<|dy fun R67 K0=>WS fun _ C0=>rS (SX (bP (r:= .bool false) U U U fW) U U)<|RK C0<|ah fun _ J4=>aS U<|bI<|ae<|ae<|aC<|aF<|gi 8 U eQ U ?_
   refine bg (G ⟨((bY left x),ys,A),⟨j5 hn hm B D (fun n C=>by first|exact C|(simp [C]; done)) (fun n C=>by exact .inl C) (fun L n C K=>by simp only [bw,List.not_mem_nil,or_false] at C; rcases C with rfl|rfl<;>first|(simp; done)|(exfalso; omega)),e_ B,E,F⟩⟩ _ _ _ rfl (er hm) (aW rfl) (aK [3,4,5,6,7,8,9]))
  refine rP 2 [] I ?_
  refine jA (k:=ys) (k':=(ys++[((y.Hi+1))])) 9 (by first|exact hsz|exact Nat.le_refl _) hY E F U U U (by exact ⟨_,lJ (B _ hm) dso (by first|exact .inl rfl|exact .inr U) om,U,U⟩) U U (fun B61 V S=>?_) (fun B61 V S=>?_)
  rotate_left 1
  ·refine rP 2 [] I ?_
   refine RK O<|aL U<|ao ?_
   refine hQ _ _ _ (gp (vs:=[]) trivial fun w hs=>pH 9 U V S hs)
  refine bh 2 U<|RK O<|aS U<|cr<|aF<|KK a<|an<|rS (SX (bP (r:= .int .i64 2) U U U (gP ⟨dc,dc⟩)) U U)<|rP 1 [] I ?_
  refine RK e<|dy fun R64 Kx=>WS fun _ Cx=>rS (SX (bP (r:= .bool false) U U U fW) U U)<|RK Cx<|ah fun _ J3=>aS U<|bI<|ae<|ae<|aC<|aF<|gi 8 U eQ U ?_
  refine bg (G ⟨((bY left x),(ys++[((y.Hi+1))]),B61),⟨j5 hn hm B D (fun n C=>by first|exact C|(simp [C]; done)) (fun n C=>by (simp only [dM,bJ] at C; rcases C with C|rfl<;>first|exact .inl C|exact .inr (lJ (B _ hm) dso sm om))) (fun L n C K=>by simp only [bw,List.not_mem_nil,or_false] at C; rcases C with rfl|rfl<;>first|(simp; done)|(exfalso; omega)),e_ B,V,S⟩⟩ _ _ _ rfl (er hm) (aW rfl) (aK [3,4,5,6,7,8,9]))
 refine rP 2 [] I ?_
 refine jA (k:=ys) (k':=(ys++[((y.Lo+1))])) 8 (by first|exact hsz|exact Nat.le_refl _) hY E F U U U (by exact ⟨_,lJ (B _ hm) dso (by first|exact .inl rfl|exact .inr U) om,U,U⟩) U U (fun B28 AB H=>?_) (fun B28 AB H=>?_)
 rotate_left 1
 ·refine rP 2 [] I ?_
  refine RK M<|aL U<|ao ?_
  refine hQ _ _ _ (gp (vs:=[]) trivial fun w hs=>pH 8 U AB H hs)
 refine bh 2 U<|RK M<|aS U<|cr<|aF<|KK X<|an<|rS (SX (bP (r:= .int .i64 1) U U U (gP ⟨dc,dc⟩)) U U)<|bh 1 U<|RK c<|dy fun R31 d=>WS fun _ A6=>rS (SX (bP (r:= .bool true) U U U fW) U U)<|RK A6<|ah fun _ A7=>aL U<|WK A7<|ah fun _ Y=>aA<|WS fun _ A8=>rS (SX (o_ (v:=(vI (y.Hi+1))) 1 U U U BB ct U dc U) U U)<|bh 1 U<|RK A8<|WS fun _ N=>rP 4 [] (mr 6 U I) ?_
 refine cb (t:=43) U (bp fun Fa=>?_) (bq fun Fa=>?_)
 ·refine bh 14 U<|RK N<|aS U<|cr<|aF<|KK Y<|an<|rS (SX (bP (r:= .int .i64 2) U U U (gP ⟨dc,dc⟩)) U U)<|rP 1 [] I ?_
  refine RK d<|dy fun R49 Kf=>WS fun _ B9=>rS (SX (bP (r:= .bool false) U U U fW) U U)<|RK B9<|ah fun _ J2=>aS U<|bI<|ae<|ae<|aC<|aF<|gi 7 U eQ U ?_
  refine bg (G ⟨((bY left x),(ys++[((y.Lo+1))]),B28),⟨j5 hn hm B D (fun n C=>by first|exact C|(simp [C]; done)) (fun n C=>by (simp only [dM,bJ] at C; rcases C with C|rfl<;>first|exact .inl C|exact .inr (lJ (B _ hm) dso sm om))) (fun L n C K=>by simp only [bw,List.not_mem_nil,or_false] at C; rcases C with rfl|rfl<;>first|(simp; done)|(exfalso; omega)),e_ B,AB,H⟩⟩ _ _ _ rfl (er hm) (aW rfl) (aK [2,3,4,5,6,7,8]))
 refine rP 5 [] (mc 2 U I) ?_
 refine cH (xs:=[.tmp 48]) (cs:=[(vI (y.Hi+1))]) U cy hE U U U U (by simp [Value.cells]) U U fun Ec=>?_
 refine rS (CL (dR.eq (js ((au m i).Lo) ((au m i).Hi) ([(y.Hi+1)]) (some ⟨Ec,0,none⟩) 1 (by (simp; done))) cp) (al (aV 0 U U (by simp [bu]) U)<|aD) U) ?_
 refine rP 2 [] I ?_
 refine cb (t:=52) U (aR fun Fd=>?_) (aQ fun Fd=>?_)
 ·refine bh 5 U<|RK N<|aS U<|cr<|aF<|KK Y<|an<|rS (SX (bP (r:= .int .i64 2) U U U (gP ⟨dc,dc⟩)) U U)<|rP 1 [] I ?_
  refine RK d<|dy fun R46 KU=>WS fun _ B3=>rS (SX (bP (r:= .bool false) U U U fW) U U)<|RK B3<|ah fun _ In=>aS U<|bI<|ae<|ae<|aC<|aF<|gi 8 U eQ U ?_
  refine bg (G ⟨((bY left x),(ys++[((y.Lo+1))]),B28),⟨j5 hn hm B D (fun n C=>by first|exact C|(simp [C]; done)) (fun n C=>by (simp only [dM,bJ] at C; rcases C with C|rfl<;>first|exact .inl C|exact .inr (lJ (B _ hm) dso sm om))) (fun L n C K=>by simp only [bw,List.not_mem_nil,or_false] at C; rcases C with rfl|rfl<;>first|(simp; done)|(exfalso; omega)),e_ B,AB,H⟩⟩ _ _ _ rfl (er hm) (aW rfl) (aK [3,4,5,6,7,8,9]))
 refine rP 2 [] I ?_
 refine jA (k:=(ys++[((y.Lo+1))])) (k':=((ys++[((y.Lo+1))])++[((y.Hi+1))])) 9 (by first|exact hsz|exact Nat.le_refl _) hY AB H U U U (by exact ⟨_,lJ (B _ hm) dso (by first|exact .inl rfl|exact .inr U) om,U,U⟩) U U (fun B40 AA R=>?_) (fun B40 AA R=>?_)
 rotate_left 1
 ·refine rP 2 [] I ?_
  refine RK N<|aL U<|ao ?_
  refine hQ _ _ _ (gp (vs:=[]) trivial fun w hs=>pH 9 U AA R hs)
 refine bh 2 U<|RK N<|aS U<|cr<|aF<|KK Y<|an<|rS (SX (bP (r:= .int .i64 2) U U U (gP ⟨dc,dc⟩)) U U)<|rP 1 [] I ?_
 refine RK d<|dy fun R43 J9=>WS fun _ A9=>rS (SX (bP (r:= .bool false) U U U fW) U U)<|RK A9<|ah fun _ If=>aS U<|bI<|ae<|ae<|aC<|aF<|gi 8 U eQ U ?_
 refine bg (G ⟨((bY left x),((ys++[((y.Lo+1))])++[((y.Hi+1))]),B40),⟨j5 hn hm B D (fun n C=>by first|exact C|(simp [C]; done)) (fun n C=>by (simp only [dM,bJ] at C; rcases C with (C|rfl)|rfl<;>first|exact .inl C|exact .inr (lJ (B _ hm) dso sm om))) (fun L n C K=>by simp only [bw,List.not_mem_nil,or_false] at C; rcases C with rfl|rfl<;>first|(simp; done)|(exfalso; omega)),e_ B,AA,R⟩⟩ _ _ _ rfl (er hm) (aW rfl) (aK [3,4,5,6,7,8,9]))
theorem EA (gw:Nat) (i:Int):
 lq Tryz.prog 83 [(vP gw),(vI i)] [] (fun (x:Nat×Nat)=>(Value.func (.func 118) [].toArray [(Value.pointer (some ⟨x.1,0,none⟩)),(Value.pointer (some ⟨x.2,0,none⟩))].toArray)) (fun (x:Nat×Nat)=>True) (fun (x:Nat×Nat)=>[(bQ x.1 94 [(vP gw)]),(bQ x.2 3 [(vI i)])]):=by
 refine de kr Tryz.func83 U U fun E Q hQ hN=>?_
 try dsimp only
 refine WS fun _ A=>qM U U fun C=>qM U U fun D=>bh 1 U<|RK A<|WS fun _ B=>rS (FU U)<|rP 1 [] I ?_
 refine RK B<|ao<|LX hQ (C,D) [1,0] [] I U U U U ?_
 trivial
end
section
open Go.RowKit
theorem xe (r:bX) (kA:OA) (kC:Nat) (cA:OA) (cC:Nat) (bA:OA) (bC:Nat) (slA:OA) (slC:Nat) (drA:OA) (drC:Nat) (heA:OA) (heC:Nat) (tA:OA) (tN tC:Nat) (gs gw:Nat) (m:gG) (i:Int) (hb: ∀ p∈m,0≤p.2.Lo∧p.2.Lo≤p.2.Hi∧p.2.Hi≤30000000) (hi:m.lookup i≠none) (hm12:m.length≤12):
 lq Tryz.prog 50 [(vP gw),(vI i)] [(bQ gw 112 (eW.cells (eW.mk (oi r kA kC cA cC bA bC slA slC drA drC heA heC) (bk.mk tA tN tC) (Value.map (some gs))))),(gQ iV gs (bK dm m))] (fun (x:(OA)×Nat)=>(vS x.1 ((dq m i (au m i)).length) x.2)) (fun (x:(OA)×Nat)=>True) (fun (x:(OA)×Nat)=>[(own x.1 x.2 3 1 ((dq m i (au m i)).map iC))]):=by
 refine de kr Tryz.func50 U U fun w0 Q hQ hN=>?_
 try dsimp only
 refine WS fun _ Go=>qM U U fun b2=>qM U U fun b3=>rP 1 [] I ?_
 refine RK Go<|WS fun _ Gy=>my (kV:=iV) U U fun AA=>?_
 try dsimp only
 refine AL U OY fun b6=>CW U O4 U U<|RK Gy<|ah fun _ G6=>WS fun _ HA=>fr 1 [] (mc 3 U I) U<|rS (SX (bx U U) U U)<|fr 2 [] (mr 4 U I) U<|rS (SX (zM U U lP (by exact j4 5 U)) U U)<|rP 1 [] I ?_
 refine RK HA<|aA ?_
 have A:(0≤m.length)∧(hU ([]:oD) (fun u=>1≤u∧u≤(0:Int))):=by exact ⟨Nat.zero_le _,HQ fun k=>by omega⟩
 refine bR (ι:={z:Nat×oD // (z.1≤m.length)∧(hU z.2 (fun u=>1≤u∧u≤(z.1:Int)))}) [2,3,5,20] [0,2,3,4,5] U U (fun z=>[(21,(vI (z.1.1:Int)))]) (fun z=>[(gQ iV AA (bK vB z.1.2))]) (fun _=>rfl) (fun _=>rfl) (fun z=>m.length-z.1.1) ⟨(0,([]:oD)),A⟩ (aW U) (aK [0,2,3,4,5,1]) ?_
 clear A
 rintro ⟨⟨n,nv⟩,⟨j,K⟩⟩ J9 GT
 try dsimp only at j K
 try dsimp only
 refine WS fun _ A1=>rP 1 [] I ?_
 refine RK A1<|ah fun _ A2=>cM U (aQ fun Fn=>?_) (aR fun Fn=>?_)
 ·refine WK A2<|ah fun _ A3=>aA<|WS fun _ A4=>bh 2 U<|RK A4<|an<|fr 3 [] (mc 0 U I) U<|ig (kV:=iV) (x:=((n:Int)+1)) (C':=[_,_,_,_,_,(gQ iV AA (bK vB (dN nv ((n:Int)+1) true)))]) 5 U U U U yF (dJ og) U (fI _ _ _ _).symm U<|aG<|aF<|KK A3<|an<|rP 2 [] I ?_
  refine aG ?_
  have Eq:(vI (((n+1):Nat):Int))=(vI ((n:Int)+1)):=by exact cI om
  refine bg (GT ⟨((n+1),(dN nv ((n:Int)+1) true)),⟨om,(Fp K om).uY fun k=>by omega⟩⟩ _ _ _ U os (dx 4<|bG U Eq<|ee.nil _) (aK [0,1,2,3,4,5]))
 refine bI<|ae<|ae<|aC<|KK G6<|WS fun _ A5=>rP 1 [] (mc 0 U I) ?_
 refine cX (E7 nv AA) (a_ [5]) U fun G Kf=>?_
 try dsimp only
 refine bh 1 U<|RK A5<|ah fun _ A6=>WS fun _ A7=>rP 2 [0,1] (mc 3 U (mc 2 U I)) ?_
 refine cX (EA gw i) (aD) U fun J2 Kx=>?_
 obtain ⟨Z,c⟩:=J2
 try dsimp only
 refine RK A7<|aA<|jC 6 U (by exact fun _ h=>h)<|jC 8 U (by exact fun _ h=>h) ?_
 refine l4 (L0:=[(2,(vP b2)),(3,(vP b3)),(5,(vP b6)),(7,(Value.map (some G)))]) (F:=[(bQ gw 112 (eW.cells (eW.mk (oi r kA kC cA cC bA bC slA slC drA drC heA heC) (bk.mk tA tN tC) (Value.map (some gs))))).ro,(gQ iV gs (bK dm m)).ro,(bQ Z 94 [(vP gw)]),(bQ c 3 [(vI i)])]) (fun k (y:oD)=>(hU y (rv m i k))) (fun k y=>[(gQ iV G (bK vB nv)),(bQ b6 47 [(Value.map (some AA))]),(bQ b3 3 [(vI i)]),(bQ b2 94 [(vP gw)]),(bQ gw 112 (eW.cells (eW.mk (oi r kA kC cA cC bA bC slA slC drA drC heA heC) (bk.mk tA tN tC) (Value.map (some gs))))).ro,(gQ iV gs (bK dm m)).ro,(gQ iV AA (bK vB y))]) (fun _ (_:Unit)=>False) (fun _ _=>[]) [4,5,6,7,8,9,10] [1,0,2,3] nv rfl rfl (DQ r kA kC cA cC bA bC slA slC drA drC heA heC tA tN tC gs gw m i Z c (by exact hb)) rfl rfl rfl (by exact EP (K.uY fun k=>by omega)) (by simp only [List.forall_mem_cons,List.not_mem_nil,false_imp_iff,implies_true,and_true]; exact ⟨⟨_,sm,(eH (bU _))⟩,⟨_,sm,(eH (bU _))⟩,⟨_,sm,(bU _)⟩,⟨_,sm,(bU _)⟩⟩) (by rintro k x k2 ⟨n,_,rfl,_⟩; rfl) rfl (aW rfl) ?_ ?_ (fun _ _ _ h=>h.elim) (fun _ _ h=>h.elim)
 rotate_left 1
 ·rintro Lm k nw Ey g
  have T:=g
  try dsimp only
  refine aF<|KK A6<|ah fun _ Do=>WS fun _ D8=>rP 1 [] (mc 6 U I) ?_
  refine qN 11 U U yF U U fun If=>?_
  try dsimp only
  refine RK D8<|aA ?_
  have A:(∀ p∈nw,p∈nw)∧(hU nv (fun u=>(1≤u∧u≤(m.length:Int))∧ ¬ (rv m i k u∧u ∉ nw.map (·.1)))):=by exact ⟨fun p hp=>hp,K.uY fun u=>⟨fun q=>⟨om,fun z=>z.2 ((T.2 u).2 z.1)⟩,fun q=>by omega⟩⟩
  refine bR (ι:={z:oD×oD // (∀ p∈z.1,p∈nw)∧(hU z.2 (fun u=>(1≤u∧u≤(m.length:Int))∧ ¬ (rv m i k u∧u ∉ z.1.map (·.1))))}) [7,68] [0,1,2,9,10] U U (fun z=>[]) (fun z=>[(gQ iV G (bK vB z.1.2)),(wk iV If AA (bK vB nw) (bK vB z.1.1) none)]) (fun _=>rfl) (fun _=>rfl) (fun z=>z.1.1.length) ⟨(nw,nv),A⟩ (ee.nil _) (aK [0,1,2,9,10,5,11]) ?_
  clear A
  rintro ⟨⟨left,rk⟩,⟨AB,J⟩⟩ J55 A0
  try dsimp only at AB J
  try dsimp only
  refine WS fun _ X=>pS (dJ og).inj (f:=Value.bool) 6 U U U U (fun GE=>?_) (fun u v FS K8=>?_)
  rotate_left 1
  ·try dsimp only
   refine bh 1 U<|RK X<|ah fun _ EY=>aL U<|WK EY<|aA<|WS fun _ Ec=>rS (SX (p9 6 U U U) U U)<|bh 2 U<|RK Ec<|an<|rP 2 [] I ?_
   refine nO (kV:=iV) (x:=u) (C':=[_,_,_,_,_,(gQ iV G (bK vB (bY rk u))),_]) 5 U U U U yF (dJ og) U (ky _ _ _).symm U<|aG<|aF<|gi 6 U uM U ?_
   refine bg (A0 ⟨((bY left u),(bY rk u)),⟨e_ AB,H7 AB T FS J⟩⟩ _ _ _ U (er FS) (aW U) (aK [0,1,2,3,4,5,6]))
  refine rP 1 [] I ?_
  refine RK X<|ah fun _ KU=>aS U<|bI<|ae<|ae<|aC<|KK Do<|WS fun _ EQ=>?_
  have Fa:hU rk (fun u=>(1≤u∧u≤(m.length:Int))∧ ¬ rv m i k u):=J.uY fun u=>⟨fun q=>⟨q.1,fun z=>q.2 ⟨z,by rw [GE]; simp⟩⟩,fun q=>⟨q.1,fun z=>q.2 z.1⟩⟩
  have Y:cV (rk.map (·.1))=(dq m i (au m i)):=zQ hi Ey Fa
  have LH:rk.length≤m.length:=GN Fa fun k q=>q.1
  have H1:rk.length=(dq m i (au m i)).length:=by rw [← Y]; simp
  refine rP 1 [] I ?_
  refine cX (Iq G) (aD) U fun Fd K0=>?_
  try dsimp only
  refine cX (C8 rk G Fd om) (a_ [6,0]) U fun J3 K4=>?_
  obtain ⟨o,AC⟩:=J3
  try dsimp only
  rw [Y]
  refine rP 1 [] I ?_
  refine RK EQ<|ao<|hQ _ _ _ (nc 2 U U<|gp (vs:=[(vS o rk.length AC)]) ⟨U,trivial⟩ fun w hs=>ER (o,AC) [0] ?_ ?_ U U U hs)
  ·(rw [← H1]; rfl)
  ·trivial
 rintro k x k2 nw l ra rb S w1 K26 Qr27 Li hx e A8 d In J4
 obtain ⟨n,LE,rfl,rfl⟩:=hx
 have T:=e
 try dsimp only
 refine an<|rP 1 [] I ?_
 refine aG<|bg (A8 _ _ ?_)
 refine aA<|WS fun _ A9=>bh 2 U<|RK A9<|ah fun _ B3=>WS fun _ B7=>fr 1 [] (mc 4 U I) U<|rS (SX (bx U U) U U)<|rP 2 [] (mr 5 U I) ?_
 refine jl (kV:=iV) (m:=bK dm m) 6 U U lP U ⟨U,fun h=>h⟩ (by exact j4 6 U) U fun Id=>?_
 try dsimp only
 refine RK B7<|aA ?_
 have A:((1:Int)+(g8 m i n:Int)=1+(g8 m i n:Int))∧((1:Int)+(j3 m i n:Int)=1+(j3 m i n:Int))∧(∀ p∈m,p∈m)∧(1≤(1:Int)∧1≤(1:Int)):=by exact ⟨rfl,rfl,fun p hp=>hp,om⟩
 refine bR (ι:={z:gG×Int×Int // (z.2.1+(g8 z.1 i n:Int)=1+(g8 m i n:Int))∧(z.2.2+(j3 z.1 i n:Int)=1+(j3 m i n:Int))∧(∀ p∈z.1,p∈m)∧(1≤z.2.1∧1≤z.2.2)}) [2,3,5,7,8,38] [1,2,3,4,5,6,7,8] U U (fun z=>[(9,(vI z.1.2.1)),(10,(vI z.1.2.2))]) (fun z=>[(wc iV Id gs (bK dm m) (bK dm z.1.1) none)]) (fun _=>rfl) (fun _=>rfl) (fun z=>z.1.1.length) ⟨(m,(1:Int),(1:Int)),A⟩ (aW U) (aK [1,2,3,4,5,6,7,8,0]) ?_
 clear A
 rintro ⟨⟨left,s,t⟩,⟨C,D,B,R⟩⟩ J33 L
 try dsimp only at C D B R
 try dsimp only
 have IF:=BZ (m:=m) (i:=i) (n:=n)
 have IO:=Ev (m:=m) (i:=i) (n:=n)
 refine WS fun _ V=>iq (dJ og).inj (f:=dm) 8 U U U U (fun P=>?_) (fun x y hm hn=>?_)
 ·refine bh 1 U<|RK V<|ah fun _ J8=>aS U<|bI<|ae<|ae<|aC<|KK B3<|WS fun _ B9=>rP 2 [] I ?_
  refine RK B9<|aA ?_
  have A:(s≤s∧(s≤t+1∨s=s))∧(hU nw (fun u=>rv m i k u∧ ¬ (s≤u∧u<s))):=by exact ⟨⟨Int.le_refl _,.inr rfl⟩,T.uY fun u=>⟨fun q=>⟨q,fun z=>by omega⟩,fun q=>q.1⟩⟩
  refine bR (ι:={z:Int×oD // (s≤z.1∧(z.1≤t+1∨z.1=s))∧(hU z.2 (fun u=>rv m i k u∧ ¬ (s≤u∧u<z.1)))}) [2,3,5,7,8,9,10] [0,1,2,3,4,5,6,8] U U (fun z=>[(13,(vI z.1.1))]) (fun z=>[(gQ iV AA (bK vB z.1.2))]) (fun _=>rfl) (fun _=>rfl) (fun z=>(t+1-z.1.1).toNat) ⟨(s,nw),A⟩ (aW U) (aK [0,1,2,3,4,5,6,8,7]) ?_
  clear A
  rintro ⟨⟨q,n2⟩,⟨N,H⟩⟩ J37 AO
  try dsimp only at N H
  try dsimp only
  have IF:=BZ (m:=m) (i:=i) (n:=n)
  have IO:=Ev (m:=m) (i:=i) (n:=n)
  have LT:s=1+(g8 m i n:Int):=by rw [P] at C; simp only [vZ] at C; omega
  have LY:t=1+(j3 m i n:Int):=by rw [P] at D; simp only [xR] at D; omega
  refine ah fun _ Ci=>WS fun _ Ck=>rP 3 [] I ?_
  refine RK Ck<|bT U (aR fun F2=>?_) (aQ fun F2=>?_)
  ·refine bI<|ae<|ae<|aC<|aF ?_
   exact d n2 _ _ (by exact Ga (a:=s) (b:=t) (by rw [P,vZ] at C; omega) (by rw [P,xR] at D; omega) (H.uY fun u=>⟨fun z=>⟨z.1,fun w=>z.2 om⟩,fun z=>⟨z.1,fun w=>z.2 om⟩⟩)) (aK [0,1,2,3,4,5,6,8])
  refine WK Ci<|ah fun _ Cp=>aA<|an<|fr 2 [] (mc 2 U I) U<|nO (kV:=iV) (x:=q) (C':=[_,_,_,_,_,_,_,_,(gQ iV AA (bK vB (bY n2 q)))]) 8 U U U U yF (dJ og) U (ky _ _ _).symm U<|aG<|aF<|KK Cp<|an<|rP 3 [] I ?_
  refine aG ?_
  refine bg (AO ⟨((q+1),(bY n2 q)),⟨om,AT N.1 H⟩⟩ _ _ _ U dso (aW U) (aK [0,1,2,3,4,5,6,7,8]))
 try dsimp only
 refine bh 1 U<|RK V<|ah fun _ Cu=>aL U<|WK Cu<|aA<|WS fun _ Cx=>rS (SX (il 8 U U U) U U)<|bh 2 U<|AL U dk fun K5=>bh 1 U<|fG U cx U<|RK Cx<|ah fun _ C0=>WS fun _ C1=>rP 3 [] (mc 4 U I) ?_
 refine RK C1<|cM U (aQ fun E=>?_) (aR fun E=>?_)
 ·refine bI<|ae<|aC<|gi 9 U eQ U ?_
  refine bg (L ⟨((bY left x),s,t),(by refine ⟨?_,?_,e_ B,?_⟩<;>dsimp only <;>first|omega|(rw [← CC hn hm E]; omega)|(rw [← G4 hn hm E]; omega))⟩ _ _ _ U (er hm) (aW U) (aK [1,2,3,4,5,6,7,8,9]))
 refine WK C0<|ah fun _ W=>WS fun _ C2=>rP 4 [] (mc 0 U I) ?_
 refine RK C2<|bT U (aR fun O=>?_) (aQ fun O=>?_)
 ·refine WK W<|WS fun _ Di=>rP 4 [] (mc 0 U I) ?_
  refine RK Di<|bT U (aR fun M=>?_) (aQ fun M=>?_)
  ·refine cr<|aF<|gi 9 U eQ U ?_
   refine bg (L ⟨((bY left x),s,t),(by refine ⟨?_,?_,e_ B,?_⟩<;>dsimp only <;>first|omega|(have:=yn hn hm E O; omega)|(have:=BL hn hm E M; omega))⟩ _ _ _ U (er hm) (aW U) (aK [1,2,3,4,5,6,7,8,9]))
  refine an<|rP 3 [] I ?_
  refine aG<|aF<|gi 9 U eQ U ?_
  refine bg (L ⟨((bY left x),s,(t+1)),(by refine ⟨?_,?_,e_ B,?_⟩<;>dsimp only <;>first|omega|(have:=yn hn hm E O; omega)|(have:=ze hn hm E M; omega))⟩ _ _ _ U (er hm) (aW U) (aK [1,2,3,4,5,6,7,8,9]))
 refine an<|bh 3 U<|RK W<|WS fun _ DU=>rP 4 [] (mc 0 U I) ?_
 refine RK DU<|bT U (aR fun M=>?_) (aQ fun M=>?_)
 ·refine cr<|aF<|gi 9 U eQ U ?_
  refine bg (L ⟨((bY left x),(s+1),t),(by refine ⟨?_,?_,e_ B,?_⟩<;>dsimp only <;>first|omega|(have:=vy hn hm E O; omega)|(have:=BL hn hm E M; omega))⟩ _ _ _ U (er hm) (aW U) (aK [1,2,3,4,5,6,7,8,9]))
 refine an<|rP 3 [] I ?_
 refine aG<|aF<|gi 9 U eQ U ?_
 refine bg (L ⟨((bY left x),(s+1),(t+1)),(by refine ⟨?_,?_,e_ B,?_⟩<;>dsimp only <;>first|omega|(have:=vy hn hm E O; omega)|(have:=ze hn hm E M; omega))⟩ _ _ _ U (er hm) (aW U) (aK [1,2,3,4,5,6,7,8,9]))
end
section
open Go.RowKit
theorem JI (i:Int) (r:bX) (kA:OA) (kC:Nat) (az:List RA) (cA:OA) (cC:Nat) (bA:OA) (bC:Nat) (slA:OA) (slC:Nat) (drA:OA) (drC:Nat) (ha:List cL) (heA:OA) (heC:Nat) (hin:eF r az ha):
 lq Tryz.prog 16 [(vA (cw.cells (oi r kA kC cA cC bA bC slA slC drA drC heA heC))),(vI i)] [(rd eB 3 2 dE),(rd kA r.ar.aN.length 9 (r.ar.aN.map ai.cells)),(rd cA r.ar.ak.length 2 (List.zipWith av.cells r.ar.ak az)),(eY (aX av.ja r.ar.ak az)),(rd bA r.ar.ab.length 4 (r.ar.ab.map bM.cells)),(rd slA r.aU.length 1 (r.aU.map iC)),(rd drA r.bV.length 1 (r.bV.map iC)),(rd heA r.aB.length 1 (List.zipWith cR r.aB ha)),(eY (aX jk r.aB ha))] (fun (x:(OA)×Nat)=>(vT [(vS x.1 ((iA r i).length) x.2),(vI (km r i))])) (fun (x:(OA)×Nat)=>True) (fun (x:(OA)×Nat)=>[(own x.1 x.2 3 1 ((iA r i).map iC))]):=by
 have V:=hin.line
 have k:=hin.iZ
 have l:=hin.has
 have c:=hin.je
 have Z:=hin.draw
 have d:=dT (r:=r)
 refine de kr Tryz.func16 U U fun o Q hQ hN=>?_
 try dsimp only
 refine WS fun _ AA=>fY U fun n=>bh 2 U<|RK AA<|WS fun _ G=>rP 2 [] (mc 0 U I) ?_
 refine cH (xs:=[.tmp 11]) (cs:=[(vI i)]) U cy hE U U U U (by simp [Value.cells]) U U fun h=>cX (vO r kA kC az cA cC bA bC slA slC drA drC ha heA heC i h hin) (a_ [2,3,4,5,6,7,8,9,10,0]) U fun m L=>?_
 obtain ⟨M,j,T,S,N,O,wA,f,g⟩:=m
 cases M
 ·obtain ⟨H,he⟩:=L.2 rfl
  try dsimp only at H he
  subst H
  try dsimp only [cond_true,cond_false,List.cons_append,List.nil_append]
  refine bh 7 U<|RK G<|ah fun _ Y=>WS fun _ B=>rP 2 [] I ?_
  refine RK B<|bT U (bp fun A=>?_) (bq fun A=>?_)
  ·exact absurd A he
  refine WS fun _ C=>dY 3 1 ?_
  rw [show (own none 0 3 1 ([]:List (List Value)))=own none 0 3 1 ((iA r i).map iC) from by rw [vd he]; rfl]
  refine bh 1 U<|rP 2 [] I ?_
  refine RK C<|ao ?_
  refine LX hQ (none,0) [0] [] I U U U ?_ ?_
  ·(rw [vd he]; rfl)
  ·trivial
 obtain ⟨he,W⟩:=L.1 rfl
 try dsimp only [cond_true,cond_false,List.cons_append,List.nil_append]
 try dsimp only at W
 obtain ⟨J,a,AB⟩:=vL he
 have K:=m0 J
 have b:=nz J
 refine bh 7 U<|RK G<|ah fun _ D=>WS fun _ E=>bh 1 U<|rS (SX (bP (r:= .bool false) U U U l9) U U)<|RK E<|aS U<|WK D<|WS fun _ F=>rP 2 [] I ?_
 refine cX (xe r kA kC cA cC bA bC slA slC drA drC heA heC N ((cU r).length) O S T (ay r) i (by exact K) (by exact AB) om) (a_ [0,3]) U fun X e=>?_
 obtain ⟨P,R⟩:=X
 try dsimp only
 rw [show (dq (ay r) i (au (ay r) i))=iA r i from (CO he).symm]
 refine rP 2 [] I ?_
 refine RK F<|ao ?_
 refine LX hQ (P,R) [0] [] I U U U ?_ ?_
 ·(rw [he]; rfl)
 ·trivial
theorem yk (a b:Int) (r:bX) (kA:OA) (kC:Nat) (az:List RA) (cA:OA) (cC:Nat) (bA:OA) (bC:Nat) (slA:OA) (slC:Nat) (drA:OA) (drC:Nat) (ha:List cL) (heA:OA) (heC:Nat) (hin:eF r az ha):
 dR Tryz.prog 27 [(vA (cw.cells (oi r kA kC cA cC bA bC slA slC drA drC heA heC))),(vI a),(vI b)] [(rd eB 3 2 dE),(rd kA r.ar.aN.length 9 (r.ar.aN.map ai.cells)),(rd cA r.ar.ak.length 2 (List.zipWith av.cells r.ar.ak az)),(eY (aX av.ja r.ar.ak az)),(rd bA r.ar.ab.length 4 (r.ar.ab.map bM.cells)),(rd slA r.aU.length 1 (r.aU.map iC)),(rd drA r.bV.length 1 (r.bV.map iC)),(rd heA r.aB.length 1 (List.zipWith cR r.aB ha)),(eY (aX jk r.aB ha))] (vT [(Value.int .u8 (qt r a b)),(vI (lk r a b))]):=by
 have M:=hin.line
 have k:=hin.iZ
 have l:=hin.has
 have V:=hin.je
 have R:=hin.draw
 have W:=dT (r:=r)
 refine bE kr Tryz.func27 U U fun p Q hQ hN=>?_
 try dsimp only
 refine WS fun _ L=>fY U fun o=>bh 2 U<|RK L<|WS fun _ H=>rP 3 [] (mc 0 U I) ?_
 refine cH (xs:=[.tmp 13,.tmp 14]) (cs:=[(vI a),(vI b)]) U cy hE U U U U (by simp [Value.cells]) U U fun d=>cX (vo r kA kC az cA cC bA bC slA slC drA drC ha heA heC a b d hin) (a_ [2,3,4,5,6,7,8,9,10,0]) U fun m J=>?_
 obtain ⟨K,e,g,f,Z,c,wA,X,Y⟩:=m
 cases K
 ·obtain ⟨AB,he⟩:=J.2 rfl
  try dsimp only at AB he
  subst AB
  try dsimp only [cond_true,cond_false,List.cons_append,List.nil_append]
  refine bh 7 U<|RK H<|ah fun _ P=>WS fun _ C=>rP 2 [] I ?_
  refine RK C<|bT U (bp fun B=>?_) (bq fun B=>?_)
  ·exact absurd B he
  refine WS fun _ D=>rP 3 [] I ?_
  refine RK D<|ao<|Q2 hQ U U U U ?_
  (rw [show qt r a b=0 from if_neg he]; done)
 obtain ⟨he,O⟩:=J.1 rfl
 try dsimp only [cond_true,cond_false,List.cons_append,List.nil_append]
 try dsimp only at O
 obtain ⟨N,S,T,AA⟩:=vq he
 have A:=m0 N
 have h:=fZ (i:=a) A
 have j:=fZ (i:=b) A
 refine bh 7 U<|RK H<|ah fun _ E=>WS fun _ F=>bh 1 U<|rS (SX (bP (r:= .bool false) U U U l9) U U)<|RK F<|aS U<|WK E<|ah fun _ G=>dF cE 21 kr<|dP 1 [] I ?_
 refine dS (IA 0 U (ag (n:=2) 4 U sq) gS dc U om) ?_
 refine dS (pt ((0*2)+1) U (ag (n:=([(au (ay r) a),(au (ay r) b)]).length) 4 U sm) (Nat.succ_pos _) fB U)<|dS (g_ 0 1 (vI ((au (ay r) a).Hi)) U ct (ag (n:=([(au (ay r) a),(au (ay r) b)]).length) 4 U sm) (show ([(au (ay r) a),(au (ay r) b)].map aa.cells)[0]? =some [(vI ((au (ay r) a).Lo)),(vI ((au (ay r) a).Hi))] from U) U dc U)<|dP 1 [] I ?_
 refine dS (IA 1 U (ag (n:=2) 4 U sq) gS dc U om) ?_
 refine dS (pt (1*2) U (ag (n:=([(au (ay r) a),(au (ay r) b)]).length) 4 U sm) (Nat.succ_pos _) fB U)<|dS (g_ 1 0 (vI ((au (ay r) b).Lo)) U ct (ag (n:=([(au (ay r) a),(au (ay r) b)]).length) 4 U sm) (show ([(au (ay r) a),(au (ay r) b)].map aa.cells)[1]? =some [(vI ((au (ay r) b).Lo)),(vI ((au (ay r) b).Hi))] from U) U dc U)<|dP 2 [] I ?_
 refine dS (IA 0 U (ag (n:=2) 4 U sq) gS dc U om) ?_
 refine dS (pt (0*2) U (ag (n:=([(au (ay r) a),(au (ay r) b)]).length) 4 U sm) (Nat.succ_pos _) fB U)<|dS (g_ 0 0 (vI ((au (ay r) a).Lo)) U ct (ag (n:=([(au (ay r) a),(au (ay r) b)]).length) 4 U sm) (show ([(au (ay r) a),(au (ay r) b)].map aa.cells)[0]? =some [(vI ((au (ay r) a).Lo)),(vI ((au (ay r) a).Hi))] from U) U dc U)<|dP 1 [] I ?_
 refine dS (IA 1 U (ag (n:=2) 4 U sq) gS dc U om) ?_
 refine dS (pt ((1*2)+1) U (ag (n:=([(au (ay r) a),(au (ay r) b)]).length) 4 U sm) (Nat.succ_pos _) fB U)<|dS (g_ 1 1 (vI ((au (ay r) b).Hi)) U ct (ag (n:=([(au (ay r) a),(au (ay r) b)]).length) 4 U sm) (show ([(au (ay r) a),(au (ay r) b)].map aa.cells)[1]? =some [(vI ((au (ay r) b).Lo)),(vI ((au (ay r) b).Hi))] from U) U dc U)<|lQ 1 U<|dS (CL (um (decide (((au (ay r) a).Hi)<((au (ay r) b).Lo))) (decide (((au (ay r) a).Lo)<((au (ay r) b).Hi)))) (aD) U)<|dP 2 [] I ?_
 refine cQ<|RK G<|ao<|Q2 hQ U U U U ?_
 (rw [he,show qt r a b=xQ _ _ from if_pos he,← Jd])
theorem Lj (a b:Int) (r:bX) (kA:OA) (kC:Nat) (az:List RA) (cA:OA) (cC:Nat) (bA:OA) (bC:Nat) (slA:OA) (slC:Nat) (drA:OA) (drC:Nat) (ha:List cL) (heA:OA) (heC:Nat) (hin:eF r az ha):
 dR Tryz.prog 71 [(vA (cw.cells (oi r kA kC cA cC bA bC slA slC drA drC heA heC))),(vI a),(vI b)] [(rd eB 3 2 dE),(rd kA r.ar.aN.length 9 (r.ar.aN.map ai.cells)),(rd cA r.ar.ak.length 2 (List.zipWith av.cells r.ar.ak az)),(eY (aX av.ja r.ar.ak az)),(rd bA r.ar.ab.length 4 (r.ar.ab.map bM.cells)),(rd slA r.aU.length 1 (r.aU.map iC)),(rd drA r.bV.length 1 (r.bV.map iC)),(rd heA r.aB.length 1 (List.zipWith cR r.aB ha)),(eY (aX jk r.aB ha))] (vT [(Value.int .u8 (ox r a b)),(vI (lk r a b))]):=by
 have T:=hin.line
 have q:=hin.iZ
 have s:=hin.has
 have d:=hin.je
 have X:=hin.draw
 have e:=dT (r:=r)
 refine bE kr Tryz.func71 U U fun w Q hQ hN=>?_
 try dsimp only
 refine WS fun _ P=>fY U fun v=>bh 2 U<|RK P<|WS fun _ J=>rP 3 [] (mc 0 U I) ?_
 refine cH (xs:=[.tmp 14,.tmp 15]) (cs:=[(vI a),(vI b)]) U cy hE U U U U (by simp [Value.cells]) U U fun l=>cX (vo r kA kC az cA cC bA bC slA slC drA drC ha heA heC a b l hin) (a_ [2,3,4,5,6,7,8,9,10,0]) U fun u N=>?_
 obtain ⟨O,m,p,o,h,j,wA,f,g⟩:=u
 cases O
 ·obtain ⟨M,he⟩:=N.2 rfl
  try dsimp only at M he
  subst M
  try dsimp only [cond_true,cond_false,List.cons_append,List.nil_append]
  refine bh 7 U<|RK J<|ah fun _ W=>WS fun _ E=>rP 2 [] I ?_
  refine RK E<|bT U (bp fun D=>?_) (bq fun D=>?_)
  ·exact absurd D he
  refine WS fun _ F=>rP 3 [] I ?_
  refine RK F<|ao<|Q2 hQ U U U U ?_
  (rw [show ox r a b=0 from if_neg he]; done)
 obtain ⟨he,V⟩:=N.1 rfl
 try dsimp only [cond_true,cond_false,List.cons_append,List.nil_append]
 try dsimp only at V
 obtain ⟨AA,Y,Z,c⟩:=vq he
 have B:=m0 AA
 have R:=fZ (i:=a) B
 have S:=fZ (i:=b) B
 refine bh 7 U<|RK J<|ah fun _ G=>WS fun _ H=>rP 1 [] I ?_
 refine rS (SX (bP (r:= .bool false) U U U l9) U U)<|RK H<|aS U<|WK G<|ah fun _ AB=>ek cE [19,20] [] [] [0,1,2,3,4,5,6,7,8,9,10,11,12,13,14,15] [] U U U U U<|eS U (MV U) ?_
 refine eS U (IA 0 U (ag (n:=2) 4 U sq) gS dc U om) ?_
 refine eS U (pt (0*2) U (ag (n:=([(au (ay r) a),(au (ay r) b)]).length) 4 U sm) (Nat.succ_pos _) fB U)<|eS U (g_ 0 0 (vI ((au (ay r) a).Lo)) U ct (ag (n:=([(au (ay r) a),(au (ay r) b)]).length) 4 U sm) (show ([(au (ay r) a),(au (ay r) b)].map aa.cells)[0]? =some [(vI ((au (ay r) a).Lo)),(vI ((au (ay r) a).Hi))] from U) U dc U)<|eS U (MV U) ?_
 refine eS U (IA 1 U (ag (n:=2) 4 U sq) gS dc U om) ?_
 refine eS U (pt (1*2) U (ag (n:=([(au (ay r) a),(au (ay r) b)]).length) 4 U sm) (Nat.succ_pos _) fB U)<|eS U (g_ 1 0 (vI ((au (ay r) b).Lo)) U ct (ag (n:=([(au (ay r) a),(au (ay r) b)]).length) 4 U sm) (show ([(au (ay r) a),(au (ay r) b)].map aa.cells)[1]? =some [(vI ((au (ay r) b).Lo)),(vI ((au (ay r) b).Hi))] from U) U dc U)<|eS U (MX U)<|eS U (MV U) ?_
 refine eS U (IA 0 U (ag (n:=2) 4 U sq) gS dc U om) ?_
 refine eS U (pt ((0*2)+1) U (ag (n:=([(au (ay r) a),(au (ay r) b)]).length) 4 U sm) (Nat.succ_pos _) fB U)<|eS U (g_ 0 1 (vI ((au (ay r) a).Hi)) U ct (ag (n:=([(au (ay r) a),(au (ay r) b)]).length) 4 U sm) (show ([(au (ay r) a),(au (ay r) b)].map aa.cells)[0]? =some [(vI ((au (ay r) a).Lo)),(vI ((au (ay r) a).Hi))] from U) U dc U)<|eS U (MV U) ?_
 refine eS U (IA 1 U (ag (n:=2) 4 U sq) gS dc U om) ?_
 refine eS U (pt ((1*2)+1) U (ag (n:=([(au (ay r) a),(au (ay r) b)]).length) 4 U sm) (Nat.succ_pos _) fB U)<|eS U (g_ 1 1 (vI ((au (ay r) b).Hi)) U ct (ag (n:=([(au (ay r) a),(au (ay r) b)]).length) 4 U sm) (show ([(au (ay r) a),(au (ay r) b)].map aa.cells)[1]? =some [(vI ((au (ay r) b).Lo)),(vI ((au (ay r) b).Hi))] from U) U dc U)<|eS U (MN U)<|eS U (SX (aZ (xs:=[(0,.tmp 32),(1,.tmp 41)]) (cs:=(aa.cells (aa.mk (max ((au (ay r) a).Lo) ((au (ay r) b).Lo)) (min ((au (ay r) a).Hi) ((au (ay r) b).Hi))))) U U (bf gR U)) U U)<|ff U<|cf U fun T22 K=>AL U dk fun k=>aG (K _ _ (aK [1,2,3,4,5,6,7,8,9,10,11,12,13,14,15,16]) ?_)
 refine cf U fun T24 L=>fG U cx U<|aG (L _ _ (aK [1,2,3,4,5,6,7,8,9,10,11,12,13,14,15,16]) ?_)
 refine fV U<|KK AB<|ah fun _ A=>dF cE 22 kr<|dP 1 [] I ?_
 refine dS (IA 0 U (ag (n:=2) 5 U sq) gS dc U om) ?_
 refine dS (n9 0 0 (aa.cells (au (ay r) a)) U ct (ag (n:=([(au (ay r) a),(au (ay r) b)]).length) 5 U sm) (show ([(au (ay r) a),(au (ay r) b)].map aa.cells)[0]? =some [(vI ((au (ay r) a).Lo)),(vI ((au (ay r) a).Hi))] from U) U dc U U)<|dP 1 [] I ?_
 refine dS (IA 1 U (ag (n:=2) 5 U sq) gS dc U om) ?_
 refine dS (n9 1 0 (aa.cells (au (ay r) b)) U ct (ag (n:=([(au (ay r) a),(au (ay r) b)]).length) 5 U sm) (show ([(au (ay r) a),(au (ay r) b)].map aa.cells)[1]? =some [(vI ((au (ay r) b).Lo)),(vI ((au (ay r) b).Hi))] from U) U dc U U)<|dS (BI U (uB _ _ (au (ay r) a) (au (ay r) b)))<|dP 1 [] I ?_
 refine jL (t:=50) U (aR fun C=>?_) (aQ fun C=>?_)
 ·refine mQ 11 [] (mc 0 U I) U<|dS (CL (um false (decide ((max ((au (ay r) a).Lo) ((au (ay r) b).Lo))≤(min ((au (ay r) a).Hi) ((au (ay r) b).Hi))))) (aD) U)<|dP 2 [] I ?_
  refine cQ<|RK A<|ao<|Q2 hQ U U U U ?_
  (rw [he,show ox r a b=pB _ _ from if_pos he,← IL R.2.1 S.2.1 C]; done)
 refine mQ 11 [] (mc 0 U I) U<|dS (CL (um (decide ((max ((au (ay r) a).Lo) ((au (ay r) b).Lo))=(min ((au (ay r) a).Hi) ((au (ay r) b).Hi)))) (decide ((max ((au (ay r) a).Lo) ((au (ay r) b).Lo))≤(min ((au (ay r) a).Hi) ((au (ay r) b).Hi))))) (aD) U)<|dP 2 [] I ?_
 refine cQ<|RK A<|ao<|Q2 hQ U U U U ?_
 (rw [he,show ox r a b=pB _ _ from if_pos he,← F1 C]; done)
end
section
open Go.RowKit
theorem MI (i:Int) (r:bX) (kA:OA) (kC:Nat) (az:List RA) (cA:OA) (cC:Nat) (bA:OA) (bC:Nat) (slA:OA) (slC:Nat) (drA:OA) (drC:Nat) (ha:List cL) (heA:OA) (heC:Nat) (hin:eF r az ha):
 dR Tryz.prog 47 [(vA (cw.cells (oi r kA kC cA cC bA bC slA slC drA drC heA heC))),(vI i)] [(rd eB 3 2 dE),(rd kA r.ar.aN.length 9 (r.ar.aN.map ai.cells)),(rd cA r.ar.ak.length 2 (List.zipWith av.cells r.ar.ak az)),(eY (aX av.ja r.ar.ak az)),(rd bA r.ar.ab.length 4 (r.ar.ab.map bM.cells)),(rd slA r.aU.length 1 (r.aU.map iC)),(rd drA r.bV.length 1 (r.bV.map iC)),(rd heA r.aB.length 1 (List.zipWith cR r.aB ha)),(eY (aX jk r.aB ha))] (vT [(vA (aa.cells (ql r i))),(vI (km r i))]):=by
 have M:=hin.line
 have g:=hin.iZ
 have h:=hin.has
 have W:=hin.je
 have R:=hin.draw
 have X:=dT (r:=r)
 refine bE kr Tryz.func47 U U fun m Q hQ hN=>?_
 try dsimp only
 refine WS fun _ L=>fY U fun k=>AL U dk fun l=>bh 1 U<|RK L<|WS fun _ G=>rP 2 [] (mc 1 U I) ?_
 refine cH (xs:=[.tmp 11]) (cs:=[(vI i)]) U cy hE U U U U (by simp [Value.cells]) U U fun d=>cX (vO r kA kC az cA cC bA bC slA slC drA drC ha heA heC i d hin) (a_ [3,4,5,6,7,8,9,10,11,0]) U fun j J=>?_
 obtain ⟨K,e,f,O,a,b,c,Y,Z⟩:=j
 cases K
 ·obtain ⟨H,he⟩:=J.2 rfl
  try dsimp only at H he
  subst H
  try dsimp only [cond_true,cond_false,List.cons_append,List.nil_append]
  refine bh 7 U<|RK G<|ah fun _ P=>WS fun _ B=>rP 2 [] I ?_
  refine RK B<|bT U (bp fun A=>?_) (bq fun A=>?_)
  ·exact absurd A he
  refine WS fun _ C=>rS (SX (aZ (xs:=[]) (cs:=(aa.cells (aa.mk 0 0))) U U (bf gR U)) U U)<|bh 1 U<|sD U cx U<|rP 1 [] I ?_
  refine RK C<|ao<|mO hQ [0] (mc 1 U I) U ?_
  first|(rw [show ql r i=dC from if_neg he]; rfl)|(rw [he,show ql r i=au _ _ from if_pos he]; done)
 obtain ⟨he,N⟩:=J.1 rfl
 try dsimp only [cond_true,cond_false,List.cons_append,List.nil_append]
 try dsimp only at N
 obtain ⟨AB,S,T⟩:=vL he
 have AA:=m0 AB
 have V:=nz AB
 refine bh 7 U<|RK G<|ah fun _ D=>WS fun _ E=>bh 1 U<|rS (SX (bP (r:= .bool false) U U U l9) U U)<|RK E<|aS U<|WK D<|WS fun _ F=>rP 1 [] I ?_
 refine rS (IA 0 U (ag (n:=1) 4 U sq) gS dc U om) ?_
 refine rS (n9 0 0 (aa.cells (au (ay r) i)) U ct (ag (n:=([(au (ay r) i)]).length) 4 U sm) (show ([(au (ay r) i)].map aa.cells)[0]? =some [(vI ((au (ay r) i).Lo)),(vI ((au (ay r) i).Hi))] from U) U dc U U)<|Kk U cx U<|rP 1 [] I ?_
 refine RK F<|ao<|mO hQ [0] (mc 6 U I) U ?_
 first|(rw [show ql r i=dC from if_neg he]; rfl)|(rw [he,show ql r i=au _ _ from if_pos he]; done)
theorem FK (r:bX) (kA:OA) (kC:Nat) (az:List RA) (cA:OA) (cC:Nat) (bA:OA) (bC:Nat) (slA:OA) (slC:Nat) (drA:OA) (drC:Nat) (ha:List cL) (heA:OA) (heC:Nat) (hin:eF r az ha):
 dR Tryz.prog 24 [(vA (cw.cells (oi r kA kC cA cC bA bC slA slC drA drC heA heC)))] [(rd eB 3 2 dE),(rd kA r.ar.aN.length 9 (r.ar.aN.map ai.cells)),(rd cA r.ar.ak.length 2 (List.zipWith av.cells r.ar.ak az)),(eY (aX av.ja r.ar.ak az)),(rd bA r.ar.ab.length 4 (r.ar.ab.map bM.cells)),(rd slA r.aU.length 1 (r.aU.map iC)),(rd drA r.bV.length 1 (r.bV.map iC)),(rd heA r.aB.length 1 (List.zipWith cR r.aB ha)),(eY (aX jk r.aB ha))] (vI (cG r)):=by
 have H:=hin.line
 have R:=hin.iZ
 have S:=hin.has
 have J:=hin.je
 have AB:=hin.draw
 have K:=dT (r:=r)
 refine bE kr Tryz.func24 U U fun X Q hQ hN=>?_
 try dsimp only
 refine WS fun _ G=>fY U fun W=>bh 1 U<|RK G<|WS fun _ C=>rP 1 [] (mc 0 U I) ?_
 refine cX (lO r kA kC az cA cC bA bC slA slC drA drC ha heA heC hin) (a_ [1,2,3,4,5,6,7,8,9]) U fun V E=>?_
 obtain ⟨F,N,P,O,AA,L,M⟩:=V
 cases F
 rotate_left 1
 ·obtain ⟨he,T⟩:=E.1 rfl
  try dsimp only [cond_true,cond_false,List.cons_append,List.nil_append]
  refine bh 5 U<|RK C<|WS fun _ B=>rP 2 [] I ?_
  refine RK B<|ao<|Q1 hQ U U U ?_
  first|rfl|(rw [he])
 obtain ⟨D,he⟩:=E.2 rfl
 try dsimp only at D he
 subst D
 try dsimp only [cond_true,cond_false,List.cons_append,List.nil_append]
 refine bh 5 U<|RK C<|WS fun _ A=>rP 2 [] I ?_
 refine RK A<|ao<|Q1 hQ U U U ?_
 first|rfl|(rw [he])
end
section
open Go.RowKit
theorem FH (h i:Int) (r:bX) (kA:OA) (kC:Nat) (az:List RA) (cA:OA) (cC:Nat) (bA:OA) (bC:Nat) (slA:OA) (slC:Nat) (drA:OA) (drC:Nat) (ha:List cL) (heA:OA) (heC:Nat) (hin:eF r az ha):
 dR Tryz.prog 15 [(vA (cw.cells (oi r kA kC cA cC bA bC slA slC drA drC heA heC))),(vI h),(vI i)] [(rd eB 3 2 dE),(rd kA r.ar.aN.length 9 (r.ar.aN.map ai.cells)),(rd cA r.ar.ak.length 2 (List.zipWith av.cells r.ar.ak az)),(eY (aX av.ja r.ar.ak az)),(rd bA r.ar.ab.length 4 (r.ar.ab.map bM.cells)),(rd slA r.aU.length 1 (r.aU.map iC)),(rd drA r.bV.length 1 (r.bV.map iC)),(rd heA r.aB.length 1 (List.zipWith cR r.aB ha)),(eY (aX jk r.aB ha))] (vT [(vA (aa.cells (fy r h i))),(vI (kb r h i))]):=by
 have AO:=hin.line
 have A7:=hin.iZ
 have A8:=hin.has
 have A4:=hin.je
 have A2:=hin.draw
 have F:=dT (r:=r)
 refine bE kr Tryz.func15 U U fun w0 Q hQ hN=>?_
 try dsimp only
 refine WS fun _ u=>fY U fun b2=>AL U dk fun b3=>bh 1 U<|RK u<|WS fun _ X=>rP 1 [] (mc 1 U I) ?_
 refine cX (lO r kA kC az cA cC bA bC slA slC drA drC ha heA heC hin) (a_ [2,3,4,5,6,7,8,9,10]) U fun y5 c=>?_
 obtain ⟨f,A6,o,m,g,j,wA⟩:=y5
 cases f
 ·obtain ⟨Y,he⟩:=c.2 rfl
  try dsimp only at Y he
  subst Y
  try dsimp only [cond_true,cond_false,List.cons_append,List.nil_append]
  refine bh 5 U<|RK X<|ah fun _ A1=>aA<|WS fun _ N=>rP 3 [] I ?_
  refine RK N<|bT U (bp fun M=>?_) (bq fun M=>?_)
  ·exact absurd M he
  refine WS fun _ O=>rS (SX (aZ (xs:=[]) (cs:=(aa.cells (aa.mk 0 0))) U U (bf gR U)) U U)<|bh 1 U<|fG U cx U<|rP 1 [] I ?_
  refine RK O<|ao<|mO hQ [0] (mc 0 U I) U ?_
  first|(have e:=lV (h:=h) (i:=i) he; have B:fy r h i=dC:=if_neg (fun q=>by rw [e] at q; exact he q); rw [e,B]; rfl)|(have e:=nq (h:=h) (i:=i) he om; have B:fy r h i=dC:=if_neg (fun q=>by rw [e] at q; cases q); rw [e,B]; rfl)|(have e:=mh he om A hd C; have B:fy r h i=dC:=if_neg (fun q=>by rw [e] at q; cases q); rw [e,B]; rfl)|(have e:=o1 he om A hd C; rw [e.1,e.2,H]; done)
 obtain ⟨he,J⟩:=c.1 rfl
 try dsimp only [cond_true,cond_false,List.cons_append,List.nil_append]
 try dsimp only at J
 have a:=(jd he).2
 refine bh 5 U<|RK X<|ah fun _ P=>aA<|WS fun _ R=>bh 1 U<|rS (SX (bP (r:= .bool false) U U U l9) U U)<|bh 1 U<|RK R<|aS U<|WS fun _ K=>rP 5 [] (mc 5 U I) ?_
 refine cH (xs:=[.tmp 25]) (cs:=[(vI h)]) U cy hE U U U U (by simp [Value.cells]) U U fun k=>?_
 refine rS (CL (dR.eq (js 0 ((r.aB.length:Int)-1) ([h]) (some ⟨k,0,none⟩) 1 sd) cp) (al (aV 0 U U (by simp [bu]) U)<|aD) U) ?_
 refine rP 2 [] I ?_
 refine cK (t:=29) U (bq fun s=>?_) (bp fun s=>?_)
 ·refine bh 7 U<|RK K<|aL U<|WS fun _ S=>rS (SX (aZ (xs:=[]) (cs:=(aa.cells (aa.mk 0 0))) U U (bf gR U)) U U)<|IE U cx U<|rP 1 [] I ?_
  refine RK S<|ao<|mO hQ [0] (mc 5 U I) U ?_
  first|(have e:=lV (h:=h) (i:=i) he; have B:fy r h i=dC:=if_neg (fun q=>by rw [e] at q; exact he q); rw [e,B]; rfl)|(have e:=nq (h:=h) (i:=i) he om; have B:fy r h i=dC:=if_neg (fun q=>by rw [e] at q; cases q); rw [e,B]; rfl)|(have e:=mh he om A hd C; have B:fy r h i=dC:=if_neg (fun q=>by rw [e] at q; cases q); rw [e,B]; rfl)|(have e:=o1 he om A hd C; rw [e.1,e.2,H]; done)
 refine rP 2 [] I ?_
 refine cH (xs:=[.tmp 31]) (cs:=[(vI i)]) U cy hE U U U U (by simp [Value.cells]) U U fun l=>?_
 refine rS (CL (dR.eq (w8 r kA kC az cA cC bA bC slA slC drA drC ha heA heC wA g j (Value.map (some m)) o ([i]) (some ⟨l,0,none⟩) 1 hin sd) cp) (kf [9,10,11,12,13,14,15,16]<|al (ag (n:=(cU r).length) 3 U (lK (by rw [F]; exact J)))<|al (cW 4 U qC)<|eL 2 U U<|al (aV 0 U U (by simp [bu]) U)<|aD) U) ?_
 refine rP 3 [] I ?_
 refine RK K<|cM U (bq fun p=>?_) (bp fun p=>?_)
 ·refine WS fun _ T=>rS (SX (aZ (xs:=[]) (cs:=(aa.cells (aa.mk 0 0))) U U (bf gR U)) U U)<|Kk U cx U<|rP 1 [] I ?_
  refine RK T<|ao<|mO hQ [0] (mc 6 U I) U ?_
  first|(have e:=lV (h:=h) (i:=i) he; have B:fy r h i=dC:=if_neg (fun q=>by rw [e] at q; exact he q); rw [e,B]; rfl)|(have e:=nq (h:=h) (i:=i) he om; have B:fy r h i=dC:=if_neg (fun q=>by rw [e] at q; cases q); rw [e,B]; rfl)|(have e:=mh he om A hd C; have B:fy r h i=dC:=if_neg (fun q=>by rw [e] at q; cases q); rw [e,B]; rfl)|(have e:=o1 he om A hd C; rw [e.1,e.2,H]; done)
 refine WS fun _ AA=>rP 3 [] (mc 7 U I) ?_
 obtain ⟨ht,A⟩:=aM r.aB ((h).toNat) om
 obtain ⟨D,E⟩:=aM ha ((h).toNat) om
 have Z:(List.zipWith cR r.aB ha)[(h).toNat]? =some (cR ht D):=eu A E
 refine rS (IA ((h).toNat) U (aJ 15 U) sH dc om om) ?_
 have z:=hin.oQ _ _ _ A E
 have A3:=z.o4
 have AC:=(a.oQ ht (aT A)).1
 refine rS (g_ ((h).toNat) 0 (vS D.1.1 ht.length D.1.2) U ct (aJ 15 U) Z U dc U)<|rP 1 [] I ?_
 obtain ⟨d,hd⟩:=aM ht ((i).toNat) om
 obtain ⟨da,v⟩:=aM D.2 ((i).toNat) om
 have y:(List.zipWith aw.cells ht D.2)[(i).toNat]? =some (aw.cells d da):=eu hd v
 refine rS (IA ((i).toNat) U (show ju _ (rd D.1.1 ht.length 7 (List.zipWith aw.cells ht D.2)).holds from (eN 16 U (cD A E cq))) uS dc om om)<|rS (pt (((i).toNat)*7) U (show ju _ (rd D.1.1 ht.length 7 (List.zipWith aw.cells ht D.2)).holds from (eN 16 U (cD A E cq))) (Nat.mul_pos om dc) fB U)<|rS (g_ ((i).toNat) 0 (vB d.Out) U ct (show ju _ (rd D.1.1 ht.length 7 (List.zipWith aw.cells ht D.2)).holds from (eN 16 U (cD A E cq))) y U dc U)<|rP 1 [] I ?_
 refine RK AA<|cM U (fun C=>?_) (fun C=>?_)
 ·refine WS fun _ V=>rS (SX (aZ (xs:=[]) (cs:=(aa.cells (aa.mk 0 0))) U U (bf gR U)) U U)<|Kk U cx U<|rP 1 [] I ?_
  refine RK V<|ao<|mO hQ [0] (mc 6 U I) U ?_
  first|(have e:=lV (h:=h) (i:=i) he; have B:fy r h i=dC:=if_neg (fun q=>by rw [e] at q; exact he q); rw [e,B]; rfl)|(have e:=nq (h:=h) (i:=i) he om; have B:fy r h i=dC:=if_neg (fun q=>by rw [e] at q; cases q); rw [e,B]; rfl)|(have e:=mh he om A hd C; have B:fy r h i=dC:=if_neg (fun q=>by rw [e] at q; cases q); rw [e,B]; rfl)|(have e:=o1 he om A hd C; rw [e.1,e.2,H]; done)
 refine cr<|aF<|KK P<|WS fun _ W=>bh 1 U<|rS (SX (bx U U) U U)<|rP 3 [] (mc 2 U I) ?_
 obtain ⟨tr,AB⟩:=aM (cU r) ((h).toNat) om
 obtain ⟨tra,G⟩:=aM wA ((h).toNat) om
 have b:(List.zipWith DV (cU r) wA)[(h).toNat]? =some (DV tr tra):=eu AB G
 refine rS (IA ((h).toNat) U (ag (n:=(cU r).length) 3 U (lK (by rw [F]; exact J))) FT dc om om) ?_
 have L:=vn A AB
 have A5:tr.length=r.aU.length:=by rw [L,List.length_map]; exact AC
 refine rS (g_ ((h).toNat) 0 (vS tra.1 tr.length tra.2) U ct (ag (n:=(cU r).length) 3 U (lK (by rw [F]; exact J))) b U dc U) ?_
 refine rP 1 [] I ?_
 obtain ⟨x,hx⟩:=aM tr ((i).toNat) om
 have A0:=bW aa.cells hx
 refine rS (IA ((i).toNat) U (show ju _ (rd tra.1 tr.length 2 (tr.map aa.cells)).holds from (fun w hw=>(cW 4 U qC) w hw _ (cD AB G (by simp [HT])))) gS dc om om) ?_
 have H:=Fm L hx hd
 refine rS (n9 ((i).toNat) 0 (aa.cells x) U ct (show ju _ (rd tra.1 tr.length 2 (tr.map aa.cells)).holds from (fun w hw=>(cW 4 U qC) w hw _ (cD AB G (by simp [HT])))) A0 U dc U U)<|Kk U cx U<|rP 1 [] I ?_
 refine RK W<|ao<|mO hQ [0] (mc 6 U I) U ?_
 first|(have e:=lV (h:=h) (i:=i) he; have B:fy r h i=dC:=if_neg (fun q=>by rw [e] at q; exact he q); rw [e,B]; rfl)|(have e:=nq (h:=h) (i:=i) he om; have B:fy r h i=dC:=if_neg (fun q=>by rw [e] at q; cases q); rw [e,B]; rfl)|(have e:=mh he om A hd C; have B:fy r h i=dC:=if_neg (fun q=>by rw [e] at q; cases q); rw [e,B]; rfl)|(have e:=o1 he om A hd C; rw [e.1,e.2,H]; done)
end
section
open Go.RowKit
theorem Ib (s:aa):
 dR Tryz.prog 22 [(vA (aa.cells s))] [] (vB (decide (fQ s))):=by
 refine bE kr Tryz.func22 U U fun F Q hQ hN=>?_
 try dsimp only
 refine WS fun _ B=>fY U fun E=>bh 1 U<|RK B<|WS fun _ A=>rP 4 [] (mc 0 U I) ?_
 refine cb (t:=6) U (aR fun C=>?_) (aQ fun C=>?_)
 ·refine rP 12 [] I ?_
  refine RK A<|ao<|Q1 hQ U U U ?_
  simp only [fQ]
  exact cB (cm om).symm
 refine rP 7 [] (mc 0 U I) ?_
 refine cb (t:=13) U (aR fun D=>?_) (aQ fun D=>?_)
 ·refine rP 5 [] I ?_
  refine RK A<|ao<|Q1 hQ U U U ?_
  simp only [fQ]
  exact cB (cm om).symm
 refine rP 5 [] (mc 0 U I) ?_
 refine RK A<|ao<|Q1 hQ U U U ?_
 simp only [fQ]
 exact cB (gd.2 om)
theorem mG (la:List Int) (laA:OA) (laC:Nat) (lb:List Int) (lbA:OA) (lbC:Nat) (h1:la.length≤1000000) (h2:lb.length≤1000000):
 dR Tryz.prog 10 [(vS laA la.length laC),(vS lbA lb.length lbC)] [(rd laA la.length 1 (la.map iC)),(rd lbA lb.length 1 (lb.map iC))] (vB (decide (la=lb))):=by
 refine bE kr Tryz.func10 U U fun V Q hQ hN=>?_
 try dsimp only
 refine WS fun _ J=>bh 1 U<|RK J<|ah fun _ K=>WS fun _ L=>rP 5 [] I ?_
 refine RK L<|cM U (bq fun hl=>?_) (bp fun hl=>?_)
 ·refine WS fun _ M=>rP 1 [] I ?_
  refine RK M<|ao<|Q1 hQ U U U ?_
  exact cB (cm (fun e=>by subst e; omega)).symm
 refine WK K<|ah fun _ N=>WS fun _ O=>rP 1 [] I ?_
 refine RK O<|aA ?_
 have A:(0≤la.length)∧(la.take 0=lb.take 0):=by simp
 refine bR (ι:={z:Nat // (z≤la.length)∧(la.take z=lb.take z)}) [0,1] [0,1] U U (fun z=>[(5,(vI (z.1:Int)))]) (fun z=>[]) (fun _=>rfl) (fun _=>rfl) (fun z=>la.length-z.1) ⟨0,A⟩ (aW U) (aK [0,1]) ?_
 clear A
 rintro ⟨i,⟨S,B⟩⟩ J7 AB
 try dsimp only
 refine ah fun _ P=>WS fun _ R=>rP 4 [] I ?_
 refine RK R<|bT U (aR fun H=>?_) (aQ fun H=>?_)
 ·refine bI<|ae<|ae<|aC<|KK N<|WS fun _ F=>rP 1 [] I ?_
  refine RK F<|ao<|Q1 hQ U U U ?_
  exact cB (dB (l0 om B om)).symm
 refine WK P<|ah fun _ C=>aA<|ah fun _ D=>dF cE 9 kr<|dP 2 [] I ?_
 obtain ⟨x,hx⟩:=aM la i om
 have T:=bW iC hx
 refine dS (IA i U (aJ 0 U) cy dc om om)<|dS (g_ i 0 (vI x) U ct (aJ 0 U) T U dc U)<|dP 2 [] I ?_
 obtain ⟨y,hy⟩:=aM lb i om
 have AA:=bW iC hy
 refine dS (IA i U (aJ 1 U) cy dc om om)<|dS (g_ i 0 (vI y) U ct (aJ 1 U) AA U dc U)<|dP 1 [] I ?_
 refine cQ<|RK D<|cM U (bq fun h=>?_) (bp fun h=>?_)
 ·refine WS fun _ E=>rP 1 [] I ?_
  refine RK E<|ao<|Q1 hQ U U U ?_
  exact cB (cm (l8 hx hy h)).symm
 refine cr<|aF<|KK C<|an<|rP 3 [] I ?_
 refine aG ?_
 have G:(vI (((i+1):Nat):Int))=(vI ((i:Int)+1)):=by exact cI om
 refine bg (AB ⟨(i+1),⟨om,rr B hx hy h⟩⟩ _ _ _ U os (ee.cons U<|ee.cons U<|bG U G<|ee.nil _) (aK [0,1]))
end
section
theorem TN.sub {E:eD} {ops:Array Oper} {Q:cP} {D:gj} {C' C1 C:List aq} {tb rem:List Nat}: ∀ {n:Nat} {L L':cY},ee L L'→TN E ops D C' C1 (fun L C=>KJ E (Q .normal) D L C) tb n rem L' C→TN E ops D C' C1 (fun L C=>KJ E (Q .normal) D L C) tb n rem L C:=by
 intro n
 cases n with
 |zero=>intro L L' hs h; exact kv hs (fun _ h=>h) h
 |succ n=>intro L L' hs h i hi o ho K hK; exact Kn hs (fun _ h=>h) (h i hi o ho K hK)
theorem Iz {E:eD} {ops:Array Oper} {Q:cP} {D:gj} {C' C1 C:List aq} {bs:List Bool} {os:List Oper} {L:cY} {tb rem:List Nat} {n:Nat} {t:Nat} {b:Bool} (h:L.lookup t=some (.bool b))
 (h1:b=true→oh E ops D C' C1 (fun L'=>TN E ops D C' C1 (fun L C=>KJ E (Q .normal) D L C) tb n rem L' C) bs os ((t,.bool true)::L)) (h2:b=false→oh E ops D C' C1 (fun L'=>TN E ops D C' C1 (fun L C=>KJ E (Q .normal) D L C) tb n rem L' C) bs os ((t,.bool false)::L)):
 oh E ops D C' C1 (fun L'=>TN E ops D C' C1 (fun L C=>KJ E (Q .normal) D L C) tb n rem L' C) bs os L:=by
 have A: ∀ v:Bool,b=v→ee L ((t,.bool v)::L):=fun v hv=>ee.cons (hv▸h) (fun _ _ h=>h)
 cases b
 ·exact oh.mono (fun _ _=>TN.sub) (A _ U) (h2 U)
 ·exact oh.mono (fun _ _=>TN.sub) (A _ U) (h1 U)
theorem Fb {E:eD} {ops:Array Oper} {Q:cP} {D:List Deferred} {L:List (Nat×Value)} {C1 C2 C:List aq} {t n:Nat} {b:Bool} {bs:List Bool} {os:List Oper} {tb rem:List Nat} (h:L.lookup t=some (.bool b)) (h2:b=false→oh E ops D C2 C1 (fun L2=>TN E ops D C2 C1 (fun L C=>KJ E (Q .normal) D L C) tb n rem L2 C) bs os ((t,.bool false)::L)) (h1:b=true→oh E ops D C2 C1 (fun L2=>TN E ops D C2 C1 (fun L C=>KJ E (Q .normal) D L C) tb n rem L2 C) bs os ((t,.bool true)::L)):oh E ops D C2 C1 (fun L2=>TN E ops D C2 C1 (fun L C=>KJ E (Q .normal) D L C) tb n rem L2 C) bs os L:=Iz h h1 h2
end
section
open Go.RowKit
section
variable {r:bX} {h i:Int} {t:aa} {k:Nat}
end
/-- there is a table -/
theorem xp {r:bX} (he:cG r=0): ∃ G,gM (au (ay r)) ((ay r).map (·.1)) G∧x9 G:=by
 have key: ∀ (L:List Int),Ao (fun u=>(au (ay r) u).Lo) L→ ∀ i,i≤L.length→ ∃ G last,kS (au (ay r)) (L.take i) G last:=fun L B i=>by
  induction i with
  |zero=>intro _; exact ⟨[],-1,Cn⟩
  |succ i ih=>
   intro hi
   obtain ⟨G,last,hG⟩:=ih om
   have hx:L[i]? =some (L[i]'om):=fT _
   have C:=fZ (i:=L[i]'om) (m0 he)
   by_cases hl:last<(au (ay r) (L[i]'om)).Lo
   ·obtain ⟨g,hg⟩: ∃ g,(G++[[]])[(G++[([]:List Int)]).length-1]? =some g:=⟨_,fT sm⟩
    exact ⟨_,_,nN om hx hg hG hl⟩
   ·have hp:=B6 C.1 hG hl
    obtain ⟨g,hg⟩: ∃ g,G[G.length-1]? =some g:=⟨_,fT om⟩
    exact ⟨_,_,m7 om (fun u _=>(fZ (i:=u) (m0 he)).2.1) B hx hg hG hl⟩
 obtain ⟨G,last,hG⟩:=key (dK (fun u=>(au (ay r) u).Lo) ((ay r).map (·.1))) ru _ (Nat.le_refl _)
 have A:=r9 hG.ok
 rw [List.take_length] at A
 exact ⟨_,oF A.1 oM,A.2⟩
theorem rQ {r:bX}:(dh r).length≤1000000∧ ∀ l∈dh r,l.length≤1000000:=by
 by_cases he:cG r=0
 ·have E:(ay r).length≤5:=nz he
  have A: ∃ G,gM (au (ay r)) ((ay r).map (·.1)) G∧x9 G:=by
   refine Classical.byContradiction fun hn=>?_
   exact hn (xp he)
  obtain ⟨G,hG,hA⟩:=A
  rw [← qG he hG hA]
  have C:=hG.perm.length_eq
  rw [List.length_map] at C
  have B: ∀ G:List (List Int),(∀ g∈G,g≠[])→G.length≤G.flatten.length:=fun G=>by
   induction G with
   |nil=>intro _; simp
   |cons g G ih=>
    intro hG
    have B:=ih fun y hy=>hG y (df _ hy)
    have D:=List.length_pos_iff.2 (hG g cq)
    simp only [List.flatten_cons,List.length_cons,List.length_append]; omega
  refine ⟨by have:=B G hG.some_; omega,fun l hl=>?_⟩
  have D:l.length≤G.flatten.length:=(List.sublist_flatten_of_mem hl).length_le
  omega
 ·rw [yC he]; simp
theorem yx {r:bX} {h i:Int} {t:aa}:(ep r h i t).length≤r.aU.length:=by
 unfold ep
 split
 ·refine Nat.le_trans (List.length_filter_le _ _) ?_
  rw [fO,List.length_map]
  exact q6
 ·simp
end
section
open Go.RowKit
theorem GZ (m:gG) (gm g1:Nat):
 zY Tryz.prog 86 [] [(vP g1)] [(gQ iV gm (bK dm m)),(bQ g1 40 [(Value.map (some gm))])] ([]:List Int) (fun ys x ys'=> ∃ n zs,(ys++[n]++zs).Perm (m.map (·.1))∧x=[vI n]∧ys'=ys++[n]) (fun ys=>ys.Perm (m.map (·.1))):=by
 refine qq kr Tryz.func86 U U fun l J Z A0 S Q hY M L hQ hN=>?_
 try dsimp only
 refine WS fun _ O=>rP 1 [] (mr 2 U I) ?_
 refine jl (kV:=iV) (m:=bK dm m) 1 U U lP U ⟨U,fun h=>h⟩ (by exact j4 1 U) U fun V=>?_
 try dsimp only
 refine RK O<|aA ?_
 have G:(m8 m m ([]:List Int))∧(∀ p∈m,p∈m)∧(J ([]:List Int) A0)∧(Fo A0 S A0):=by exact ⟨rH,fun p hp=>hp,M,L⟩
 refine bR (ι:={z:gG×(List Int)×aq // (m8 m z.1 z.2.1)∧(∀ p∈z.1,p∈m)∧(J z.2.1 z.2.2)∧(Fo A0 S z.2.2)}) [0,1,5] [2,3] U U (fun z=>[]) (fun z=>[(wc iV V gm (bK dm m) (bK dm z.1.1) none),z.1.2.2]) (fun _=>rfl) (fun _=>rfl) (fun z=>z.1.1.length) ⟨(m,([]:List Int),A0),G⟩ (ee.nil _) (aK [2,3,0,1]) ?_
 clear G
 rintro ⟨⟨left,ys,A⟩,⟨B,H,C,D⟩⟩ J3 N
 try dsimp only at B H C D
 try dsimp only
 refine WS fun _ AB=>iq (dJ og).inj (f:=dm) 2 U U U U (fun T=>?_) (fun x y hm hn=>?_)
 ·refine rP 1 [] I ?_
  refine RK AB<|ah fun _ AA=>aS U<|bI<|ae<|ae<|aC ?_
  refine hN _ _ _ (gp (vs:=[]) trivial fun w hs=>Fs 3 U (by rw [T] at B; exact tx B) C D hs)
 try dsimp only
 refine bh 1 U<|RK AB<|ah fun _ P=>aL U<|WK P<|aA<|WS fun _ R=>rS (SX (il 2 U U U) U U)<|bh 2 U<|RK R<|WS fun _ K=>rP 2 [] I ?_
 refine jA (k:=ys) (k':=(ys++[(x)])) 3 (by first|exact hsz|exact Nat.le_refl _) hY C D U U U (by exact ⟨x,_,mR hn hm B,U,U⟩) U U (fun B9 F E=>?_) (fun B9 F E=>?_)
 rotate_left 1
 ·refine rP 1 [] I ?_
  refine RK K<|aL U<|ao ?_
  refine hQ _ _ _ (gp (vs:=[]) trivial fun w hs=>pH 3 U F E hs)
 refine rP 1 [] I ?_
 refine RK K<|aS U<|cr<|aF<|gi 2 U eQ U ?_
 refine bg (N ⟨((bY left x),(ys++[(x)]),B9),⟨mR hn hm B,e_ H,F,E⟩⟩ _ _ _ U (er hm) (aW U) (aK [0,1,2,3]))
theorem B8 (gm:Nat):
 lq Tryz.prog 52 [(Value.map (some gm))] [] (fun (x:Nat)=>(Value.func (.func 86) [].toArray [(vP x)].toArray)) (fun (x:Nat)=>True) (fun (x:Nat)=>[(bQ x 40 [(Value.map (some gm))])]):=by
 refine de kr Tryz.func52 U U fun D Q hQ hN=>?_
 try dsimp only
 refine WS fun _ A=>qM U U fun C=>bh 1 U<|RK A<|WS fun _ B=>rS (FU U)<|rP 1 [] I ?_
 refine RK B<|ao<|LX hQ C [0] [] I U U U U ?_
 trivial
end
section
open Go.RowKit
theorem Dz (m:gG) (gm g1:Nat) (hlen:m.length≤12):
 lq Tryz.prog 120 [(vS none 0 0),(Value.func (.func 86) [].toArray [(vP g1)].toArray)] [(gQ iV gm (bK dm m)),(bQ g1 40 [(Value.map (some gm))])] (fun (x:(List Int)×(OA)×Nat)=>(vS x.2.1 x.1.length x.2.2)) (fun (x:(List Int)×(OA)×Nat)=>x.1.Perm (m.map (·.1))) (fun (x:(List Int)×(OA)×Nat)=>[(own x.2.1 x.2.2 3 1 (x.1.map iC))]):=by
 refine de kr Tryz.func120 U U fun X Q hQ hN=>?_
 try dsimp only
 refine WS fun _ AB=>qM U U fun N=>bh 1 U<|RK AB<|ah fun _ J=>WS fun _ K=>rP 1 [] I ?_
 refine RK K<|aA<|jC 1 U (by exact fun _ h=>h)<|jC 3 U (by exact fun _ h=>h)<|gI 3 1 ?_
 refine l4 (L0:=[(2,(vP N))]) (F:=[(gQ iV gm (bK dm m)).ro,(bQ g1 40 [(Value.map (some gm))]).ro]) (fun k (y:(OA)×Nat)=>(∃ zs,(k++zs).Perm (m.map (·.1)))) (fun k y=>[(own y.1 y.2 3 1 (k.map iC)),(bQ N 29 [(vS y.1 k.length y.2)]),(gQ iV gm (bK dm m)).ro]) (fun _ (_:Unit)=>False) (fun _ _=>[]) [0,3,4] [2,1] (none,0) rfl rfl (GZ m gm g1) rfl rfl rfl (by exact ⟨_,List.Perm.refl _⟩) (by simp only [List.forall_mem_cons,List.not_mem_nil,false_imp_iff,implies_true,and_true]; exact ⟨⟨_,sm,(eH (bU _))⟩,⟨_,sm,(eH (bU _))⟩⟩) (by rintro k x AA ⟨n,zs,_,rfl,_⟩; rfl) rfl (aW rfl) ?_ ?_ (fun _ _ _ h=>h.elim) (fun _ _ h=>h.elim)
 rotate_left 1
 ·rintro V k ⟨a,c⟩ E A
  have B:=A
  try dsimp only at B
  try dsimp only
  refine aF<|KK J<|WS fun _ C=>rP 2 [] (mc 4 U I) ?_
  refine RK C<|ao<|hQ _ _ _ (nc 0 U U<|gp (vs:=[(vS a k.length c)]) ⟨U,trivial⟩ fun w hs=>ER (k,a,c) [3] ?_ ?_ U U U hs)
  ·rfl
  ·first|exact E|exact hys
 rintro k x AA ⟨a,c⟩ l ra rb S Y K5 Qr6 T hx G L D O P
 obtain ⟨n,zs,hn,rfl,rfl⟩:=hx; have M:=hn.length_eq; simp only [List.length_append,List.length_map,List.length_singleton] at M
 have B:=G
 try dsimp only at B
 try dsimp only
 refine an<|rP 1 [] I ?_
 refine aG<|bg (L _ _ ?_)
 refine aA<|an<|rP 2 [] (mc 2 U I) ?_
 refine cH (xs:=[.tmp 9]) (cs:=[(vI n)]) U cy hE U U U U (by simp [Value.cells]) U U fun W=>?_
 refine ei (es2:=(List.map iC (k++[n]))) (m':=(k++[n]).length) 2 U U U rF U U sm (aV (es:=List.map iC [n]) 0 U U (by simp [bu]) U) (ly _) os (by simp only [maxLen]; omega) sm sm U fun R H=>?_
 try dsimp only
 refine PY U wm U U<|aG<|aF ?_
 exact D (R,H) _ _ (by exact ⟨_,hn⟩) (aK [1,2,3,4])
end
section
open Go.RowKit
theorem zT (m:gG) (gm g1:Nat) (hlen:m.length≤12):
 lq Tryz.prog 85 [(Value.func (.func 86) [].toArray [(vP g1)].toArray)] [(gQ iV gm (bK dm m)),(bQ g1 40 [(Value.map (some gm))])] (fun (x:(List Int)×(OA)×Nat)=>(vS x.2.1 x.1.length x.2.2)) (fun (x:(List Int)×(OA)×Nat)=>x.1.Perm (m.map (·.1))) (fun (x:(List Int)×(OA)×Nat)=>[(own x.2.1 x.2.2 3 1 (x.1.map iC))]):=by
 refine de kr Tryz.func85 U U fun AA Q hQ hN=>?_
 try dsimp only
 refine WS fun _ A=>bh 1 U<|RK A<|WS fun _ B=>rP 1 [] I ?_
 refine cX (Dz m gm g1 hlen) (a_ [0,1]) U fun H C=>?_
 obtain ⟨E,F,G⟩:=H
 try dsimp only
 have D:=C
 refine rP 1 [] I ?_
 refine RK B<|ao<|LX hQ (E,F,G) [0] [] I U U U U ?_
 first|exact hfin|exact D
theorem vG (m:gG) (gm g1:Nat) (hlen:m.length≤12):
 lq Tryz.prog 51 [(Value.func (.func 86) [].toArray [(vP g1)].toArray)] [(gQ iV gm (bK dm m)),(bQ g1 40 [(Value.map (some gm))])] (fun (x:(OA)×Nat)=>(vS x.1 m.length x.2)) (fun (x:(OA)×Nat)=>True) (fun (x:(OA)×Nat)=>[(own x.1 x.2 3 1 ((cV (m.map (·.1))).map iC))]):=by
 refine de kr Tryz.func51 U U fun M Q hQ hN=>?_
 try dsimp only
 refine WS fun _ E=>bh 1 U<|RK E<|WS fun _ F=>rP 1 [] I ?_
 refine cX (zT m gm g1 hlen) (a_ [0,1]) U fun L H=>?_
 obtain ⟨AA,J,K⟩:=L
 try dsimp only
 have D:=H
 refine bh 1 U<|RK F<|WS fun _ G=>rP 1 [] I ?_
 have B:=D.length_eq
 simp only [List.length_map] at B
 refine iy 0 U U U U (wJ AA J K sd) U jN U (fun ms C=>?_)
 try dsimp only
 refine RK G<|WS fun _ A=>?_
 obtain rfl:=ou (C.1.trans D) C.2
 skip
 refine rP 2 [] I ?_
 refine RK A<|ao ?_
 refine LX hQ (J,K) [0] [] I U U U ?_ ?_
 ·first|rfl|(rw [B]; rfl)
 ·trivial
end
section
open Go.RowKit
theorem sV (l:List Int) (lA:OA) (lC:Nat) (hlen:l.length≤1000000):
 lq Tryz.prog 40 [(vS lA l.length lC)] [(rd lA l.length 1 (l.map iC))] (fun (x:(OA)×Nat)=>(vS x.1 l.length x.2)) (fun (x:(OA)×Nat)=>True) (fun (x:(OA)×Nat)=>[(own x.1 x.2 3 1 (l.map iC))]):=by
 refine de kr Tryz.func40 U U fun L Q hQ hN=>?_
 try dsimp only
 refine WS fun _ D=>bh 1 U<|RK D<|ah fun _ E=>WS fun _ F=>rP 1 [] I ?_
 refine rS (BI U (oy P1))<|RK F<|cM U (aQ fun B=>?_) (aR fun B=>?_)
 ·refine WS fun _ G=>k8 (aJ 0 U) B dc fun C=>?_
  have A:l=[]:=by simpa using C
  refine dY 3 1 ?_
  rw [show (own none 0 3 1 ([]:List (List Value)))=own none 0 3 1 (l.map iC) from by rw [A]; rfl]
  refine rP 1 [] I ?_
  refine RK G<|ao ?_
  refine LX hQ (none,0) [0] [] I U U U ?_ ?_
  ·first|rfl|(rw [A]; rfl)
  ·trivial
 refine WK E<|WS fun _ H=>sk U cy U fun J=>rP 1 [] I ?_
 refine dg (es:=(List.map iC [])) (C':=[own (some ⟨J,0,none⟩) 0 3 1 (List.map iC []),_]) 0 U sm U (by simp [maxLen]) U ?_
 refine ei (es2:=(List.map iC l)) (m':=l.length) 0 U U U rF U U sm (aJ 1 U) (ly _) os (by first|(simp only [maxLen]; omega)|(simp [maxLen]; omega)) sm sm U fun AA K=>?_
 try dsimp only
 refine rP 1 [] I ?_
 refine RK H<|ao ?_
 refine LX hQ (AA,K) [0] [] I U U U ?_ ?_
 ·first|rfl|(rw [A]; rfl)
 ·trivial
theorem zy (l:List Int) (lA:OA) (lC:Nat) (f:Value) (key:Int→Int) (X:aq) (hf: ∀ x0 x1,x0∈l∧x1∈l→Ai Tryz.prog f [.int .i64 x0,.int .i64 x1] [X] (.int .i64 (key x0-key x1))) (hkb: ∀ x∈l,0≤key x∧key x≤30000000) (hlen:l.length≤1000000):
 Dh Tryz.prog 162 [(vS lA l.length lC),(vI 0),(vI (l.length:Int)),f] [X] (own lA lC 3 1 (l.map iC)) (fun (x:Unit)=>(vT [])) (fun (x:Unit)=>True) (fun (x:Unit)=>(own lA lC 3 1 ((dK key l).map iC))):=by
 refine mg kr Tryz.func162 U U fun s Q hQ hN=>?_
 try dsimp only
 refine WS fun _ Z=>bh 1 U<|rS (SX (bP (r:= .int .i64 1) U U U (gP ⟨dc,dc⟩)) U U)<|rP 1 [] I ?_
 refine RK Z<|aA ?_
 have C:(1≤1∧(1≤l.length∨1=1))∧(l.length=l.length)∧(1=1∧l=[]∨qI key l 1 l)∧(∀ x∈l,x∈l):=by exact ⟨om,rfl,D4,fun x h=>h⟩
 refine bR (ι:={z:Nat×(List Int) // (1≤z.1∧(z.1≤l.length∨z.1=1))∧(z.2.length=l.length)∧(z.1=1∧l=[]∨qI key l z.1 z.2)∧(∀ x∈z.2,x∈l)}) [0,1,2,3] [1] U U (fun z=>[(8,(vI (z.1.1:Int)))]) (fun z=>[(own lA lC 3 1 (z.1.2.map iC))]) (fun _=>rfl) (fun _=>rfl) (fun z=>l.length-z.1.1) ⟨(1,l),C⟩ (aW U) (aK [1,0]) ?_
 clear C
 rintro ⟨⟨i,m⟩,⟨AB,E,F,G⟩⟩ J2 L
 try dsimp only at AB E F G
 try dsimp only
 refine ah fun _ b=>WS fun _ c=>rP 3 [] I ?_
 refine RK c<|bT U (aR fun p=>?_) (aQ fun p=>?_)
 ·refine bI<|ae<|ae<|aC ?_
  rw [show m=dK key l from GH om E F]
  refine LM hN () 1 [] I U U U U ?_
  trivial
 refine WK b<|ah fun _ N=>aA<|WS fun _ d=>rP 2 [] I ?_
 refine RK d<|aA ?_
 have C:(i≤i)∧(m.length=l.length)∧(∀ x∈m,x∈l)∧(xZ key l i i m):=by exact ⟨Nat.le_refl _,E,G,Bj om (JF om F)⟩
 refine bR (ι:={z:Nat×(List Int) // (z.1≤i)∧(z.2.length=l.length)∧(∀ x∈z.2,x∈l)∧(xZ key l i z.1 z.2)}) [0,1,2,3,8] [0] U U (fun z=>[(9,(vI (z.1.1:Int)))]) (fun z=>[(own lA lC 3 1 (z.1.2.map iC))]) (fun _=>rfl) (fun _=>rfl) (fun z=>z.1.1) ⟨(i,m),C⟩ (aW U) (aK [0,1]) ?_
 clear C
 rintro ⟨⟨j,q⟩,⟨J,D,A,B⟩⟩ J8 Y
 try dsimp only at J D A B
 try dsimp only
 refine ah fun _ e=>ah fun _ H=>dF cE 17 kr<|dP 4 [] I ?_
 refine jL (t:=21) U (aR fun V=>?_) (aQ fun V=>?_)
 ·refine lQ 13 U<|cQ<|RK H<|aS U<|bI<|ae<|ae<|aC<|aF<|KK N<|an<|rP 3 [] I ?_
  refine aG ?_
  refine bg (L ⟨((i+1),q),⟨om,D,.inr (by first|exact vu om B|exact vv om B hx hy om),A⟩⟩ _ _ _ U (by simp only []; omega) (aW U) (aK [0,1]))
 refine dP 3 [] I ?_
 obtain ⟨x,hx⟩:=aM q j om
 have K:=bW iC hx
 refine dS (IA j U (ag (n:=l.length) 1 U sq) cy dc om om) ?_
 refine dS (g_ j 0 (vI x) U ct (ag (n:=q.length) 1 U sm) K U dc U)<|dP 3 [] I ?_
 obtain ⟨y,hy⟩:=aM q (j-1) om
 have AA:=bW iC hy
 refine dS (IA (j-1) U (ag (n:=l.length) 1 U sq) cy dc om om) ?_
 refine dS (g_ (j-1) 0 (vI y) U ct (ag (n:=q.length) 1 U sm) AA U dc U)<|dS (SX (p6 U U U (hf x y ⟨A _ (aT hx),A _ (aT hy)⟩) (a_ [0])) U U)<|dP 2 [] I ?_
 refine cQ<|RK H<|bT U (aR fun W=>?_) (aQ fun W=>?_)
 ·refine bI<|ae<|ae<|aC<|aF<|KK N<|an<|rP 3 [] I ?_
  refine aG ?_
  refine bg (L ⟨((i+1),q),⟨om,D,.inr (by first|exact vu om B|exact vv om B hx hy om),A⟩⟩ _ _ _ U (by simp only []; omega) (aW U) (aK [0,1]))
 refine WK e<|ah fun _ M=>aA<|ek cE [15,16,17] [8,9,12,13,14] [] [0] [0,1] U U U U U<|eS U (MV U)<|eS U (MV U)<|eS U (MV U)<|eS U (MV U)<|eS U (BI U (pA ⟨om,om⟩))<|eS U (MV U)<|eS U (MV U)<|eS U (BI U (pA ⟨om,om⟩)) ?_
 refine fS U (IA (j-1) U (ag (n:=l.length) 1 U sq) cy dc om om) ?_
 refine fS U (g_ (j-1) 0 (vI y) U ct (ag (n:=q.length) 1 U sm) AA U dc U)<|eS U (MV U)<|eS U (MV U) ?_
 refine fS U (IA j U (ag (n:=l.length) 1 U sq) cy dc om om) ?_
 refine fS U (g_ j 0 (vI x) U ct (ag (n:=q.length) 1 U sm) K U dc U) ?_
 refine fS U (IA j U (ag (n:=l.length) 1 U sq) cy dc om om) ?_
 refine ff U<|cf U fun T14 O=>eg (k:=j) (o:=0) (vs:=[(vI y)]) (es':=(List.map iC (q.set j y))) (C':=[_,(own lA lC 3 1 (List.map iC (q.set j y)))]) 1 U U U AZ U U U U K U dc (by exact (List.map_set (f:=iC) (l:=q) (i:=j) (a:=y)).symm) U<|aG (O _ _ (aK [0]) ?_)
 refine cf U fun T15 P=>?_
 obtain ⟨g,T⟩:=aM (q.set j y) (j-1) os
 have hx17m:(List.map iC (q.set j y))[(j-1)]? =some (iC g):=by rw [eX,T]; rfl
 refine rS (IA (j-1) U (ag (n:=l.length) 1 U sq) cy dc om om) ?_
 refine aG (P _ _ (aK [0]) ?_)
 refine cf U fun T18 R=>eg (k:=(j-1)) (o:=0) (vs:=[(vI x)]) (es':=(List.map iC ((q.set j y).set (j-1) x))) (C':=[_,(own lA lC 3 1 (List.map iC ((q.set j y).set (j-1) x)))]) 1 U U U AZ U U U U hx17m U dc (by exact (List.map_set (f:=iC) (l:=(q.set j y)) (i:=(j-1)) (a:=x)).symm) U<|aG (R _ _ (aK [0]) ?_)
 refine fV U<|aF<|KK M<|an<|rP 3 [] I ?_
 refine aG ?_
 have S:(vI (((j-1):Nat):Int))=(vI ((j:Int)-1)):=by exact cI om
 refine bg (Y ⟨((j-1),((q.set j y).set (j-1) x)),⟨om,by simp; exact D,GC hx hy A,CS om B hx hy om⟩⟩ _ _ _ U (by simp only []; omega) (dx 5<|bG U S<|ee.nil _) (aK [0,1]))
theorem Hq (l:List Int) (lA:OA) (lC:Nat) (f:Value) (key:Int→Int) (X:aq) (hf: ∀ x0 x1,x0∈l∧x1∈l→Ai Tryz.prog f [.int .i64 x0,.int .i64 x1] [X] (.int .i64 (key x0-key x1))) (hkb: ∀ x∈l,0≤key x∧key x≤30000000) (hlen:l.length≤12):
 Dh Tryz.prog 116 [(vS lA l.length lC),(vI (l.length:Int)),f] [X] (own lA lC 3 1 (l.map iC)) (fun (x:Unit)=>(vT [])) (fun (x:Unit)=>True) (fun (x:Unit)=>(own lA lC 3 1 ((dK key l).map iC))):=by
 refine mg kr Tryz.func116 U U fun N Q hQ hN=>?_
 try dsimp only
 refine WS fun _ C=>bh 1 U<|RK C<|WS fun _ D=>bh 3 U<|RK D<|ah fun _ E=>aA<|iG 1<|dy fun R4 M=>ah fun _ L=>WS fun _ F=>rP 3 [] I ?_
 refine RK F<|cM U (aQ fun K=>?_) (aR fun K=>?_)
 ·exfalso; omega
 refine bI<|ae<|ae<|aC<|KK E<|WS fun _ G=>rP 4 [] I ?_
 refine iy 0 U U U U (zy l lA lC f key X (by exact hf) hkb sd) U (fz 1 U U (eH (bU _)) jN) U (fun O J=>?_)
 try dsimp only
 refine RK G<|aA<|iG 1<|dy fun R11 AA=>ah fun _ H=>WS fun _ A=>rP 3 [] I ?_
 refine RK A<|cM U (aQ fun B=>?_) (aR fun B=>?_)
 ·exfalso; omega
 refine bI<|ae<|ae<|aC<|LM hN () 0 [] I U U U U ?_
 trivial
theorem wI (l:List Int) (lA:OA) (lC:Nat) (f:Value) (key:Int→Int) (X:aq) (hf: ∀ x0 x1,x0∈l∧x1∈l→Ai Tryz.prog f [.int .i64 x0,.int .i64 x1] [X] (.int .i64 (key x0-key x1))) (hkb: ∀ x∈l,0≤key x∧key x≤30000000) (hlen:l.length≤12):
 Dh Tryz.prog 79 [(vS lA l.length lC),f] [X] (own lA lC 3 1 (l.map iC)) (fun (x:Unit)=>(vT [])) (fun (x:Unit)=>True) (fun (x:Unit)=>(own lA lC 3 1 ((dK key l).map iC))):=by
 refine mg kr Tryz.func79 U U fun B Q hQ hN=>?_
 try dsimp only
 refine an<|rP 4 [] I ?_
 refine iy 0 U U U U (Hq l lA lC f key X (by exact hf) hkb hlen) U (fz 1 U U (eH (bU _)) jN) U (fun C A=>?_)
 try dsimp only
 refine aG<|LM hN () 0 [] I U U U U ?_
 trivial
theorem vC (l:List Int) (lA:OA) (lC:Nat) (f:Value) (key:Int→Int) (X:aq) (hf: ∀ x0 x1,x0∈l∧x1∈l→Ai Tryz.prog f [.int .i64 x0,.int .i64 x1] [X] (.int .i64 (key x0-key x1))) (hkb: ∀ x∈l,0≤key x∧key x≤30000000) (hlen:l.length≤12):
 lq Tryz.prog 42 [(vS lA l.length lC),f] [(rd lA l.length 1 (l.map iC)),X] (fun (x:(OA)×Nat)=>(vS x.1 ((dK key l).length) x.2)) (fun (x:(OA)×Nat)=>True) (fun (x:(OA)×Nat)=>[(own x.1 x.2 3 1 ((dK key l).map iC))]):=by
 refine de kr Tryz.func42 U U fun J Q hQ hN=>?_
 try dsimp only
 refine WS fun _ B=>bh 1 U<|RK B<|WS fun _ C=>rP 1 [] I ?_
 refine cX (sV l lA lC sd) (a_ [0]) U fun AA G=>?_
 obtain ⟨E,F⟩:=AA
 try dsimp only
 refine bh 1 U<|RK C<|WS fun _ D=>rP 2 [] I ?_
 refine iy 0 U U U U (wI l E F f key X (by exact hf) hkb hlen) U (fz 2 U U (eH (bU _)) jN) U (fun K H=>?_)
 try dsimp only
 refine RK D<|WS fun _ A=>rP 2 [] I ?_
 refine RK A<|ao ?_
 refine LX hQ (E,F) [0] [] I U U U ?_ ?_
 ·first|rfl|(rw [jF]; rfl)
 ·trivial
theorem Ea (l:List Int) (lA:OA) (lC k:Nat) (hk:k≤l.length) (hlen:l.length≤1000000):
 Dh Tryz.prog 44 [(vS lA k lC)] [] (own lA lC 3 1 (l.map iC)) (fun (x:Unit)=>(vT [])) (fun (x:Unit)=>True) (fun (x:Unit)=>(own lA lC 3 1 ((pz k l).map iC))):=by
 refine mg kr Tryz.func44 U U fun V Q hQ hN=>?_
 try dsimp only
 refine WS fun _ J=>rP 5 [] I ?_
 refine RK J<|aA ?_
 have B:(0≤k)∧(De l k 0 l):=by exact ⟨Nat.zero_le _,HR⟩
 have P:(vI ((k:Int)-1-(0:Int)))=(vI ((k:Int)-1)):=by exact cI om
 refine bR (ι:={z:Nat×(List Int) // (z.1≤k)∧(De l k z.1 z.2)}) [0] [] U U (fun z=>[(2,(vI (z.1.1:Int))),(3,(vI ((k:Int)-1-(z.1.1:Int))))]) (fun z=>[(own lA lC 3 1 (z.1.2.map iC))]) (fun _=>rfl) (fun _=>rfl) (fun z=>k-z.1.1) ⟨(0,l),B⟩ (ee.cons U<|bG U P<|ee.nil _) (aK [0]) ?_
 clear B
 rintro ⟨⟨i,m⟩,⟨C,A⟩⟩ J3 AB
 try dsimp only at C A
 try dsimp only
 have AA:=A.1
 refine ah fun _ K=>WS fun _ L=>rP 3 [] I ?_
 refine RK L<|bT U (aR fun T=>?_) (aQ fun T=>?_)
 ·refine bI<|ae<|ae<|aC ?_
  rw [show m=pz k l from Ju hk om A]
  refine LM hN () 0 [] I U U U U ?_
  trivial
 refine WK K<|ah fun _ M=>aA<|ek cE [13,14,15] [6,7,10,11,12] [] [] [0] U U U U U<|eS U (MV U)<|eS U (MV U)<|eS U (MV U)<|eS U (MV U)<|eS U (MV U)<|eS U (MV U) ?_
 obtain ⟨y,hy⟩:=aM m ((((k:Int)-1-(i:Int))).toNat) om
 have R:=bW iC hy
 refine fS U (Mr ((((k:Int)-1-(i:Int))).toNat) U (ag (n:=m.length) 0 U sm) cy dc om om om)<|fS U (g_ ((((k:Int)-1-(i:Int))).toNat) 0 (vI y) U ct (ag (n:=m.length) 0 U sm) R U dc U)<|eS U (MV U)<|eS U (MV U) ?_
 obtain ⟨x,hx⟩:=aM m i om
 have H:=bW iC hx
 refine fS U (Mr i U (ag (n:=m.length) 0 U sm) cy dc om om om)<|fS U (g_ i 0 (vI x) U ct (ag (n:=m.length) 0 U sm) H U dc U)<|fS U (Mr i U (ag (n:=m.length) 0 U sm) cy dc om om om)<|ff U<|cf U fun T8 N=>eg (k:=i) (o:=0) (vs:=[(vI y)]) (es':=(List.map iC (m.set i y))) (C':=[(own lA lC 3 1 (List.map iC (m.set i y)))]) 0 U U U AZ U U U U H U dc (by exact (List.map_set (f:=iC) (l:=m) (i:=i) (a:=y)).symm) U<|aG (N _ _ (aK []) ?_)
 refine cf U fun T9 O=>?_
 obtain ⟨S,G⟩:=aM (m.set i y) ((((k:Int)-1-(i:Int))).toNat) os
 have hx11m:(List.map iC (m.set i y))[(((k:Int)-1-(i:Int))).toNat]? =some (iC S):=by rw [eX,G]; rfl
 refine rS (Mr ((((k:Int)-1-(i:Int))).toNat) U (ag (n:=(m.set i y).length) 0 U sm) cy dc om om (by simp; omega)) ?_
 refine aG (O _ _ (aK []) ?_)
 refine cf U fun T12 D=>eg (k:=(((k:Int)-1-(i:Int))).toNat) (o:=0) (vs:=[(vI x)]) (es':=(List.map iC ((m.set i y).set ((((k:Int)-1-(i:Int))).toNat) x))) (C':=[(own lA lC 3 1 (List.map iC ((m.set i y).set ((((k:Int)-1-(i:Int))).toNat) x)))]) 0 U U U AZ U U U U hx11m U dc (by exact (List.map_set (f:=iC) (l:=(m.set i y)) (i:=(((k:Int)-1-(i:Int))).toNat) (a:=x)).symm) U<|aG (D _ _ (aK []) ?_)
 refine fV U<|aF<|KK M<|an<|rP 6 [] I ?_
 refine aG ?_
 have E:(vI (((i+1):Nat):Int))=(vI ((i:Int)+1)):=by exact cI om
 have F:(vI ((k:Int)-1-(((i+1):Nat):Int)))=(vI (((k:Int)-1-(i:Int))-1)):=by exact cI om
 refine bg (AB ⟨((i+1),((m.set i y).set ((((k:Int)-1-(i:Int))).toNat) x)),⟨om,EH hk om om A hx hy⟩⟩ _ _ _ U os (ee.cons U<|bG U E<|bG U F<|ee.nil _) (aK [0]))
end
section
open Go.RowKit
theorem Gd (a b:Int) (r:bX) (kA:OA) (kC:Nat) (cA:OA) (cC:Nat) (bA:OA) (bC:Nat) (slA:OA) (slC:Nat) (drA:OA) (drC:Nat) (heA:OA) (heC:Nat) (tA:OA) (tN tC:Nat) (gs gw:Nat) (m:gG) (g1:Nat) (hb: ∀ p∈m,0≤p.2.Lo∧p.2.Lo≤p.2.Hi∧p.2.Hi≤30000000):
 dR Tryz.prog 53 [(vI a),(vI b),(vP g1)] [(bQ gw 112 (eW.cells (eW.mk (oi r kA kC cA cC bA bC slA slC drA drC heA heC) (bk.mk tA tN tC) (Value.map (some gs))))),(gQ iV gs (bK dm m)),(bQ g1 94 [(vP gw)])] (vI ((au m a).Lo-(au m b).Lo)):=by
 have A:=fZ (i:=a) hb
 have B:=fZ (i:=b) hb
 refine bE kr Tryz.func53 U U fun E Q hQ hN=>?_
 try dsimp only
 refine WS fun _ C=>bh 1 U<|RK C<|ah fun _ D=>dF cE 16 kr<|mQ 1 [] (mr 2 U I) U<|dS (SX (bx U U) U U)<|mQ 3 [] (mr 0 U I) U<|dS (SX (jW (kV:=iV) (x:=a) (l:=m) (f:=dm) (z:=(aa.mk 0 0)) U U U lP (dJ og) uh (by exact j4 1 U)) U U)<|dS (SX (lR (v:=(vI (((List.lookup a m).getD (aa.mk 0 0)).Lo))) U U fB z7 U) U U)<|mQ 1 [] (mr 2 U I) U<|dS (SX (bx U U) U U)<|dP 3 [] (mr 0 U I) ?_
 refine dS (SX (jW (kV:=iV) (x:=b) (l:=m) (f:=dm) (z:=(aa.mk 0 0)) U U U lP (dJ og) uh (by exact j4 1 U)) U U)<|dS (SX (lR (v:=(vI (((List.lookup b m).getD (aa.mk 0 0)).Lo))) U U fB z7 U) U U) ?_
 unfold au at A B
 simp only [dC] at A B
 refine dP 2 [] I ?_
 refine cQ<|RK D<|ao ?_
 exact Q1 hQ U U U U
theorem Cs (r:bX) (kA:OA) (kC:Nat) (az:List RA) (cA:OA) (cC:Nat) (bA:OA) (bC:Nat) (slA:OA) (slC:Nat) (drA:OA) (drC:Nat) (ha:List cL) (heA:OA) (heC:Nat) (hin:eF r az ha):
 lq Tryz.prog 17 [(vA (cw.cells (oi r kA kC cA cC bA bC slA slC drA drC heA heC)))] [(rd eB 3 2 dE),(rd kA r.ar.aN.length 9 (r.ar.aN.map ai.cells)),(rd cA r.ar.ak.length 2 (List.zipWith av.cells r.ar.ak az)),(eY (aX av.ja r.ar.ak az)),(rd bA r.ar.ab.length 4 (r.ar.ab.map bM.cells)),(rd slA r.aU.length 1 (r.aU.map iC)),(rd drA r.bV.length 1 (r.bV.map iC)),(rd heA r.aB.length 1 (List.zipWith cR r.aB ha)),(eY (aX jk r.aB ha))] (fun (x:(List RA)×(OA)×Nat)=>(vT [(vS x.2.1 ((dh r).length) x.2.2),(vI (cG r))])) (fun (x:(List RA)×(OA)×Nat)=>x.1.length=(dh r).length) (fun (x:(List RA)×(OA)×Nat)=>[(own x.2.1 x.2.2 29 1 (List.zipWith lW (dh r) x.1)),(bB (aX qa (dh r) x.1))]):=by
 have G6:=hin.line
 have LY:=hin.iZ
 have Li:=hin.has
 have J4:=hin.je
 have In:=hin.draw
 have J5:=dT (r:=r)
 refine de kr Tryz.func17 U U fun w0 Q hQ hN=>?_
 try dsimp only
 refine WS fun _ F2=>fY U fun b2=>bh 2 U<|RK F2<|WS fun _ A0=>rP 1 [] (mc 0 U I) ?_
 refine cX (lO r kA kC az cA cC bA bC slA slC drA drC ha heA heC hin) (a_ [1,2,3,4,5,6,7,8,9]) U fun y4 EQ=>?_
 obtain ⟨EY,LE,X,O,Ec,W,J9⟩:=y4
 cases EY
 ·obtain ⟨Di,he⟩:=EQ.2 rfl
  try dsimp only at Di he
  subst Di
  try dsimp only [cond_true,cond_false,List.cons_append,List.nil_append]
  refine bh 3 U<|AL U Oe fun Kf=>CW U M8 U U<|bh 1 U<|RK A0<|ah fun _ If=>WS fun _ p=>rP 2 [] I ?_
  refine RK p<|bT U (bp fun g=>?_) (bq fun g=>?_)
  ·exact absurd g he
  refine WS fun _ s=>rP 1 [] I ?_
  have E:dh r=[]:=yC he
  have Z:([]:List RA).length=(dh r).length:=by rw [E]; rfl
  refine dY 29 1<|G5 ?_
  rw [show (own none 0 29 1 ([]:List (List Value)))=own none 0 29 1 (List.zipWith lW (dh r) []) from by rw [E]; rfl,show bB []=bB (aX qa (dh r) []) from by rw [E]; rfl]
  refine rP 2 [] I ?_
  refine RK s<|ao ?_
  refine LX hQ ([],none,0) [1,0] [] I U (by show List.all _ _=true; simp only [eo,List.all_nil,G8,Bool.and_true]; rfl) U ?_ ?_
  ·first|rfl|(rw [E]; rfl)|(rw [he,← E,List.length_map]; rfl)|(rw [he,E]; rfl)
  ·exact Z
 obtain ⟨he,Lm⟩:=EQ.1 rfl
 try dsimp only [cond_true,cond_false,List.cons_append,List.nil_append]
 have AB:=m0 he
 have J3:=nz he
 refine bh 3 U<|AL U Oe fun R=>CW U M8 U U<|bh 1 U<|RK A0<|ah fun _ t=>WS fun _ v=>bh 1 U<|rS (SX (bP (r:= .bool false) U U U l9) U U)<|RK v<|aS U<|WK t<|WS fun _ w=>bh 1 U<|RK w<|WS fun _ y=>bh 1 U<|RK y<|ah fun _ AC=>WS fun _ AO=>fr 1 [] (mc 0 U I) U<|rS (SX (bx U U) U U)<|rP 2 [] (mc 1 U I) ?_
 refine cX (B8 O) (aD) U fun FS J6=>?_
 try dsimp only
 refine cX (vG (ay r) O FS sd) (a_ [5,0]) U fun IR J7=>?_
 obtain ⟨Ey,Fa⟩:=IR
 try dsimp only
 rw [show (ay r).length=(cV ((ay r).map (·.1))).length from by rw [fO,List.length_map]]
 refine rS (FU U) ?_
 refine cX (vC (cV ((ay r).map (·.1))) Ey Fa (Value.func (.func 53) [].toArray [(vP R)].toArray) (fun u=>(au (ay r) u).Lo) (eY [(bQ X 112 (eW.cells (eW.mk (oi r kA kC cA cC bA bC slA slC drA drC heA heC) (bk.mk Ec ((cU r).length) W) (Value.map (some O))))),(gQ iV O (bK dm (ay r))),(bQ R 94 [(vP X)])]) (by intro IF IO _; exact l_ (fi:=[]) (ca:=[(vP R)]) (kN (Gd IF IO r kA kC cA cC bA bC slA slC drA drC heA heC Ec ((cU r).length) W O X (ay r) R (by first|assumption|omega)) (Jf 0 1 2 U U U U U U))) (by exact Nw AB) (by rw [fO,List.length_map]; omega)) (al (ag (n:=(cV ((ay r).map (·.1))).length) 0 U sm)<|al (kR (Jf 3 6 2 U U U U U U))<|aD) U fun Id J8=>?_
 obtain ⟨KU,K8⟩:=Id
 try dsimp only
 have Lk:(dK (fun u=>(au (ay r) u).Lo) (cV ((ay r).map (·.1)))).length=(ay r).length:=by rw [jF,fO,List.length_map]
 have D8:Ao (fun u=>(au (ay r) u).Lo) (dK (fun u=>(au (ay r) u).Lo) (cV ((ay r).map (·.1)))):=ru
 refine rP 2 [] I ?_
 refine RK AO<|aA<|gI 29 1<|nJ ?_
 have H:(0≤(dK (fun u=>(au (ay r) u).Lo) (cV ((ay r).map (·.1)))).length)∧(([]:List RA).length=([]:List (List Int)).length)∧(kS (au (ay r)) ((dK (fun u=>(au (ay r) u).Lo) (cV ((ay r).map (·.1)))).take 0) ([]:List (List Int)) (-1))∧(-1≤(-1)∧(-1)≤30000000):=by exact ⟨Nat.zero_le _,rfl,Cn,om⟩
 refine bR (ι:={z:Nat×(List (List Int))×(List RA)×(OA)×Nat×Int // (z.1≤(dK (fun u=>(au (ay r) u).Lo) (cV ((ay r).map (·.1)))).length)∧(z.2.2.1.length=z.2.1.length)∧(kS (au (ay r)) ((dK (fun u=>(au (ay r) u).Lo) (cV ((ay r).map (·.1)))).take z.1) z.2.1 z.2.2.2.2.2)∧(-1≤z.2.2.2.2.2∧z.2.2.2.2.2≤30000000)}) [1,4,29,30] [2,3,5,6,7,8,9,11,12,13,14,15,16,17,18,19] U U (fun z=>[(6,(vS z.1.2.2.2.1 z.1.2.1.length z.1.2.2.2.2.1)),(7,(vI z.1.2.2.2.2.2)),(31,(vI (z.1.1:Int)))]) (fun z=>[(bB (aX qa z.1.2.1 z.1.2.2.1)),(own z.1.2.2.2.1 z.1.2.2.2.2.1 29 1 (List.zipWith lW z.1.2.1 z.1.2.2.1))]) (fun _=>rfl) (fun _=>rfl) (fun z=>(dK (fun u=>(au (ay r) u).Lo) (cV ((ay r).map (·.1)))).length-z.1.1) ⟨(0,([]:List (List Int)),([]:List RA),none,0,(-1)),H⟩ (aW U) (aK [2,3,5,6,7,8,9,11,12,13,14,15,16,17,18,19,0,1]) ?_
 clear H
 rintro ⟨⟨i,G,gz,a,c,last⟩,⟨b,C,A,d⟩⟩ J37 T
 try dsimp only at b C A d
 try dsimp only
 have GT:G.length≤12:=by have:=BJ A; omega
 have LH:(G++[([]:List Int)]).length=G.length+1:=by simp
 have J2:(gz++[((none,0):RA)]).length=gz.length+1:=by simp
 refine WS fun _ A1=>rP 1 [] I ?_
 refine RK A1<|ah fun _ A2=>bT U (aR fun Fd=>?_) (aQ fun Fd=>?_)
 ·refine bI<|ae<|ae<|aC<|KK AC<|ah fun _ B3=>ah fun _ B7=>?_
  have GT:G.length≤12:=by have:=BJ A; omega
  refine an<|rP 3 [] I ?_
  refine RK B7<|aA ?_
  have H:(0≤G.length):=by exact Nat.zero_le _
  refine bR (ι:={z:Nat // (z≤G.length)}) [1,6,66,67] [0,1,3,4,5,6,7,8,9,10,11,12,13,14,15,17] U U (fun z=>[(68,(vI (z.1:Int)))]) (fun z=>[(bB (aX qa (mq G z.1) gz))]) (fun _=>rfl) (fun _=>rfl) (fun z=>G.length-z.1) ⟨0,H⟩ (aW U) (aK [0,1,3,4,5,6,7,8,9,10,11,12,13,14,15,17,16]) ?_
  clear H
  rintro ⟨j,Eq⟩ J65 h
  try dsimp only
  refine WS fun _ B9=>rP 1 [] I ?_
  refine RK B9<|ah fun _ Ci=>bT U (aR fun Fn=>?_) (aQ fun Fn=>?_)
  ·refine bI<|ae<|ae<|aC<|KK B3<|ah fun _ Cu=>?_
   have Gy:G.length≤j:=by omega
   have Y:=r9 A.ok
   rw [List.take_of_length_le om] at Y
   have E:G.map cV=dh r:=qG he (oF Y.1 (oM.trans fJ)) Y.2
   have Z:gz.length=(dh r).length:=by rw [← E,List.length_map]; omega
   rw [AE Gy,E,← GO,E]
   refine an<|bh 1 U<|rP 2 [] I ?_
   refine RK Cu<|ao ?_
   refine LX hQ (gz,a,c) [15,16] [] I U (by show List.all _ _=true; simp only [eo,List.all_nil,G8,Bool.and_true]; rfl) U ?_ ?_
   ·first|rfl|(rw [E]; rfl)|(rw [he,← E,List.length_map]; rfl)|(rw [he,E]; rfl)
   ·exact Z
  refine WK Ci<|ah fun _ Ck=>aA<|ah fun _ Cp=>?_
  obtain ⟨cg,B⟩:=aM G j om
  obtain ⟨cga,D⟩:=aM gz j om
  have F:(List.zipWith lW G gz)[j]? =some (lW cg cga):=eu B D
  refine Aj (f:=qa) 16 (C6 B) D U U U ?_
  try dsimp only
  refine an<|rS (IA j U (ag (n:=G.length) 17 U (j_ C)) nW dc om om)<|rS (g_ j 0 (vS cga.1 cg.length cga.2) U ct (ag (n:=G.length) 17 U (j_ C)) F U dc U)<|bh 1 U<|RK Cp<|an<|rP 1 [] I ?_
  refine iy 0 U U U U (wJ cg cga.1 cga.2 (by have:=xw A (aT B); omega)) U jN U (fun msrt Do=>?_)
  try dsimp only
  refine aG<|aF<|KK Ck<|an<|rP 2 [] I ?_
  refine aG ?_
  obtain rfl:=ou Do.1 Do.2
  refine HX (f:=qa) (ms:=mq G j) (m:=cV cg) 1 0 (by rw [zO]; omega) D U U U ?_
  rw [AN B]
  have DU:(vI (((j+1):Nat):Int))=(vI ((j:Int)+1)):=by exact cI om
  refine bg (h ⟨(j+1),(by first|omega|(simp only []; omega))⟩ _ _ _ U os (dx 4<|bG U DU<|ee.nil _) (aK [1,2,3,4,5,6,7,8,9,10,11,12,13,14,15,16,0]))
 refine WK A2<|ah fun _ AA=>aA<|WS fun _ A3=>?_
 obtain ⟨x,hx⟩:=aM (dK (fun u=>(au (ay r) u).Lo) (cV ((ay r).map (·.1)))) i om
 have H1:=bW iC hx
 refine rS (IA i U (ag (n:=(dK (fun u=>(au (ay r) u).Lo) (cV ((ay r).map (·.1)))).length) 0 U sm) cy dc om om)<|rS (g_ i 0 (vI x) U ct (ag (n:=(dK (fun u=>(au (ay r) u).Lo) (cV ((ay r).map (·.1)))).length) 0 U sm) H1 U dc U)<|bh 1 U<|RK A3<|WS fun _ A4=>fr 1 [] (mc 2 U I) U<|rS (SX (bx U U) U U)<|rP 2 [] (mc 3 U I) ?_
 have HA:=fZ (i:=x) AB
 refine rP 1 [] I ?_
 refine rS (SX (jW (kV:=iV) (x:=x) (l:=(ay r)) (f:=dm) (z:=(aa.mk 0 0)) U U U lP (dJ og) uh (by exact aJ 6 U)) U U)<|AL U dk fun Kx=>fG U cx U<|RK A4<|ah fun _ V=>WS fun _ A5=>?_
 rw [show ((List.lookup x (ay r)).getD (aa.mk 0 0))=(au (ay r) x) from rfl]
 refine rP 4 [] (mc 0 U I) ?_
 refine RK A5<|bT U (aR fun N=>?_) (aQ fun N=>?_)
 ·refine WK V<|ah fun _ A8=>?_
  have LT:1≤G.length:=B6 HA.1 A N
  refine an<|rP 4 [] I ?_
  refine RK A8<|ah fun _ A9=>?_
  have Go:(G.length-1)<G.length:=by first|omega|(simp; done)
  obtain ⟨cg,B⟩:=aM G (G.length-1) om
  obtain ⟨cga,D⟩:=aM gz (G.length-1) om
  have F:(List.zipWith lW G gz)[(G.length-1)]? =some (lW cg cga):=eu B D
  refine Aj (f:=qa) 17 B D U U U ?_
  try dsimp only
  refine an<|bh 4 U<|rS (IA (G.length-1) U (ag (n:=G.length) 19 U (j_ C)) nW dc om om)<|rS (g_ (G.length-1) 0 (vS cga.1 cg.length cga.2) U ct (ag (n:=G.length) 19 U (j_ C)) F U dc U)<|rP 1 [] I ?_
  have GE:cg.length≤12:=(dM.1 (show cg∈G++[[]] from by first|exact aT B|exact List.mem_append_left _ (aT B))).elim (fun q=>by have:=xw A q; omega) (fun q=>by simp at q; subst q; simp)
  refine cH (xs:=[.tmp 57]) (cs:=[(vI x)]) U cy hE U U U U (by simp [Value.cells]) U U fun K5=>?_
  refine ei (es2:=(List.map iC (cg++[x]))) (m':=(cg++[x]).length) 1 U U U rF U U sm (aV (es:=List.map iC [x]) 0 U U (by simp [bu]) U) (ly _) os (by first|(simp only [maxLen]; omega)|(simp [maxLen]; omega)) sm sm U fun K M=>?_
  try dsimp only
  refine rS (IA (G.length-1) U (ag (n:=G.length) 20 U (j_ C)) nW dc om om)<|eg (k:=(G.length-1)) (o:=0) (vs:=[(vS K ((cg++[x]).length) M)]) (es':=(List.zipWith lW (G.set (G.length-1) (cg++[x])) (gz.set (G.length-1) (K,M)))) (C':=[_,_,_,_,_,_,_,_,_,_,_,_,_,_,_,_,_,_,_,_,(own a c 29 1 (List.zipWith lW (G.set (G.length-1) (cg++[x])) (gz.set (G.length-1) (K,M))))]) 20 U U U wm U U U U F U dc (by exact o0 (c:=lW) (m:=(cg++[x])) (a:=(K,M))) U<|BC (f:=qa) (ms:=G) (asl:=gz) (m:=(cg++[x])) (a:=(K,M)) 2 1 om om U U U<|RK A9<|an<|fr 3 [] (mc 2 U I) U<|rS (MX U)<|bh 1 U<|aG<|aF<|KK AA<|an<|rP 2 [] I ?_
  refine aG ?_
  have C1:(vS a ((G.set (G.length-1) (cg++[x])).length) c)=(vS a G.length c):=by rw [List.length_set]
  have C2:(vI (((i+1):Nat):Int))=(vI ((i:Int)+1)):=by exact cI om
  refine bg (T ⟨((i+1),(G.set (G.length-1) (cg++[x])),(gz.set (G.length-1) (K,M)),a,c,(max last ((au (ay r) x).Hi))),⟨om,by simp; omega,by first|exact nN om hx B A N|exact m7 om (fun u _=>(fZ (i:=u) AB).2.1) D8 hx B A N,dso⟩⟩ _ _ _ U os (dx 4<|bG U C1<|ee.cons U<|bG U C2<|ee.nil _) (aK [3,4,5,6,7,8,9,10,11,12,13,14,15,16,17,18,0,19]))
 refine an<|rP 1 [] I ?_
 refine cH (xs:=[.const (vS none 0 0)]) (cs:=[(vS none 0 0)]) U nW sv U U U U (by simp [Value.cells]) U U fun K0=>?_
 refine ei (es2:=(List.zipWith lW (G++[[]]) (gz++[(none,0)]))) (m':=(G++[[]]).length) 19 rfl rfl rfl PE rfl rfl (j_ C).symm (aV (es:=List.zipWith lW [[]] [(none,0)]) 0 rfl rfl (by intro e he; simp [lW] at he; subst he; rfl) rfl) (H2 _ _) om (by simp only [maxLen]; omega) (DN om) (by simp; omega) rfl fun P S=>?_
 try dsimp only
 refine dY 3 1<|K_ (Y':=aX qa (G++[[]]) (gz++[(none,0)])) 19 0 U U (AF om U)<|bh 1 U<|RK V<|WS fun _ A6=>rP 4 [] I ?_
 refine RK A6<|ah fun _ A7=>?_
 have Go:((G++[[]]).length-1)<(G++[[]]).length:=by first|omega|(simp; done)
 obtain ⟨cg,B⟩: ∃ y_,(G++[[]])[((G++[[]]).length-1)]? =some y_:=⟨(G++[[]])[((G++[[]]).length-1)]'om,fT _⟩
 obtain ⟨cga,D⟩: ∃ y_,(gz++[(none,0)])[((G++[[]]).length-1)]? =some y_:=⟨(gz++[(none,0)])[((G++[[]]).length-1)]'om,fT _⟩
 have F:(List.zipWith lW (G++[[]]) (gz++[(none,0)]))[((G++[[]]).length-1)]? =some (lW cg cga):=eu B D
 refine Aj (f:=qa) 0 B D U U U ?_
 try dsimp only
 refine an<|rP 4 [] I ?_
 refine rS (IA ((G++[[]]).length-1) U (ag (n:=(G++[[]]).length) 20 U (j_ (by simp; omega))) nW dc om om) ?_
 refine rS (g_ ((G++[[]]).length-1) 0 (vS cga.1 cg.length cga.2) U ct (ag (n:=(G++[[]]).length) 20 U (j_ (by simp; omega))) F U dc U) ?_
 refine rP 1 [] I ?_
 have GE:cg.length≤12:=(dM.1 (show cg∈G++[[]] from by first|exact aT B|exact List.mem_append_left _ (aT B))).elim (fun q=>by have:=xw A q; omega) (fun q=>by simp at q; subst q; simp)
 refine cH (xs:=[.tmp 57]) (cs:=[(vI x)]) U cy hE U U U U (by simp [Value.cells]) U U fun K4=>?_
 refine ei (es2:=(List.map iC (cg++[x]))) (m':=(cg++[x]).length) 1 U U U rF U U sm (aV (es:=List.map iC [x]) 0 U U (by simp [bu]) U) (ly _) os (by first|(simp only [maxLen]; omega)|(simp [maxLen]; omega)) sm sm U fun J L=>?_
 try dsimp only
 refine rS (IA ((G++[[]]).length-1) U (ag (n:=(G++[[]]).length) 21 U (j_ (by simp; omega))) nW dc om om) ?_
 refine eg (k:=((G++[[]]).length-1)) (o:=0) (vs:=[(vS J ((cg++[x]).length) L)]) (es':=(List.zipWith lW ((G++[[]]).set ((G++[[]]).length-1) (cg++[x])) ((gz++[(none,0)]).set ((G++[[]]).length-1) (J,L)))) (C':=[_,_,_,_,_,_,_,_,_,_,_,_,_,_,_,_,_,_,_,_,_,(own P S 29 1 (List.zipWith lW ((G++[[]]).set ((G++[[]]).length-1) (cg++[x])) ((gz++[(none,0)]).set ((G++[[]]).length-1) (J,L))))]) 21 U U U wm U U U U F U dc (by exact o0 (c:=lW) (m:=(cg++[x])) (a:=(J,L))) U<|BC (f:=qa) (ms:=(G++[[]])) (asl:=(gz++[(none,0)])) (m:=(cg++[x])) (a:=(J,L)) 2 1 om om U U U<|RK A7<|an<|fr 3 [] (mc 3 U I) U<|rS (MX U)<|bh 1 U<|aG<|aF<|KK AA<|an<|rP 2 [] I ?_
 refine aG ?_
 have Cx:(vS P (((G++[[]]).set ((G++[[]]).length-1) (cg++[x])).length) S)=(vS P ((G++[[]]).length) S):=by rw [List.length_set]
 have C0:(vI (((i+1):Nat):Int))=(vI ((i:Int)+1)):=by exact cI om
 refine bg (T ⟨((i+1),((G++[[]]).set ((G++[[]]).length-1) (cg++[x])),((gz++[(none,0)]).set ((G++[[]]).length-1) (J,L)),P,S,(max last ((au (ay r) x).Hi))),⟨om,by simp; omega,by first|exact nN om hx B A N|exact m7 om (fun u _=>(fZ (i:=u) AB).2.1) D8 hx B A N,dso⟩⟩ _ _ _ U os (dx 4<|bG U Cx<|ee.cons U<|bG U C0<|ee.nil _) (aK [4,5,6,7,8,9,10,11,12,13,14,15,16,17,18,19,0,20]))
end
section
open Go.RowKit
theorem se (G:List (List Int)) (H:List (List Int)) (gz:List RA) (gA:OA) (gC:Nat) (hz:List RA) (hA:OA) (hC:Nat) (h1:G.length≤1000000) (h2:H.length≤1000000) (h3: ∀ l∈G,l.length≤1000000) (h4: ∀ l∈H,l.length≤1000000) (hgz:gz.length=G.length) (hhz:hz.length=H.length):
 dR Tryz.prog 18 [(vS gA G.length gC),(vS hA H.length hC)] [(rd gA G.length 1 (List.zipWith lW G gz)),(eY (aX Mg G gz)),(rd hA H.length 1 (List.zipWith lW H hz)),(eY (aX Mg H hz))] (vB (decide (G=H))):=by
 refine bE kr Tryz.func18 U U fun Z Q hQ hN=>?_
 try dsimp only
 refine WS fun _ N=>bh 1 U<|RK N<|ah fun _ O=>WS fun _ P=>rP 5 [] I ?_
 refine RK P<|cM U (bq fun hl=>?_) (bp fun hl=>?_)
 ·refine WS fun _ R=>rP 1 [] I ?_
  refine RK R<|ao<|Q1 hQ U U U ?_
  first|exact cB (cm (l8 hx hy h)).symm|exact cB (dB (l0 om A om)).symm|exact cB (cm (fun e=>by subst e; omega)).symm
 refine WK O<|ah fun _ S=>WS fun _ T=>rP 1 [] I ?_
 refine RK T<|aA ?_
 have B:(0≤G.length)∧(G.take 0=H.take 0):=by exact ⟨Nat.zero_le _,rfl⟩
 refine bR (ι:={z:Nat // (z≤G.length)∧(G.take z=H.take z)}) [0,1] [0,1,2,3] U U (fun z=>[(5,(vI (z.1:Int)))]) (fun z=>[]) (fun _=>rfl) (fun _=>rfl) (fun z=>G.length-z.1) ⟨0,B⟩ (aW U) (aK [0,1,2,3]) ?_
 clear B
 rintro ⟨i,⟨W,A⟩⟩ J7 M
 try dsimp only
 refine ah fun _ AA=>WS fun _ V=>rP 4 [] I ?_
 refine RK V<|bT U (aR fun L=>?_) (aQ fun L=>?_)
 ·refine bI<|ae<|ae<|aC<|KK S<|WS fun _ F=>rP 1 [] I ?_
  refine RK F<|ao<|Q1 hQ U U U ?_
  first|exact cB (cm (l8 hx hy h)).symm|exact cB (dB (l0 om A om)).symm|exact cB (cm (fun e=>by subst e; omega)).symm
 refine WK AA<|ah fun _ C=>aA<|ah fun _ D=>dF cE 10 kr<|dP 2 [] I ?_
 obtain ⟨x,hx⟩:=aM G i om
 obtain ⟨xa,J⟩:=aM gz i om
 have X:(List.zipWith lW G gz)[i]? =some (lW x xa):=eu hx J
 refine dS (IA i U (aJ 0 U) nW dc om om)<|dS (g_ i 0 (vS xa.1 x.length xa.2) U ct (aJ 0 U) X U dc U)<|dP 2 [] I ?_
 obtain ⟨y,hy⟩:=aM H i om
 obtain ⟨ya,K⟩:=aM hz i om
 have Y:(List.zipWith lW H hz)[i]? =some (lW y ya):=eu hy K
 refine dS (IA i U (aJ 2 U) nW dc om om)<|dS (g_ i 0 (vS ya.1 y.length ya.2) U ct (aJ 2 U) Y U dc U)<|dS (CL (mG x xa.1 xa.2 y ya.1 ya.2 (by exact h3 x (aT hx)) (by exact h4 y (aT hy))) (al (show ju _ (rd xa.1 x.length 1 (x.map iC)).holds from (eN 1 U (cD hx J (by simp [Mg]))))<|al (show ju _ (rd ya.1 y.length 1 (y.map iC)).holds from (eN 3 U (cD hy K (by simp [Mg]))))<|aD) U)<|dP 1 [] I ?_
 refine cQ<|RK D<|cM U (bq fun h=>?_) (bp fun h=>?_)
 ·refine WS fun _ E=>rP 1 [] I ?_
  refine RK E<|ao<|Q1 hQ U U U ?_
  first|exact cB (cm (l8 hx hy h)).symm|exact cB (dB (l0 om A om)).symm|exact cB (cm (fun e=>by subst e; omega)).symm
 refine cr<|aF<|KK C<|an<|rP 3 [] I ?_
 refine aG ?_
 have AB:(vI (((i+1):Nat):Int))=(vI ((i:Int)+1)):=by exact cI om
 refine bg (M ⟨(i+1),⟨om,rr A hx hy h⟩⟩ _ _ _ U os (ee.cons U<|ee.cons U<|bG U AB<|ee.nil _) (aK [0,1,2,3]))
end
section
open Go.RowKit
theorem G2 (l:List ai) (lA:OA) (lC:Nat) (hlen:l.length≤1000000):
 lq Tryz.prog 142 [(vS lA l.length lC)] [(rd lA l.length 9 (l.map ai.cells))] (fun (x:(OA)×Nat)=>(vS x.1 l.length x.2)) (fun (x:(OA)×Nat)=>True) (fun (x:(OA)×Nat)=>[(own x.1 x.2 153 9 (l.map ai.cells))]):=by
 refine de kr Tryz.func142 U U fun L Q hQ hN=>?_
 try dsimp only
 refine WS fun _ D=>bh 1 U<|RK D<|ah fun _ E=>WS fun _ F=>rP 1 [] I ?_
 refine rS (BI U (oy LO))<|RK F<|cM U (aQ fun B=>?_) (aR fun B=>?_)
 ·refine WS fun _ G=>k8 (aJ 0 U) B dc fun C=>?_
  have A:l=[]:=by simpa using C
  refine dY 153 9 ?_
  rw [show (own none 0 153 9 ([]:List (List Value)))=own none 0 153 9 (l.map ai.cells) from by rw [A]; rfl]
  refine rP 1 [] I ?_
  refine RK G<|ao ?_
  refine LX hQ (none,0) [0] [] I U U U ?_ ?_
  ·first|rfl|(rw [A]; rfl)
  ·trivial
 refine WK E<|WS fun _ H=>sk U uU U fun J=>rP 1 [] I ?_
 refine dg (es:=(List.map ai.cells [])) (C':=[own (some ⟨J,0,none⟩) 0 153 9 (List.map ai.cells []),_]) 0 U sm U (by simp [maxLen]) U ?_
 refine ei (es2:=(List.map ai.cells l)) (m':=l.length) 0 U U U Pz U U sm (aJ 1 U) (pV _) os (by first|(simp only [maxLen]; omega)|(simp [maxLen]; omega)) sm sm U fun AA K=>?_
 try dsimp only
 refine rP 1 [] I ?_
 refine RK H<|ao ?_
 refine LX hQ (AA,K) [0] [] I U U U ?_ ?_
 ·first|rfl|(rw [A]; rfl)
 ·trivial
theorem HB (l:List bM) (lA:OA) (lC:Nat) (hlen:l.length≤1000000):
 lq Tryz.prog 144 [(vS lA l.length lC)] [(rd lA l.length 4 (l.map bM.cells))] (fun (x:(OA)×Nat)=>(vS x.1 l.length x.2)) (fun (x:(OA)×Nat)=>True) (fun (x:(OA)×Nat)=>[(own x.1 x.2 160 4 (l.map bM.cells))]):=by
 refine de kr Tryz.func144 U U fun L Q hQ hN=>?_
 try dsimp only
 refine WS fun _ D=>bh 1 U<|RK D<|ah fun _ E=>WS fun _ F=>rP 1 [] I ?_
 refine rS (BI U (oy IQ))<|RK F<|cM U (aQ fun B=>?_) (aR fun B=>?_)
 ·refine WS fun _ G=>k8 (aJ 0 U) B dc fun C=>?_
  have A:l=[]:=by simpa using C
  refine dY 160 4 ?_
  rw [show (own none 0 160 4 ([]:List (List Value)))=own none 0 160 4 (l.map bM.cells) from by rw [A]; rfl]
  refine rP 1 [] I ?_
  refine RK G<|ao ?_
  refine LX hQ (none,0) [0] [] I U U U ?_ ?_
  ·first|rfl|(rw [A]; rfl)
  ·trivial
 refine WK E<|WS fun _ H=>sk U tj U fun J=>rP 1 [] I ?_
 refine dg (es:=(List.map bM.cells [])) (C':=[own (some ⟨J,0,none⟩) 0 160 4 (List.map bM.cells []),_]) 0 U sm U (by simp [maxLen]) U ?_
 refine ei (es2:=(List.map bM.cells l)) (m':=l.length) 0 U U U OV U U sm (aJ 1 U) (sw _) os (by first|(simp only [maxLen]; omega)|(simp [maxLen]; omega)) sm sm U fun AA K=>?_
 try dsimp only
 refine rP 1 [] I ?_
 refine RK H<|ao ?_
 refine LX hQ (AA,K) [0] [] I U U U ?_ ?_
 ·first|rfl|(rw [A]; rfl)
 ·trivial
theorem Hz (l:List cv) (lA:OA) (lC:Nat) (hlen:l.length≤1000000):
 lq Tryz.prog 145 [(vS lA l.length lC)] [(rd lA l.length 3 (l.map cv.cells))] (fun (x:(OA)×Nat)=>(vS x.1 l.length x.2)) (fun (x:(OA)×Nat)=>True) (fun (x:(OA)×Nat)=>[(own x.1 x.2 55 3 (l.map cv.cells))]):=by
 refine de kr Tryz.func145 U U fun L Q hQ hN=>?_
 try dsimp only
 refine WS fun _ D=>bh 1 U<|RK D<|ah fun _ E=>WS fun _ F=>rP 1 [] I ?_
 refine rS (BI U (oy Ms))<|RK F<|cM U (aQ fun B=>?_) (aR fun B=>?_)
 ·refine WS fun _ G=>k8 (aJ 0 U) B dc fun C=>?_
  have A:l=[]:=by simpa using C
  refine dY 55 3 ?_
  rw [show (own none 0 55 3 ([]:List (List Value)))=own none 0 55 3 (l.map cv.cells) from by rw [A]; rfl]
  refine rP 1 [] I ?_
  refine RK G<|ao ?_
  refine LX hQ (none,0) [0] [] I U U U ?_ ?_
  ·first|rfl|(rw [A]; rfl)
  ·trivial
 refine WK E<|WS fun _ H=>sk U uX U fun J=>rP 1 [] I ?_
 refine dg (es:=(List.map cv.cells [])) (C':=[own (some ⟨J,0,none⟩) 0 55 3 (List.map cv.cells []),_]) 0 U sm U (by simp [maxLen]) U ?_
 refine ei (es2:=(List.map cv.cells l)) (m':=l.length) 0 U U U Pg U U sm (aJ 1 U) (ss _) os (by first|(simp only [maxLen]; omega)|(simp [maxLen]; omega)) sm sm U fun AA K=>?_
 try dsimp only
 refine rP 1 [] I ?_
 refine RK H<|ao ?_
 refine LX hQ (AA,K) [0] [] I U U U ?_ ?_
 ·first|rfl|(rw [A]; rfl)
 ·trivial
theorem Ez (l:List aH) (lA:OA) (lC:Nat) (hlen:l.length≤1000000):
 lq Tryz.prog 148 [(vS lA l.length lC)] [(rd lA l.length 2 (l.map aH.cells))] (fun (x:(OA)×Nat)=>(vS x.1 l.length x.2)) (fun (x:(OA)×Nat)=>True) (fun (x:(OA)×Nat)=>[(own x.1 x.2 107 2 (l.map aH.cells))]):=by
 refine de kr Tryz.func148 U U fun L Q hQ hN=>?_
 try dsimp only
 refine WS fun _ D=>bh 1 U<|RK D<|ah fun _ E=>WS fun _ F=>rP 1 [] I ?_
 refine rS (BI U (oy Ob))<|RK F<|cM U (aQ fun B=>?_) (aR fun B=>?_)
 ·refine WS fun _ G=>k8 (aJ 0 U) B dc fun C=>?_
  have A:l=[]:=by simpa using C
  refine dY 107 2 ?_
  rw [show (own none 0 107 2 ([]:List (List Value)))=own none 0 107 2 (l.map aH.cells) from by rw [A]; rfl]
  refine rP 1 [] I ?_
  refine RK G<|ao ?_
  refine LX hQ (none,0) [0] [] I U U U ?_ ?_
  ·first|rfl|(rw [A]; rfl)
  ·trivial
 refine WK E<|WS fun _ H=>sk U Jj U fun J=>rP 1 [] I ?_
 refine dg (es:=(List.map aH.cells [])) (C':=[own (some ⟨J,0,none⟩) 0 107 2 (List.map aH.cells []),_]) 0 U sm U (by simp [maxLen]) U ?_
 refine ei (es2:=(List.map aH.cells l)) (m':=l.length) 0 U U U Pb U U sm (aJ 1 U) (qD _) os (by first|(simp only [maxLen]; omega)|(simp [maxLen]; omega)) sm sm U fun AA K=>?_
 try dsimp only
 refine rP 1 [] I ?_
 refine RK H<|ao ?_
 refine LX hQ (AA,K) [0] [] I U U U ?_ ?_
 ·first|rfl|(rw [A]; rfl)
 ·trivial
theorem F0 (es:List (List Value)) (lA:OA) (n lC:Nat) (hlen:n≤1000000) (hes:es.length=n) (hone: ∀ v∈es.flatten,v.oneCell'=true):
 lq Tryz.prog 143 [(vS lA n lC)] [(rd lA n 2 es)] (fun (x:(OA)×Nat)=>(vS x.1 n x.2)) (fun (x:(OA)×Nat)=>True) (fun (x:(OA)×Nat)=>[(own x.1 x.2 53 2 es)]):=by
 refine de kr Tryz.func143 U U fun L Q hQ hN=>?_
 try dsimp only
 refine WS fun _ D=>bh 1 U<|RK D<|ah fun _ E=>WS fun _ F=>rP 1 [] I ?_
 refine rS (BI U (oy Ni))<|RK F<|cM U (aQ fun B=>?_) (aR fun B=>?_)
 ·refine WS fun _ G=>k8 (aJ 0 U) B dc fun C=>?_
  have A:es=[]:=C
  refine dY 53 2 ?_
  rw [show (own none 0 53 2 ([]:List (List Value)))=own none 0 53 2 es from by rw [A]]
  refine rP 1 [] I ?_
  refine RK G<|ao ?_
  refine LX hQ (none,0) [0] [] I U U U ?_ ?_
  ·first|rfl|(rw [hes]; rfl)|(rw [← hes,A]; rfl)
  ·trivial
 refine WK E<|WS fun _ H=>sk U xU U fun J=>rP 1 [] I ?_
 refine dg (es:=(List.map dn.cells [])) (C':=[own (some ⟨J,0,none⟩) 0 53 2 (List.map dn.cells []),_]) 0 U sm U (by simp [maxLen]) U ?_
 refine ei (es2:=es) (m':=es.length) 0 U U U OZ U U sm (aJ 1 U) hone (by simp; omega) (by simp [maxLen]; omega) sm U U fun AA K=>?_
 try dsimp only
 refine rP 1 [] I ?_
 refine RK H<|ao ?_
 refine LX hQ (AA,K) [0] [] I U U U ?_ ?_
 ·first|rfl|(rw [hes]; rfl)|(rw [← hes,A]; rfl)
 ·trivial
theorem GU (es:List (List Value)) (lA:OA) (n lC:Nat) (hlen:n≤1000000) (hes:es.length=n) (hone: ∀ v∈es.flatten,v.oneCell'=true):
 lq Tryz.prog 147 [(vS lA n lC)] [(rd lA n 7 es)] (fun (x:(OA)×Nat)=>(vS x.1 n x.2)) (fun (x:(OA)×Nat)=>True) (fun (x:(OA)×Nat)=>[(own x.1 x.2 62 7 es)]):=by
 refine de kr Tryz.func147 U U fun L Q hQ hN=>?_
 try dsimp only
 refine WS fun _ D=>bh 1 U<|RK D<|ah fun _ E=>WS fun _ F=>rP 1 [] I ?_
 refine rS (BI U (oy Pj))<|RK F<|cM U (aQ fun B=>?_) (aR fun B=>?_)
 ·refine WS fun _ G=>k8 (aJ 0 U) B dc fun C=>?_
  have A:es=[]:=C
  refine dY 62 7 ?_
  rw [show (own none 0 62 7 ([]:List (List Value)))=own none 0 62 7 es from by rw [A]]
  refine rP 1 [] I ?_
  refine RK G<|ao ?_
  refine LX hQ (none,0) [0] [] I U U U ?_ ?_
  ·first|rfl|(rw [hes]; rfl)|(rw [← hes,A]; rfl)
  ·trivial
 refine WK E<|WS fun _ H=>sk U uS U fun J=>rP 1 [] I ?_
 refine dg (es:=(List.map br.cells [])) (C':=[own (some ⟨J,0,none⟩) 0 62 7 (List.map br.cells []),_]) 0 U sm U (by simp [maxLen]) U ?_
 refine ei (es2:=es) (m':=es.length) 0 U U U PM U U sm (aJ 1 U) hone (by simp; omega) (by simp [maxLen]; omega) sm U U fun AA K=>?_
 try dsimp only
 refine rP 1 [] I ?_
 refine RK H<|ao ?_
 refine LX hQ (AA,K) [0] [] I U U U ?_ ?_
 ·first|rfl|(rw [hes]; rfl)|(rw [← hes,A]; rfl)
 ·trivial
theorem Ha (es:List (List Value)) (lA:OA) (n lC:Nat) (hlen:n≤1000000) (hes:es.length=n) (hone: ∀ v∈es.flatten,v.oneCell'=true):
 lq Tryz.prog 146 [(vS lA n lC)] [(rd lA n 1 es)] (fun (x:(OA)×Nat)=>(vS x.1 n x.2)) (fun (x:(OA)×Nat)=>True) (fun (x:(OA)×Nat)=>[(own x.1 x.2 56 1 es)]):=by
 refine de kr Tryz.func146 U U fun L Q hQ hN=>?_
 try dsimp only
 refine WS fun _ D=>bh 1 U<|RK D<|ah fun _ E=>WS fun _ F=>rP 1 [] I ?_
 refine rS (BI U (oy OC))<|RK F<|cM U (aQ fun B=>?_) (aR fun B=>?_)
 ·refine WS fun _ G=>k8 (aJ 0 U) B dc fun C=>?_
  have A:es=[]:=C
  refine dY 56 1 ?_
  rw [show (own none 0 56 1 ([]:List (List Value)))=own none 0 56 1 es from by rw [A]]
  refine rP 1 [] I ?_
  refine RK G<|ao ?_
  refine LX hQ (none,0) [0] [] I U U U ?_ ?_
  ·first|rfl|(rw [hes]; rfl)|(rw [← hes,A]; rfl)
  ·trivial
 refine WK E<|WS fun _ H=>sk U sH U fun J=>rP 1 [] I ?_
 refine dg (es:=(List.map sC [])) (C':=[own (some ⟨J,0,none⟩) 0 56 1 (List.map sC []),_]) 0 U sm U (by simp [maxLen]) U ?_
 refine ei (es2:=es) (m':=es.length) 0 U U U Po U U sm (aJ 1 U) hone (by simp; omega) (by simp [maxLen]; omega) sm U U fun AA K=>?_
 try dsimp only
 refine rP 1 [] I ?_
 refine RK H<|ao ?_
 refine LX hQ (AA,K) [0] [] I U U U ?_ ?_
 ·first|rfl|(rw [hes]; rfl)|(rw [← hes,A]; rfl)
 ·trivial
end
section
open Go.RowKit
theorem H3 (r:bX) (kA:OA) (kC:Nat) (az:List RA) (cA:OA) (cC:Nat) (bA:OA) (bC:Nat) (slA:OA) (slC:Nat) (drA:OA) (drC:Nat) (ha:List cL) (heA:OA) (heC:Nat) (hin:eF r az ha):
 lq Tryz.prog 108 [(vA (cw.cells (oi r kA kC cA cC bA bC slA slC drA drC heA heC)))] [(rd kA r.ar.aN.length 9 (r.ar.aN.map ai.cells)),(rd cA r.ar.ak.length 2 (List.zipWith av.cells r.ar.ak az)),(eY (aX av.ja r.ar.ak az)),(rd bA r.ar.ab.length 4 (r.ar.ab.map bM.cells)),(rd slA r.aU.length 1 (r.aU.map iC)),(rd drA r.bV.length 1 (r.bV.map iC)),(rd heA r.aB.length 1 (List.zipWith cR r.aB ha)),(eY (aX jk r.aB ha))] (fun (x:(OA)×Nat×(OA)×Nat×(List RA)×(OA)×Nat×(OA)×Nat×(OA)×Nat×(OA)×Nat×(List cL))=>(vA (cw.cells (cw.mk (cu.mk (bD.mk (bk.mk x.1 r.ar.aN.length x.2.1)) r.ar.gN (bk.mk x.2.2.1 r.ar.ak.length x.2.2.2.1) (bk.mk x.2.2.2.2.2.1 r.ar.ab.length x.2.2.2.2.2.2.1) r.ar.bS r.ar.e7 r.ar.dZ) (bk.mk x.2.2.2.2.2.2.2.1 r.aU.length x.2.2.2.2.2.2.2.2.1) (bk.mk x.2.2.2.2.2.2.2.2.2.1 r.bV.length x.2.2.2.2.2.2.2.2.2.2.1) r.iP (bk.mk x.2.2.2.2.2.2.2.2.2.2.2.1 r.aB.length x.2.2.2.2.2.2.2.2.2.2.2.2.1))))) (fun (x:(OA)×Nat×(OA)×Nat×(List RA)×(OA)×Nat×(OA)×Nat×(OA)×Nat×(OA)×Nat×(List cL))=>(x.2.2.2.2.1.length=r.ar.ak.length∧py r.ar.ak x.2.2.2.2.1)∧qE r.aB x.2.2.2.2.2.2.2.2.2.2.2.2.2) (fun (x:(OA)×Nat×(OA)×Nat×(List RA)×(OA)×Nat×(OA)×Nat×(OA)×Nat×(OA)×Nat×(List cL))=>[(own x.1 x.2.1 153 9 (r.ar.aN.map ai.cells)),(own x.2.2.1 x.2.2.2.1 53 2 (List.zipWith av.cells r.ar.ak x.2.2.2.2.1)),(bB (aX av.owns r.ar.ak x.2.2.2.2.1)),(own x.2.2.2.2.2.1 x.2.2.2.2.2.2.1 160 4 (r.ar.ab.map bM.cells)),(own x.2.2.2.2.2.2.2.1 x.2.2.2.2.2.2.2.2.1 3 1 (r.aU.map iC)),(own x.2.2.2.2.2.2.2.2.2.1 x.2.2.2.2.2.2.2.2.2.2.1 3 1 (r.bV.map iC)),(own x.2.2.2.2.2.2.2.2.2.2.2.1 x.2.2.2.2.2.2.2.2.2.2.2.2.1 56 1 (List.zipWith cR r.aB x.2.2.2.2.2.2.2.2.2.2.2.2.2)),(bB (aX im r.aB x.2.2.2.2.2.2.2.2.2.2.2.2.2))]):=by
 have C:=hin.line
 have KU:=hin.iZ
 have M:=hin.has
 have Lm:=hin.je
 have Li:=hin.draw
 have Lo:=dT (r:=r)
 have Or:=C.ux
 have N4:=C.s_
 have Nr:=C.tW
 have J7:=C.o4
 refine de kr Tryz.func108 U U fun w0 Q hQ hN=>?_
 try dsimp only
 refine WS fun _ J3=>fY U fun b2=>AL U xb fun b3=>RK J3<|WS fun _ J4=>rP 2 [] I ?_
 refine RK J4<|ah fun _ J5=>ek cE [8,13,18,22,25,28] [7,11,15] [0,1,2] [0,2,3,4,5,6,7,8,9] [0,1,2,3,4,5,6,7,8,9] U U U U U<|eS U (MV U)<|eS U (MV U)<|eS U (MV U)<|eS U (MV U)<|eS U (SX (bx U U) U U)<|eS U (FA 0 U fB U)<|eS U (FA 0 U fB U)<|fS U (L1 (vS kA r.ar.aN.length kC) 1 U ct U U)<|eS U (MV U)<|eS U (SX (bx U U) U U)<|eS U (FA 2 U fB U)<|fS U (L1 (vS cA r.ar.ak.length cC) 1 U ct U U)<|eS U (MV U)<|eS U (SX (bx U U) U U)<|eS U (FA 3 U fB U)<|fS U (L1 (vS bA r.ar.ab.length bC) 1 U ct U U)<|eS U (SX (bx U U) U U)<|eS U (FA 0 U fB U)<|eS U (FA 0 U fB U)<|eS U (SX (bx U U) U U)<|eS U (FA 2 U fB U)<|eS U (SX (bx U U) U U)<|eS U (FA 3 U fB U)<|ff U<|gZ U fun T6 J6=>?_
 refine cX (G2 r.ar.aN kA kC sd) (a_ [2]) U fun y7 Os=>?_
 obtain ⟨a9,S⟩:=y7
 try dsimp only
 refine aG (J6 _ _ (aK [1,3,4,5,6,7,8,9,10]) (aK [1,2,3,4,5,6,7,8,9,10]) ?_)
 refine gZ U fun T11 Ec=>?_
 refine cX (F0 (List.zipWith av.cells r.ar.ak az) cA r.ar.ak.length cC sd (by exact gD J7) (by exact AM _ _)) (a_ [4]) U fun Kx Ls=>?_
 obtain ⟨J,K⟩:=Kx
 try dsimp only
 refine aG (Ec _ _ (aK [2,4,5,6,7,8,9,10,11]) (aK [2,3,4,5,6,7,8,9,10,11]) ?_)
 refine gZ U fun T16 Eq=>?_
 refine cX (HB r.ar.ab bA bC sd) (a_ [7]) U fun K0 L0=>?_
 obtain ⟨Y,Z⟩:=K0
 try dsimp only
 refine aG (Eq _ _ (aK [3,5,6,7,8,9,10,11,12]) (aK [3,4,5,6,7,8,9,10,11,12]) ?_)
 refine cf U fun T21 Ey=>O3 (cw.cells (cw.mk (cu.mk (bD.mk (bk.mk a9 r.ar.aN.length S)) r.ar.gN (bk.mk cA r.ar.ak.length cC) (bk.mk bA r.ar.ab.length bC) r.ar.bS r.ar.e7 r.ar.dZ) (bk.mk slA r.aU.length slC) (bk.mk drA r.bV.length drC) r.iP (bk.mk heA r.aB.length heC))) U Ps U U<|aG (Ey _ _ (aK [3,5,6,7,8,9,10,11,12]) ?_)
 refine cf U fun T22 FS=>O3 (cw.cells (cw.mk (cu.mk (bD.mk (bk.mk a9 r.ar.aN.length S)) r.ar.gN (bk.mk J r.ar.ak.length K) (bk.mk bA r.ar.ab.length bC) r.ar.bS r.ar.e7 r.ar.dZ) (bk.mk slA r.aU.length slC) (bk.mk drA r.bV.length drC) r.iP (bk.mk heA r.aB.length heC))) U PL U U<|aG (FS _ _ (aK [3,5,6,7,8,9,10,11,12]) ?_)
 refine cf U fun T23 Fa=>O3 (cw.cells (cw.mk (cu.mk (bD.mk (bk.mk a9 r.ar.aN.length S)) r.ar.gN (bk.mk J r.ar.ak.length K) (bk.mk Y r.ar.ab.length Z) r.ar.bS r.ar.e7 r.ar.dZ) (bk.mk slA r.aU.length slC) (bk.mk drA r.bV.length drC) r.iP (bk.mk heA r.aB.length heC))) U PT U U<|aG (Fa _ _ (aK [3,5,6,7,8,9,10,11,12]) ?_)
 refine fV U<|KK J5<|ah fun _ A6=>WS fun _ A7=>bh 1 U<|rS (SX (bx U U) U U)<|rP 4 [] (mc 4 U I) ?_
 refine RK A7<|aA<|nJ ?_
 have E:(0≤r.ar.ak.length)∧(([]:List RA).length=0)∧(py r.ar.ak ([]:List RA)):=by exact ⟨Nat.zero_le _,rfl,fun k m a _ h=>by simp at h⟩
 refine bR (ι:={z:Nat×(List RA) // (z.1≤r.ar.ak.length)∧(z.2.length=z.1)∧(py r.ar.ak z.2)}) [1,2,3,39] [1,3,4,5,6,7,8,9,10,11,12,13] U U (fun z=>[(40,(vI (z.1.1:Int)))]) (fun z=>[(bB (aX av.owns (r.ar.ak.take z.1.1) z.1.2)),(own J K 53 2 (List.zipWith av.cells r.ar.ak (jJ z.1.2 az z.1.1)))]) (fun _=>rfl) (fun _=>rfl) (fun z=>r.ar.ak.length-z.1.1) ⟨(0,([]:List RA)),E⟩ (aW U) (aK [1,3,4,5,6,7,8,9,10,11,12,13,0,2]) ?_
 clear E
 rintro ⟨⟨i,bz⟩,⟨A2,B,V⟩⟩ J26 A3
 try dsimp only at A2 B V
 try dsimp only
 refine WS fun _ A8=>rP 1 [] I ?_
 refine RK A8<|ah fun _ A9=>cM U (aQ fun If=>?_) (aR fun If=>?_)
 ·refine WK A9<|ah fun _ B3=>aA<|WS fun _ B7=>rP 2 [] I ?_
  refine RK B7<|ek cE [13,16] [10,11,12,13,14] [0] [0,1,2,3,4,5,6,7,8,9,10,11,12] [0,1,2,3,4,5,6,7,8,9,10,11,12,13] U U U U U<|eS U (MV U)<|eS U (SX (bx U U) U U)<|eS U (FA 2 U fB U)<|eS U (L1 (vS J r.ar.ak.length K) 3 U ct U U)<|eS U (MV U)<|eS U (MV U)<|eS U (SX (bx U U) U U)<|eS U (FA 2 U fB U)<|eS U (L1 (vS J r.ar.ak.length K) 3 U ct U U)<|eS U (MV U) ?_
  obtain ⟨x,hx⟩:=aM r.ar.ak i om
  obtain ⟨xa,s⟩:=aM az i om
  have Id:(List.zipWith av.cells r.ar.ak (jJ bz az i))[i]? =some (av.cells x xa):=eu hx (wv B s)
  have Op:=(C.Mi _ _ _ hx s).2
  refine fS U (IA i U (ag (n:=r.ar.ak.length) 13 U (gD (by rw [gV B om]; exact C.o4))) xU dc om om) ?_
  refine fS U (pt ((i*2)+1) U (ag (n:=r.ar.ak.length) 13 U (gD (by rw [gV B om]; exact C.o4))) (Nat.mul_pos om dc) fB U) ?_
  refine fS U (g_ i 1 (vS xa.1 x.bj.length xa.2) U ct (ag (n:=r.ar.ak.length) 13 U (gD (by rw [gV B om]; exact C.o4))) Id U dc U) ?_
  refine fS U (IA i U (ag (n:=r.ar.ak.length) 13 U (gD (by rw [gV B om]; exact C.o4))) xU dc om om) ?_
  refine fS U (pt ((i*2)+1) U (ag (n:=r.ar.ak.length) 13 U (gD (by rw [gV B om]; exact C.o4))) (Nat.mul_pos om dc) fB U) ?_
  refine ff U<|gZ U fun T32 Fd=>?_
  refine cX (Hz x.bj xa.1 xa.2 sd) (al (show ju _ (rd xa.1 x.bj.length 3 (x.bj.map cv.cells)).holds from (eN 6 U (cD hx s (by simp [av.ja]))))<|aD) U fun K4 L2=>?_
  obtain ⟨P,T⟩:=K4
  try dsimp only
  refine aG (Fd _ _ (aK [1,2,3,4,5,6,7,8,9,10,11,12,13]) (aK [1,2,3,4,5,6,7,8,9,10,11,12,13,14]) ?_)
  refine cf U fun T37 Fn=>eg (k:=i) (o:=1) (vs:=[(vS P x.bj.length T)]) (es':=(List.zipWith av.cells r.ar.ak (jJ (bz++[(P,T)]) az (i+1)))) (C':=[_,_,_,_,_,_,_,_,_,_,_,_,_,_,(own J K 53 2 (List.zipWith av.cells r.ar.ak (jJ (bz++[(P,T)]) az (i+1))))]) 14 U U U O0 U U U U Id U dc (by exact tO (c:=av.cells) (b:=(P,T)) hx B s) U<|aG (Fn _ _ (aK [1,2,3,4,5,6,7,8,9,10,11,12,13]) ?_)
  refine fV U<|aF<|KK B3<|an<|rP 2 [] I ?_
  refine aG<|LZ 0 U fun t=>?_
  simp only [List.length_map] at t
  refine GY (Y':=aX av.owns (r.ar.ak.take (i+1)) (bz++[(P,T)])) 13 0 U U (pP (f:=av.owns) (b:=(P,T)) hx B) ?_
  have H1:(vI (((i+1):Nat):Int))=(vI ((i:Int)+1)):=by exact cI om
  refine bg (A3 ⟨((i+1),(bz++[(P,T)])),⟨om,by simp; omega,Es V B hx t⟩⟩ _ _ _ U os (dx 4<|bG U H1<|ee.nil _) (aK [1,2,3,4,5,6,7,8,9,10,11,12,0,13]))
 refine bI<|ae<|ae<|aC<|KK A6<|ah fun _ B9=>?_
 have J8:bz.length=r.ar.ak.length:=by omega
 have J9:=V
 rw [show (jJ bz az i)=bz from tP om,show r.ar.ak.take i=r.ar.ak from List.take_of_length_le om]
 refine ek cE [2,5,8,10,12,14] [1,3,5] [0,1,2] [0,1,2,4,5,6,7,8,9,10,11,12,13] [0,1,2,3,4,5,6,7,8,9,10,11,12,13] U U U U U<|eS U (FA 7 U fB U)<|fS U (L1 (vS slA r.aU.length slC) 3 U ct U U)<|eS U (FA 8 U fB U)<|fS U (L1 (vS drA r.bV.length drC) 3 U ct U U)<|eS U (FA 10 U fB U)<|fS U (L1 (vS heA r.aB.length heC) 3 U ct U U)<|eS U (FA 7 U fB U)<|eS U (FA 8 U fB U)<|eS U (FA 10 U fB U)<|ff U<|gZ U fun T40 F2=>?_
 refine cX (sV r.aU slA slC sd) (a_ [8]) U fun K5 MA=>?_
 obtain ⟨g,j⟩:=K5
 try dsimp only
 refine aG (F2 _ _ (aK [1,2,3,5,6,7,8,9,10,11,12,13,14]) (aK [1,2,3,4,5,6,7,8,9,10,11,12,13,14]) ?_)
 refine gZ U fun T45 GE=>?_
 refine cX (sV r.bV drA drC sd) (a_ [10]) U fun K8 M2=>?_
 obtain ⟨w,AO⟩:=K8
 try dsimp only
 refine aG (GE _ _ (aK [2,3,4,6,7,8,9,10,11,12,13,14,15]) (aK [2,3,4,5,6,7,8,9,10,11,12,13,14,15]) ?_)
 refine gZ U fun T50 GT=>?_
 refine cX (Ha (List.zipWith cR r.aB ha) heA r.aB.length heC sd (by exact eG M) (by exact Dy _ _)) (a_ [12]) U fun LE NE=>?_
 obtain ⟨W,X⟩:=LE
 try dsimp only
 refine aG (GT _ _ (aK [3,4,5,7,8,9,10,11,12,13,14,15,16]) (aK [3,4,5,6,7,8,9,10,11,12,13,14,15,16]) ?_)
 refine cf U fun T55 Go=>Pn (cw.cells (cw.mk (cu.mk (bD.mk (bk.mk a9 r.ar.aN.length S)) r.ar.gN (bk.mk J r.ar.ak.length K) (bk.mk Y r.ar.ab.length Z) r.ar.bS r.ar.e7 r.ar.dZ) (bk.mk g r.aU.length j) (bk.mk drA r.bV.length drC) r.iP (bk.mk heA r.aB.length heC))) U wm U U<|aG (Go _ _ (aK [3,4,5,7,8,9,10,11,12,13,14,15,16]) ?_)
 refine cf U fun T56 Gy=>Pn (cw.cells (cw.mk (cu.mk (bD.mk (bk.mk a9 r.ar.aN.length S)) r.ar.gN (bk.mk J r.ar.ak.length K) (bk.mk Y r.ar.ab.length Z) r.ar.bS r.ar.e7 r.ar.dZ) (bk.mk g r.aU.length j) (bk.mk w r.bV.length AO) r.iP (bk.mk heA r.aB.length heC))) U wm U U<|aG (Gy _ _ (aK [3,4,5,7,8,9,10,11,12,13,14,15,16]) ?_)
 refine cf U fun T57 G6=>Pn (cw.cells (cw.mk (cu.mk (bD.mk (bk.mk a9 r.ar.aN.length S)) r.ar.gN (bk.mk J r.ar.ak.length K) (bk.mk Y r.ar.ab.length Z) r.ar.bS r.ar.e7 r.ar.dZ) (bk.mk g r.aU.length j) (bk.mk w r.bV.length AO) r.iP (bk.mk W r.aB.length X))) U OG U U<|aG (G6 _ _ (aK [3,4,5,7,8,9,10,11,12,13,14,15,16]) ?_)
 refine fV U<|KK B9<|ah fun _ Ci=>WS fun _ Ck=>rP 4 [] (mc 6 U I) ?_
 refine RK Ck<|aA<|nJ ?_
 have E:(0≤r.aB.length)∧(([]:List cL).length=0)∧(∀ (k:Nat) y (a:cL),r.aB[k]? =some y→([]:List cL)[k]? =some a→a.2.length=y.length):=by exact ⟨Nat.zero_le _,rfl,fun k y a _ q=>by simp at q⟩
 refine bR (ι:={z:Nat×(List cL) // (z.1≤r.aB.length)∧(z.2.length=z.1)∧(∀ (k:Nat) y (a:cL),r.aB[k]? =some y→z.2[k]? =some a→a.2.length=y.length)}) [1,2,74] [2,3,4,5,6,7,8,9,10,11,12,13,14,15,16,17] U U (fun z=>[(75,(vI (z.1.1:Int)))]) (fun z=>[(bB (aX im (r.aB.take z.1.1) z.1.2)),(own W X 56 1 (List.zipWith cR r.aB (jJ z.1.2 ha z.1.1)))]) (fun _=>rfl) (fun _=>rfl) (fun z=>r.aB.length-z.1.1) ⟨(0,([]:List cL)),E⟩ (aW U) (aK [2,3,4,5,6,7,8,9,10,11,12,13,14,15,16,17,0,1]) ?_
 clear E
 rintro ⟨⟨h,hz⟩,⟨l,A,L⟩⟩ J60 A4
 try dsimp only at l A L
 try dsimp only
 refine WS fun _ Cp=>rP 1 [] I ?_
 refine RK Cp<|ah fun _ Cu=>bT U (aR fun In=>?_) (aQ fun In=>?_)
 ·refine bI<|ae<|ae<|aC<|KK Ci<|ah fun _ EY=>?_
  have Kf:qE r.aB hz:=⟨om,L⟩
  rw [show (jJ hz ha h)=hz from tP om,show r.aB.take h=r.aB from List.take_of_length_le om]
  refine an<|rP 1 [] (mc 5 U I) ?_
  refine Me U pU U<|RK EY<|ao ?_
  refine LX hQ (a9,S,J,K,bz,Y,Z,g,j,w,AO,W,X,hz) [3,15,14,2,1,0,17,16] [0] (mc 4 U I) U (by show List.all _ _=true; simp only [eo,List.all_nil,fw,jB,Bool.and_true]; rfl) U U ?_
  exact ⟨⟨J8,J9⟩,Kf⟩
 refine WK Cu<|ah fun _ Cx=>aA<|WS fun _ C0=>rP 2 [] I ?_
 refine RK C0<|ah fun _ C1=>ek cE [8,10] [6,7,8] [0] [0,1,2,3,4,5,6,7,8,9,10,11,12,13,14,15,16] [0,1,2,3,4,5,6,7,8,9,10,11,12,13,14,15,16,17] U U U U U<|eS U (FA 10 U fB U)<|eS U (L1 (vS W r.aB.length X) 5 U ct U U)<|eS U (MV U)<|eS U (FA 10 U fB U)<|eS U (L1 (vS W r.aB.length X) 5 U ct U U)<|eS U (MV U) ?_
 obtain ⟨ht,N⟩:=aM r.aB h om
 obtain ⟨D,O⟩:=aM ha h om
 have u:(List.zipWith cR r.aB (jJ hz ha h))[h]? =some (cR ht D):=eu N (wv A O)
 have A1:=hin.oQ _ _ _ N O
 have e:=A1.o4
 have KU:=A1.len
 refine fS U (IA h U (ag (n:=r.aB.length) 17 U (eG (by rw [gV A om]; exact M))) sH dc om om) ?_
 refine fS U (g_ h 0 (vS D.1.1 ht.length D.1.2) U ct (ag (n:=r.aB.length) 17 U (eG (by rw [gV A om]; exact M))) u U dc U) ?_
 refine fS U (IA h U (ag (n:=r.aB.length) 17 U (eG (by rw [gV A om]; exact M))) sH dc om om) ?_
 refine ff U<|gZ U fun T67 HA=>?_
 refine cX (GU (List.zipWith aw.cells ht D.2) D.1.1 ht.length D.1.2 sd (by exact oE e) (by exact Ix _ _)) (al (show ju _ (rd D.1.1 ht.length 7 (List.zipWith aw.cells ht D.2)).holds from (eN 13 U (cD N O cq)))<|aD) U fun LH Ne=>?_
 obtain ⟨G,H⟩:=LH
 try dsimp only
 refine aG (HA _ _ (aK [1,2,3,4,5,6,7,8,9,10,11,12,13,14,15,16,17]) (aK [1,2,3,4,5,6,7,8,9,10,11,12,13,14,15,16,17,18]) ?_)
 refine cf U fun T72 Hi=>eg (k:=h) (o:=0) (vs:=[(vS G ht.length H)]) (es':=(List.zipWith cR r.aB (jJ (hz++[((G,H),D.2)]) ha (h+1)))) (C':=[_,_,_,_,_,_,_,_,_,_,_,_,_,_,_,_,_,_,(own W X 56 1 (List.zipWith cR r.aB (jJ (hz++[((G,H),D.2)]) ha (h+1))))]) 18 U U U O2 U U U U u U dc (by exact tO (b:=((G,H),D.2)) N A O) U<|aG (Hi _ _ (aK [1,2,3,4,5,6,7,8,9,10,11,12,13,14,15,16,17]) ?_)
 refine fV U<|KK C1<|WS fun _ C2=>rP 3 [] (mc 6 U I) ?_
 have v:(List.zipWith cR r.aB (jJ (hz++[((G,H),D.2)]) ha (h+1)))[h]? =some (cR ht ((G,H),D.2)):=eu N (F5 A)
 refine rS (IA h U (ag (n:=r.aB.length) 18 U (eG (by rw [gV (by simp; omega) om]; exact M))) sH dc om om) ?_
 refine rS (g_ h 0 (vS G ht.length H) U ct (ag (n:=r.aB.length) 18 U (eG (by rw [gV (by simp; omega) om]; exact M))) v U dc U) ?_
 refine rP 2 [] I ?_
 refine RK C2<|aA<|nJ ?_
 have E:(0≤ht.length)∧(([]:List RA).length=0):=by exact ⟨Nat.zero_le _,rfl⟩
 refine bR (ι:={z:Nat×(List RA) // (z.1≤ht.length)∧(z.2.length=z.1)}) [1,2,5,74,75,93] [2,3,4,5,6,7,8,9,10,11,12,13,14,15,16,17,18,19] U U (fun z=>[(94,(vI (z.1.1:Int)))]) (fun z=>[(bB (aX ng (ht.take z.1.1) z.1.2)),(own G H 62 7 (List.zipWith aw.cells ht (jJ z.1.2 D.2 z.1.1)))]) (fun _=>rfl) (fun _=>rfl) (fun z=>ht.length-z.1.1) ⟨(0,([]:List RA)),E⟩ (aW U) (aK [2,3,4,5,6,7,8,9,10,11,12,13,14,15,16,17,18,19,0,1]) ?_
 clear E
 rintro ⟨⟨i,dz⟩,⟨p,F⟩⟩ J74 A5
 try dsimp only at p F
 try dsimp only
 refine WS fun _ DU=>rP 1 [] I ?_
 refine RK DU<|ah fun _ Di=>bT U (aR fun J2=>?_) (aQ fun J2=>?_)
 ·refine bI<|ae<|ae<|aC<|aF<|KK Cx<|an<|rP 2 [] I ?_
  refine aG ?_
  have Lk:dz.length=ht.length:=by omega
  rw [show (jJ dz D.2 i)=dz from tP om,show ht.take i=ht from List.take_of_length_le om]
  refine LQ (Z':=aX im (r.aB.take (h+1)) (hz++[((G,H),dz)])) 16 18 19 U U (pP (f:=im) (b:=((G,H),dz)) N A) ?_
  rw [HI (y:=dz)]
  have IO:(vI (((h+1):Nat):Int))=(vI ((h:Int)+1)):=by exact cI om
  refine bg (A4 ⟨((h+1),(hz++[((G,H),dz)])),⟨om,by simp; omega,Im N L A dso⟩⟩ _ _ _ U os (dx 3<|bG U IO<|ee.nil _) (aK [1,2,3,4,5,6,7,8,9,10,11,12,13,14,15,16,0,17]))
 refine WK Di<|ah fun _ Do=>aA<|WS fun _ D8=>rP 2 [] I ?_
 refine RK D8<|ah fun _ EQ=>?_
 refine Af 19 U (by rw [oE (by rw [gV F om]; exact e)]; omega) (fun LY AB=>?_)
 refine an<|rP 3 [] (mc 5 U I) ?_
 refine rS (IA h U (ag (n:=r.aB.length) 17 U (eG (by rw [gV (by simp; omega) om]; exact M))) sH dc om om) ?_
 refine rS (g_ h 0 (vS G ht.length H) U ct (ag (n:=r.aB.length) 17 U (eG (by rw [gV (by simp; omega) om]; exact M))) v U dc U) ?_
 refine rP 1 [] I ?_
 obtain ⟨d,hd⟩:=aM ht i om
 obtain ⟨da,A0⟩:=aM D.2 i om
 have IR:(List.zipWith aw.cells ht (jJ dz D.2 i))[i]? =some (aw.cells d da):=eu hd (wv F A0)
 have OM:=A1.sig d (aT hd)
 refine rS (Qj i U AB uS om om)<|rS (PU ((i*7)+4) U AB fB U)<|bh 1 U<|RK EQ<|an<|rP 2 [] I ?_
 refine rS (SX (vf U U AB) U U)<|rS (PU (((i*7)+4)+2) U AB fB U) ?_
 refine rS (g_ i 6 (vS da.1 d.c_.aj.length da.2) U ct (ag (n:=ht.length) 19 U (oE (by rw [gV F om]; exact e))) IR U dc U) ?_
 refine cX (Ez d.c_.aj da.1 da.2 sd) (al (show ju _ (rd da.1 d.c_.aj.length 2 (d.c_.aj.map aH.cells)).holds from (eN 13 U (cD N O (df _ (cD hd A0 (by simp [aw.ja]))))))<|aD) U fun LT Nn=>?_
 obtain ⟨R,AA⟩:=LT
 try dsimp only
 refine rS (SX (vf U U AB) U U)<|rS (PU (((i*7)+4)+2) U AB fB U)<|eg (k:=i) (o:=6) (vs:=[(vS R d.c_.aj.length AA)]) (es':=(List.zipWith aw.cells ht (jJ (dz++[(R,AA)]) D.2 (i+1)))) (C':=[_,_,_,_,_,_,_,_,_,_,_,_,_,_,_,_,_,_,_,_,(own G H 62 7 (List.zipWith aw.cells ht (jJ (dz++[(R,AA)]) D.2 (i+1))))]) 20 U U U OE U U U U IR U dc (by exact tO (c:=aw.cells) (b:=(R,AA)) hd F A0) U<|aG<|aF<|KK Do<|an<|rP 2 [] I ?_
 refine aG<|GY (Y':=aX ng (ht.take (i+1)) (dz++[(R,AA)])) 19 0 U U (pP (f:=ng) (b:=(R,AA)) hd F) ?_
 have IF:(vI (((i+1):Nat):Int))=(vI ((i:Int)+1)):=by exact cI om
 refine bg (A5 ⟨((i+1),(dz++[(R,AA)])),⟨om,by simp; omega⟩⟩ _ _ _ U os (dx 6<|bG U IF<|ee.nil _) (aK [1,2,3,4,5,6,7,8,9,10,11,12,13,14,15,16,17,18,0,19]))
end
section
open Go.RowKit
theorem tm (r:bX) (kA:OA) (kC:Nat) (az:List RA) (cA:OA) (cC:Nat) (bA:OA) (bC:Nat) (slA:OA) (slC:Nat) (drA:OA) (drC:Nat) (ha:List cL) (heA:OA) (heC:Nat) (tz:List RA) (tA:OA) (tC:Nat) (ms:Value) (gw:Nat) (h i:Int) (t:aa) (hin:eF r az ha) (hok:fm r):
 lq Tryz.prog 69 [(vP gw),(vI h),(vI i),(vA (aa.cells t))] [(rd kA r.ar.aN.length 9 (r.ar.aN.map ai.cells)),(rd cA r.ar.ak.length 2 (List.zipWith av.cells r.ar.ak az)),(eY (aX av.ja r.ar.ak az)),(rd bA r.ar.ab.length 4 (r.ar.ab.map bM.cells)),(rd slA r.aU.length 1 (r.aU.map iC)),(rd drA r.bV.length 1 (r.bV.map iC)),(rd heA r.aB.length 1 (List.zipWith cR r.aB ha)),(eY (aX jk r.aB ha)),(rd tA ((cU r).length) 1 (List.zipWith DV (cU r) tz)),(eY (aX HT (cU r) tz)),(bQ gw 112 (eW.cells (eW.mk (oi r kA kC cA cC bA bC slA slC drA drC heA heC) (bk.mk tA ((cU r).length) tC) ms)))] (fun (x:Bool×Int×(OA)×Nat×(OA)×Nat×(List RA)×(OA)×Nat×(OA)×Nat×(OA)×Nat×(OA)×Nat×(List cL))=>bif x.1 then (vT [(vA (cw.cells (cw.mk (cu.mk (bD.mk (bk.mk x.2.2.1 r.ar.aN.length x.2.2.2.1)) r.ar.gN (bk.mk x.2.2.2.2.1 r.ar.ak.length x.2.2.2.2.2.1) (bk.mk x.2.2.2.2.2.2.2.1 r.ar.ab.length x.2.2.2.2.2.2.2.2.1) r.ar.bS r.ar.e7 r.ar.dZ) (bk.mk x.2.2.2.2.2.2.2.2.2.1 r.aU.length x.2.2.2.2.2.2.2.2.2.2.1) (bk.mk x.2.2.2.2.2.2.2.2.2.2.2.1 r.bV.length x.2.2.2.2.2.2.2.2.2.2.2.2.1) r.iP (bk.mk x.2.2.2.2.2.2.2.2.2.2.2.2.2.1 ((fU r.aB h i t).length) x.2.2.2.2.2.2.2.2.2.2.2.2.2.2.1)))),(vI 0)]) else (vT [(vA (cw.cells (cw.mk (cu.mk (bD.mk (bk.mk none 0 0)) 0 (bk.mk none 0 0) (bk.mk none 0 0) 0 0 0) (bk.mk none 0 0) (bk.mk none 0 0) 0 (bk.mk none 0 0)))),(vI x.2.1)])) (fun (x:Bool×Int×(OA)×Nat×(OA)×Nat×(List RA)×(OA)×Nat×(OA)×Nat×(OA)×Nat×(OA)×Nat×(List cL))=>(x.1=true→((oV r h i t)=0∧(x.2.2.2.2.2.2.1.length=r.ar.ak.length∧py r.ar.ak x.2.2.2.2.2.2.1)∧qE (fU r.aB h i t) x.2.2.2.2.2.2.2.2.2.2.2.2.2.2.2))∧(x.1=false→(x.2.1=(oV r h i t)∧ ¬ (oV r h i t)=0))) (fun (x:Bool×Int×(OA)×Nat×(OA)×Nat×(List RA)×(OA)×Nat×(OA)×Nat×(OA)×Nat×(OA)×Nat×(List cL))=>bif x.1 then [(own x.2.2.1 x.2.2.2.1 153 9 (r.ar.aN.map ai.cells)),(own x.2.2.2.2.1 x.2.2.2.2.2.1 53 2 (List.zipWith av.cells r.ar.ak x.2.2.2.2.2.2.1)),(bB (aX av.owns r.ar.ak x.2.2.2.2.2.2.1)),(own x.2.2.2.2.2.2.2.1 x.2.2.2.2.2.2.2.2.1 160 4 (r.ar.ab.map bM.cells)),(own x.2.2.2.2.2.2.2.2.2.1 x.2.2.2.2.2.2.2.2.2.2.1 3 1 (r.aU.map iC)),(own x.2.2.2.2.2.2.2.2.2.2.2.1 x.2.2.2.2.2.2.2.2.2.2.2.2.1 3 1 (r.bV.map iC)),(own x.2.2.2.2.2.2.2.2.2.2.2.2.2.1 x.2.2.2.2.2.2.2.2.2.2.2.2.2.2.1 56 1 (List.zipWith cR (fU r.aB h i t) x.2.2.2.2.2.2.2.2.2.2.2.2.2.2.2)),(bB (aX im (fU r.aB h i t) x.2.2.2.2.2.2.2.2.2.2.2.2.2.2.2))] else []):=by
 have A6:=hin.line
 have Cx:=hin.iZ
 have C1:=hin.has
 have B9:=hin.je
 have A9:=hin.draw
 have Ci:=dT (r:=r)
 have DU:=hok.num
 have C2:=hok.nh
 refine de O7 Tryz.func69 U U fun w0 Q hQ hN=>?_
 try dsimp only
 refine WS fun _ A0=>fY U fun b2=>AL U xb fun b3=>bh 1 U<|RK A0<|ah fun _ A1=>WS fun _ J=>bh 1 U<|rS (SX (bx U U) U U)<|rP 6 [] (mr 12 U I) ?_
 refine cH (xs:=[.tmp 18]) (cs:=[(vI h)]) U cy hE U U U U (by simp [Value.cells]) U U fun b6=>?_
 refine rS (CL (dR.eq (js 0 ((r.aB.length:Int)-1) ([h]) (some ⟨b6,0,none⟩) 1 sd) cp) (al (aV 0 U U (by simp [bu]) U)<|aD) U) ?_
 refine rP 2 [] I ?_
 refine cK (t:=22) U (bq fun AC=>?_) (bp fun AC=>?_)
 ·refine bh 11 U<|RK J<|aL U<|WS fun _ A2=>rS (SX (aZ (xs:=[]) (cs:=(cw.cells (cw.mk (cu.mk (bD.mk (bk.mk none 0 0)) 0 (bk.mk none 0 0) (bk.mk none 0 0) 0 0 0) (bk.mk none 0 0) (bk.mk none 0 0) 0 (bk.mk none 0 0)))) U U (bf AH U)) U U)<|sD U pU U<|rP 1 [] I ?_
  refine RK A2<|ao ?_
  refine LX hQ (false,2,none,0,none,0,[],none,0,none,0,none,0,none,0,[]) [] [0] (mc 1 U I) U (by first|rfl|(show List.all _ _=true; simp only [cond_true,eo,List.all_nil,fw,jB,Bool.and_true]; rfl)) U ?_ ?_
  ·first|rfl|(simp only [cond_true,hO]; rfl)
  ·refine ⟨AW,fun _=>?_⟩; first|exact j1 (k9 (r:=r) (h:=h) (i:=i) (t:=t) om)|exact j1 (k9 (r:=r) (h:=h) (i:=i) (t:=t) (fun q=>absurd q.2 asm))|exact j1 (qj (r:=r) (t:=t) ⟨om,asm⟩ A hd H)
 refine rP 2 [] I ?_
 refine cH (xs:=[.tmp 24]) (cs:=[(vI i)]) U cy hE U U U U (by simp [Value.cells]) U U fun b8=>?_
 refine rS (CL (dR.eq (w8 r kA kC az cA cC bA bC slA slC drA drC ha heA heC tz tA tC ms gw ([i]) (some ⟨b8,0,none⟩) 1 hin sd) cp) (kf [4,5,6,7,8,9,10,11,12,13,14]<|al (aV 0 U U (by simp [bu]) U)<|aD) U) ?_
 refine rP 3 [] I ?_
 refine cK (t:=29) U (bq fun AO=>?_) (bp fun AO=>?_)
 ·refine bh 4 U<|RK J<|aL U<|WS fun _ A3=>rS (SX (aZ (xs:=[]) (cs:=(cw.cells (cw.mk (cu.mk (bD.mk (bk.mk none 0 0)) 0 (bk.mk none 0 0) (bk.mk none 0 0) 0 0 0) (bk.mk none 0 0) (bk.mk none 0 0) 0 (bk.mk none 0 0)))) U U (bf AH U)) U U)<|CH U pU U<|rP 1 [] I ?_
  refine RK A3<|ao ?_
  refine LX hQ (false,2,none,0,none,0,[],none,0,none,0,none,0,none,0,[]) [] [0] (mc 2 U I) U (by first|rfl|(show List.all _ _=true; simp only [cond_true,eo,List.all_nil,fw,jB,Bool.and_true]; rfl)) U ?_ ?_
  ·first|rfl|(simp only [cond_true,hO]; rfl)
  ·refine ⟨AW,fun _=>?_⟩; first|exact j1 (k9 (r:=r) (h:=h) (i:=i) (t:=t) om)|exact j1 (k9 (r:=r) (h:=h) (i:=i) (t:=t) (fun q=>absurd q.2 asm))|exact j1 (qj (r:=r) (t:=t) ⟨om,asm⟩ A hd H)
 refine fr 1 [] (mc 3 U I) U<|rS (CL (Ch t) (aD) U)<|rP 2 [] I ?_
 refine RK J<|cM U (bq fun Z=>?_) (bp fun Z=>?_)
 ·refine WS fun _ b=>rS (SX (aZ (xs:=[]) (cs:=(cw.cells (cw.mk (cu.mk (bD.mk (bk.mk none 0 0)) 0 (bk.mk none 0 0) (bk.mk none 0 0) 0 0 0) (bk.mk none 0 0) (bk.mk none 0 0) 0 (bk.mk none 0 0)))) U U (bf AH U)) U U)<|CH U pU U<|rP 1 [] I ?_
  refine RK b<|ao ?_
  refine LX hQ (false,2,none,0,none,0,[],none,0,none,0,none,0,none,0,[]) [] [0] (mc 2 U I) U (by first|rfl|(show List.all _ _=true; simp only [cond_true,eo,List.all_nil,fw,jB,Bool.and_true]; rfl)) U ?_ ?_
  ·first|rfl|(simp only [cond_true,hO]; rfl)
  ·refine ⟨AW,fun _=>?_⟩; first|exact j1 (k9 (r:=r) (h:=h) (i:=i) (t:=t) om)|exact j1 (k9 (r:=r) (h:=h) (i:=i) (t:=t) (fun q=>absurd q.2 asm))|exact j1 (qj (r:=r) (t:=t) ⟨om,asm⟩ A hd H)
 refine WK A1<|ah fun _ e=>WS fun _ f=>bh 1 U<|rS (SX (bx U U) U U)<|rP 4 [] (mr 14 U I) ?_
 obtain ⟨ht,A⟩:=aM r.aB ((h).toNat) om
 obtain ⟨C,E⟩:=aM ha ((h).toNat) om
 have w:(List.zipWith cR r.aB ha)[(h).toNat]? =some (cR ht C):=eu A E
 refine rS (IA ((h).toNat) U (aJ 10 U) sH dc om om) ?_
 have A5:=hin.oQ _ _ _ A E
 have B3:=A5.o4
 have C0:=(hok.oQ ht (aT A)).1
 refine rS (g_ ((h).toNat) 0 (vS C.1.1 ht.length C.1.2) U KS (aJ 10 U) w U dc U)<|rP 1 [] I ?_
 obtain ⟨d,hd⟩:=aM ht ((i).toNat) om
 obtain ⟨da,K⟩:=aM C.2 ((i).toNat) om
 have A4:(List.zipWith aw.cells ht C.2)[(i).toNat]? =some (aw.cells d da):=eu hd K
 refine rS (IA ((i).toNat) U (show ju _ (rd C.1.1 ht.length 7 (List.zipWith aw.cells ht C.2)).holds from (eN 11 U (cD A E cq))) uS dc om om)<|rS (pt (((i).toNat)*7) U (show ju _ (rd C.1.1 ht.length 7 (List.zipWith aw.cells ht C.2)).holds from (eN 11 U (cD A E cq))) (Nat.mul_pos om dc) Lb U)<|rS (g_ ((i).toNat) 0 (vB d.Out) U Qd (show ju _ (rd C.1.1 ht.length 7 (List.zipWith aw.cells ht C.2)).holds from (eN 11 U (cD A E cq))) A4 U dc U)<|RK f<|cM U (fun H=>?_) (fun H=>?_)
 ·refine WS fun _ g=>rS (SX (aZ (xs:=[]) (cs:=(cw.cells (cw.mk (cu.mk (bD.mk (bk.mk none 0 0)) 0 (bk.mk none 0 0) (bk.mk none 0 0) 0 0 0) (bk.mk none 0 0) (bk.mk none 0 0) 0 (bk.mk none 0 0)))) U U (bf AH U)) U U)<|CH U pU U<|rP 1 [] I ?_
  refine RK g<|ao ?_
  refine LX hQ (false,8,none,0,none,0,[],none,0,none,0,none,0,none,0,[]) [] [0] (mc 2 U I) U (by first|rfl|(show List.all _ _=true; simp only [cond_true,eo,List.all_nil,fw,jB,Bool.and_true]; rfl)) U ?_ ?_
  ·first|rfl|(simp only [cond_true,hO]; rfl)
  ·refine ⟨AW,fun _=>?_⟩; first|exact j1 (k9 (r:=r) (h:=h) (i:=i) (t:=t) om)|exact j1 (k9 (r:=r) (h:=h) (i:=i) (t:=t) (fun q=>absurd q.2 asm))|exact j1 (qj (r:=r) (t:=t) ⟨om,asm⟩ A hd H)
 refine WK e<|WS fun _ j=>bh 1 U<|rS (SX (bx U U) U U)<|rP 1 [] I ?_
 refine rS (P_ (cw.cells (oi r kA kC cA cC bA bC slA slC drA drC heA heC)) 14 U Nq U U U)<|cX (H3 r kA kC az cA cC bA bC slA slC drA drC ha heA heC hin) (a_ [4,5,6,7,8,9,10,11]) U fun A8 z=>?_
 obtain ⟨L,T,M,AA,S,N,V,O,W,P,X,R,Y,G⟩:=A8
 try dsimp only
 obtain ⟨⟨s,u⟩,D⟩:=z
 try dsimp only at s u D
 have B7:=D.1
 refine AL U xb fun Ck=>fG U pU U<|RK j<|ah fun _ l=>?_
 obtain ⟨B,F⟩:=aM G ((h).toNat) (by have:=D.1; omega)
 have y:(List.zipWith cR r.aB G)[(h).toNat]? =some (cR ht B):=eu A F
 have A7:=D.2 _ _ _ A F
 refine K2 8 A F U U ?_
 try dsimp only
 refine dF cE 9 kr<|mQ 3 [] (mc 3 U I) U<|dS (IA ((h).toNat) U (ag (n:=r.aB.length) 10 U (eG D.1)) sH dc om om)<|dS (g_ ((h).toNat) 0 (vS B.1.1 ht.length B.1.2) U KS (ag (n:=r.aB.length) 10 U (eG D.1)) y U dc U)<|dP 2 [] (mc 14 U I) ?_
 refine dS (SX (aZ (xs:=[(1,.const (vB true)),(2,.tmp 59)]) (cs:=(br.cells (br.mk false true t (eC.mk 0 0 (bk.mk none 0 0))))) U U (bf FV U)) U U) ?_
 obtain ⟨K,AB⟩:=aM B.2 ((i).toNat) om
 have v:(List.zipWith aw.cells ht B.2)[(i).toNat]? =some (aw.cells d K):=eu hd AB
 refine dS (IA ((i).toNat) U (ag (n:=ht.length) 0 U (oE A7)) uS dc om om)<|cQ<|eg (k:=(i).toNat) (o:=0) (vs:=(br.cells (br.mk false true t (eC.mk 0 0 (bk.mk none 0 0))))) (es':=(List.zipWith aw.cells (ht.set (i).toNat (jS t)) (B.2.set (i).toNat (none,0)))) (C':=[(own B.1.1 B.1.2 62 7 (List.zipWith aw.cells (ht.set (i).toNat (jS t)) (B.2.set (i).toNat (none,0)))),_,_,_,_,_,_,_,_,_,_,_,_,_,_,_,_,_,_,_,_,_,_,_,_,_]) 0 U U U LB U U U U v U dc (by exact o0 (c:=aw.cells) (m:=jS t) (a:=(none,0))) U<|RK l<|ah fun _ p=>LU (d':=jS t) 1 hd AB U U U ?_
 refine IS (h':=(ht.set (i).toNat (jS t))) (a':=(B.1,(B.2.set (i).toNat (none,0)))) 2 0 1 om (by have:=D.1; omega) U U ?_
 rw [← sM A,show List.zipWith cR r.aB G=List.zipWith cR (fU r.aB h i t) (G.set (h).toNat (B.1,(B.2.set (i).toNat (none,0)))) from by rw [sM A]; exact (DM A F (by rw [List.length_set])).symm]
 replace D:=Lh (i:=i) (t:=t) D A F
 refine an<|fr 1 [] (mc 1 U I) U<|OO U pU U<|rP 1 [] I ?_
 refine RK p<|ao ?_
 refine LX hQ (true,0,L,T,M,AA,S,N,V,O,W,P,X,R,Y,(G.set (h).toNat (B.1,(B.2.set (i).toNat (none,0))))) [2,3,4,5,6,7,8,0] [0] (mc 11 U I) U (by first|rfl|(show List.all _ _=true; simp only [cond_true,eo,List.all_nil,fw,jB,Bool.and_true]; rfl)) U ?_ ?_
 ·first|rfl|(simp only [cond_true,hO]; rfl)
 ·exact ⟨fun _=>⟨Ie ⟨om,Z⟩ A hd H,⟨s,u⟩,D⟩,LR⟩
end
section
open Go.RowKit
theorem Hc (h i:Int) (t:aa) (r:bX) (kA:OA) (kC:Nat) (az:List RA) (cA:OA) (cC:Nat) (bA:OA) (bC:Nat) (slA:OA) (slC:Nat) (drA:OA) (drC:Nat) (ha:List cL) (heA:OA) (heC:Nat) (hin:eF r az ha):
 lq Tryz.prog 29 [(vA (cw.cells (oi r kA kC cA cC bA bC slA slC drA drC heA heC))),(vI h),(vI i),(vA (aa.cells t))] [(rd eB 3 2 dE),(rd kA r.ar.aN.length 9 (r.ar.aN.map ai.cells)),(rd cA r.ar.ak.length 2 (List.zipWith av.cells r.ar.ak az)),(eY (aX av.ja r.ar.ak az)),(rd bA r.ar.ab.length 4 (r.ar.ab.map bM.cells)),(rd slA r.aU.length 1 (r.aU.map iC)),(rd drA r.bV.length 1 (r.bV.map iC)),(rd heA r.aB.length 1 (List.zipWith cR r.aB ha)),(eY (aX jk r.aB ha))] (fun (x:Bool×Int×(OA)×Nat×(OA)×Nat×(List RA)×(OA)×Nat×(OA)×Nat×(OA)×Nat×(OA)×Nat×(List cL))=>bif x.1 then (vT [(vA (cw.cells (cw.mk (cu.mk (bD.mk (bk.mk x.2.2.1 r.ar.aN.length x.2.2.2.1)) r.ar.gN (bk.mk x.2.2.2.2.1 r.ar.ak.length x.2.2.2.2.2.1) (bk.mk x.2.2.2.2.2.2.2.1 r.ar.ab.length x.2.2.2.2.2.2.2.2.1) r.ar.bS r.ar.e7 r.ar.dZ) (bk.mk x.2.2.2.2.2.2.2.2.2.1 r.aU.length x.2.2.2.2.2.2.2.2.2.2.1) (bk.mk x.2.2.2.2.2.2.2.2.2.2.2.1 r.bV.length x.2.2.2.2.2.2.2.2.2.2.2.2.1) r.iP (bk.mk x.2.2.2.2.2.2.2.2.2.2.2.2.2.1 ((fU r.aB h i t).length) x.2.2.2.2.2.2.2.2.2.2.2.2.2.2.1)))),(vI 0)]) else (vT [(vA (cw.cells (cw.mk (cu.mk (bD.mk (bk.mk none 0 0)) 0 (bk.mk none 0 0) (bk.mk none 0 0) 0 0 0) (bk.mk none 0 0) (bk.mk none 0 0) 0 (bk.mk none 0 0)))),(vI x.2.1)])) (fun (x:Bool×Int×(OA)×Nat×(OA)×Nat×(List RA)×(OA)×Nat×(OA)×Nat×(OA)×Nat×(OA)×Nat×(List cL))=>(x.1=true→((fP r h i t)=0∧(x.2.2.2.2.2.2.1.length=r.ar.ak.length∧py r.ar.ak x.2.2.2.2.2.2.1)∧qE (fU r.aB h i t) x.2.2.2.2.2.2.2.2.2.2.2.2.2.2.2))∧(x.1=false→(x.2.1=(fP r h i t)∧ ¬ (fP r h i t)=0))) (fun (x:Bool×Int×(OA)×Nat×(OA)×Nat×(List RA)×(OA)×Nat×(OA)×Nat×(OA)×Nat×(OA)×Nat×(List cL))=>bif x.1 then [(own x.2.2.1 x.2.2.2.1 153 9 (r.ar.aN.map ai.cells)),(own x.2.2.2.2.1 x.2.2.2.2.2.1 53 2 (List.zipWith av.cells r.ar.ak x.2.2.2.2.2.2.1)),(bB (aX av.owns r.ar.ak x.2.2.2.2.2.2.1)),(own x.2.2.2.2.2.2.2.1 x.2.2.2.2.2.2.2.2.1 160 4 (r.ar.ab.map bM.cells)),(own x.2.2.2.2.2.2.2.2.2.1 x.2.2.2.2.2.2.2.2.2.2.1 3 1 (r.aU.map iC)),(own x.2.2.2.2.2.2.2.2.2.2.2.1 x.2.2.2.2.2.2.2.2.2.2.2.2.1 3 1 (r.bV.map iC)),(own x.2.2.2.2.2.2.2.2.2.2.2.2.2.1 x.2.2.2.2.2.2.2.2.2.2.2.2.2.2.1 56 1 (List.zipWith cR (fU r.aB h i t) x.2.2.2.2.2.2.2.2.2.2.2.2.2.2.2)),(bB (aX im (fU r.aB h i t) x.2.2.2.2.2.2.2.2.2.2.2.2.2.2.2))] else []):=by
 have u:=hin.line
 have A1:=hin.iZ
 have A2:=hin.has
 have AC:=hin.je
 have z:=hin.draw
 have e:=dT (r:=r)
 refine de kr Tryz.func29 U U fun w0 Q hQ hN=>?_
 try dsimp only
 refine WS fun _ s=>fY U fun b2=>fY U fun b3=>AL U xb fun b4=>bh 1 U<|RK s<|WS fun _ Y=>rP 1 [] (mc 2 U I) ?_
 refine cX (lO r kA kC az cA cC bA bC slA slC drA drC ha heA heC hin) (a_ [3,4,5,6,7,8,9,10,11]) U fun y6 g=>?_
 obtain ⟨k,A0,q,S,m,o,p⟩:=y6
 cases k
 ·obtain ⟨M,he⟩:=g.2 rfl
  try dsimp only at M he
  subst M
  try dsimp only [cond_true,cond_false,List.cons_append,List.nil_append]
  refine bh 5 U<|RK Y<|ah fun _ y=>WS fun _ AA=>rP 2 [] I ?_
  refine RK AA<|bT U (bp fun T=>?_) (bq fun T=>?_)
  ·exact absurd T he
  refine WS fun _ V=>rS (SX (aZ (xs:=[]) (cs:=(cw.cells (cw.mk (cu.mk (bD.mk (bk.mk none 0 0)) 0 (bk.mk none 0 0) (bk.mk none 0 0) 0 0 0) (bk.mk none 0 0) (bk.mk none 0 0) 0 (bk.mk none 0 0)))) U U (bf AH U)) U U)<|bh 1 U<|fG U pU U<|rP 1 [] I ?_
  refine RK V<|ao ?_
  refine LX hQ (false,(cG r),none,0,none,0,[],none,0,none,0,none,0,none,0,[]) [] [0] (mc 0 U I) U (by first|rfl|(show List.all _ _=true; simp only [cond_true,eo,List.all_nil,fw,jB,Bool.and_true]; rfl)) U ?_ ?_
  ·first|rfl|(simp only [cond_true,hO]; rfl)
  ·refine ⟨AW,fun _=>?_⟩; first|exact xJ (pO (h:=h) (i:=i) (t:=t) he) he|exact xJ (nt (h:=h) (i:=i) (t:=t) b) he
 obtain ⟨he,f⟩:=g.1 rfl
 try dsimp only [cond_true,cond_false,List.cons_append,List.nil_append]
 have b:=he
 try dsimp only at f
 have d:=(jd he).2
 refine bh 5 U<|RK Y<|ah fun _ W=>WS fun _ X=>bh 1 U<|rS (SX (bP (r:= .bool false) U U U l9) U U)<|RK X<|aS U<|WK W<|WS fun _ N=>rP 4 [] (mc 5 U I) ?_
 refine cX (tm r kA kC az cA cC bA bC slA slC drA drC ha heA heC p m o (Value.map (some S)) q h i t hin (by exact d)) (kf [8,9,10,11,12,13,14,15]<|al (ag (n:=(cU r).length) 1 U (lK (by rw [e]; exact f)))<|al (cW 2 U qC)<|eL 0 U U<|aD) U fun v P=>?_
 obtain ⟨l,w,A,G,B,H,R,C,AB,D,J,E,K,F,L,j⟩:=v
 cases l
 ·obtain ⟨M,he⟩:=P.2 rfl
  try dsimp only at M he
  subst M
  try dsimp only [cond_true,cond_false,List.cons_append,List.nil_append]
  refine bh 2 U<|Me U pU U<|rP 1 [] I ?_
  refine RK N<|ao ?_
  refine LX hQ (false,(oV r h i t),none,0,none,0,[],none,0,none,0,none,0,none,0,[]) [] [0] (mc 4 U I) U (by first|rfl|(show List.all _ _=true; simp only [cond_true,eo,List.all_nil,fw,jB,Bool.and_true]; rfl)) U ?_ ?_
  ·first|rfl|(simp only [cond_true,hO]; rfl)
  ·refine ⟨AW,fun _=>?_⟩; first|exact xJ (pO (h:=h) (i:=i) (t:=t) he) he|exact xJ (nt (h:=h) (i:=i) (t:=t) b) he
 obtain ⟨O,⟨Z,a⟩,c⟩:=P.1 rfl
 try dsimp only [cond_true,cond_false,List.cons_append,List.nil_append]
 try dsimp only at O Z a c
 refine bh 2 U<|gW (vs:=(cw.cells (cw.mk (cu.mk (bD.mk (bk.mk A r.ar.aN.length G)) r.ar.gN (bk.mk B r.ar.ak.length H) (bk.mk C r.ar.ab.length AB) r.ar.bS r.ar.e7 r.ar.dZ) (bk.mk D r.aU.length J) (bk.mk E r.bV.length K) r.iP (bk.mk F ((fU r.aB h i t).length) L)))) (cs':=(cw.cells (cw.mk (cu.mk (bD.mk (bk.mk A r.ar.aN.length G)) r.ar.gN (bk.mk B r.ar.ak.length H) (bk.mk C r.ar.ab.length AB) r.ar.bS r.ar.e7 r.ar.dZ) (bk.mk D r.aU.length J) (bk.mk E r.bV.length K) r.iP (bk.mk F ((fU r.aB h i t).length) L)))) (C':=[_,_,_,_,_,_,_,_,_,_,_,_,(bQ b4 32 (cw.cells (cw.mk (cu.mk (bD.mk (bk.mk A r.ar.aN.length G)) r.ar.gN (bk.mk B r.ar.ak.length H) (bk.mk C r.ar.ab.length AB) r.ar.bS r.ar.e7 r.ar.dZ) (bk.mk D r.aU.length J) (bk.mk E r.bV.length K) r.iP (bk.mk F ((fU r.aB h i t).length) L)))),_,_,_,_,_,_,_,_,_,_,_]) 12 U U U pU U U U U U U U<|rP 1 [] I ?_
 refine RK N<|ao ?_
 refine LX hQ (true,0,A,G,B,H,R,C,AB,D,J,E,K,F,L,j) [0,1,2,3,4,5,6,7] [0] (mc 12 U I) U (by first|rfl|(show List.all _ _=true; simp only [cond_true,eo,List.all_nil,fw,jB,Bool.and_true]; rfl)) U ?_ ?_
 ·first|rfl|(simp only [cond_true,hO]; rfl)
 ·exact ⟨fun _=>⟨(nt he).trans O,⟨Z,a⟩,c⟩,LR⟩
end
section
open Go.RowKit
theorem H0 (la:List Int) (laA:OA) (laC:Nat) (lb:List Int) (lbA:OA) (lbC:Nat) (h1:la.length≤1000000) (h2:lb.length≤1000000):
 dR Tryz.prog 70 [(vS laA la.length laC),(vS lbA lb.length lbC)] [(rd laA la.length 1 (la.map iC)),(rd lbA lb.length 1 (lb.map iC))] (vB (decide (la=lb))):=by
 refine bE kr Tryz.func70 U U fun W Q hQ hN=>?_
 try dsimp only
 refine WS fun _ K=>bh 1 U<|RK K<|ah fun _ L=>WS fun _ M=>rP 5 [] I ?_
 refine RK M<|cM U (bq fun hl=>?_) (bp fun hl=>?_)
 ·refine WS fun _ N=>rP 1 [] I ?_
  refine RK N<|ao<|Q1 hQ U U U ?_
  first|exact cB (cm (l8 hx hy h)).symm|exact cB (dB (l0 om A om)).symm|exact cB (cm (fun e=>by subst e; omega)).symm
 refine WK L<|ah fun _ O=>WS fun _ P=>rP 3 [] I ?_
 refine RK P<|aA ?_
 have B:(0≤la.length)∧(la.take 0=lb.take 0):=by simp
 refine bR (ι:={z:Nat // (z≤la.length)∧(la.take z=lb.take z)}) [0,1,12] [0,1] U U (fun z=>[(13,(vI (z.1:Int)))]) (fun z=>[]) (fun _=>rfl) (fun _=>rfl) (fun z=>la.length-z.1) ⟨0,B⟩ (aW U) (aK [0,1]) ?_
 clear B
 rintro ⟨i,⟨T,A⟩⟩ J7 J
 try dsimp only
 refine WS fun _ R=>rP 1 [] I ?_
 refine RK R<|ah fun _ S=>bT U (aR fun AB=>?_) (aQ fun AB=>?_)
 ·refine bI<|ae<|ae<|aC<|KK O<|WS fun _ G=>rP 1 [] I ?_
  refine RK G<|ao<|Q1 hQ U U U ?_
  first|exact cB (cm (l8 hx hy h)).symm|exact cB (dB (l0 om A om)).symm|exact cB (cm (fun e=>by subst e; omega)).symm
 refine WK S<|ah fun _ C=>aA<|WS fun _ D=>bh 2 U<|RK D<|ah fun _ E=>dF cE 9 kr<|dP 2 [] I ?_
 obtain ⟨x,hx⟩:=aM la i om
 have AA:=bW iC hx
 refine dS (IA i U (aJ 0 U) cy dc om om)<|dS (g_ i 0 (vI x) U ct (aJ 0 U) AA U dc U)<|dP 2 [] I ?_
 obtain ⟨y,hy⟩:=aM lb i om
 have V:=bW iC hy
 refine dS (IA i U (aJ 1 U) cy dc om om)<|dS (g_ i 0 (vI y) U ct (aJ 1 U) V U dc U)<|dP 1 [] I ?_
 refine cQ<|RK E<|cM U (bq fun h=>?_) (bp fun h=>?_)
 ·refine WS fun _ F=>rP 1 [] I ?_
  refine RK F<|ao<|Q1 hQ U U U ?_
  first|exact cB (cm (l8 hx hy h)).symm|exact cB (dB (l0 om A om)).symm|exact cB (cm (fun e=>by subst e; omega)).symm
 refine cr<|aF<|KK C<|an<|rP 2 [] I ?_
 refine aG ?_
 have H:(vI (((i+1):Nat):Int))=(vI ((i:Int)+1)):=by exact cI om
 refine bg (J ⟨(i+1),⟨om,rr A hx hy h⟩⟩ _ _ _ U os (dx 3<|bG U H<|ee.nil _) (aK [0,1]))
theorem DP (h i:Int) (t:aa) (r:bX) (kA:OA) (kC:Nat) (az:List RA) (cA:OA) (cC:Nat) (bA:OA) (bC:Nat) (slA:OA) (slC:Nat) (drA:OA) (drC:Nat) (ha:List cL) (heA:OA) (heC:Nat) (hin:eF r az ha):
 lq Tryz.prog 31 [(vA (cw.cells (oi r kA kC cA cC bA bC slA slC drA drC heA heC))),(vI h),(vI i),(vA (aa.cells t))] [(rd eB 3 2 dE),(rd kA r.ar.aN.length 9 (r.ar.aN.map ai.cells)),(rd cA r.ar.ak.length 2 (List.zipWith av.cells r.ar.ak az)),(eY (aX av.ja r.ar.ak az)),(rd bA r.ar.ab.length 4 (r.ar.ab.map bM.cells)),(rd slA r.aU.length 1 (r.aU.map iC)),(rd drA r.bV.length 1 (r.bV.map iC)),(rd heA r.aB.length 1 (List.zipWith cR r.aB ha)),(eY (aX jk r.aB ha))] (fun (x:(OA)×Nat)=>(vT [(vS x.1 ((ep r h i t).length) x.2),(vI (fP r h i t))])) (fun (x:(OA)×Nat)=>True) (fun (x:(OA)×Nat)=>[(own x.1 x.2 3 1 ((ep r h i t).map iC))]):=by
 have Hi:=hin.line
 have LT:=hin.iZ
 have LY:=hin.has
 have J7:=hin.je
 have J5:=hin.draw
 have D8:=dT (r:=r)
 refine de kr Tryz.func31 U U fun w0 Q hQ hN=>?_
 try dsimp only
 refine WS fun _ HA=>fY U fun b2=>fY U fun b3=>bh 2 U<|RK HA<|WS fun _ A2=>rP 1 [] (mc 1 U I) ?_
 refine cX (lO r kA kC az cA cC bA bC slA slC drA drC ha heA heC hin) (a_ [2,3,4,5,6,7,8,9,10]) U fun y5 EQ=>?_
 obtain ⟨Ec,LE,v,G,f,g,wA⟩:=y5
 cases Ec
 ·obtain ⟨B,he⟩:=EQ.2 rfl
  try dsimp only at B he
  subst B
  try dsimp only [cond_true,cond_false,List.cons_append,List.nil_append]
  refine bh 5 U<|RK A2<|ah fun _ J3=>WS fun _ AC=>rP 2 [] I ?_
  refine RK AC<|bT U (bp fun w=>?_) (bq fun w=>?_)
  ·exact absurd w he
  refine WS fun _ AO=>rP 1 [] I ?_
  have A:fP r h i t=cG r:=pO he
  have C:ep r h i t=[]:=tI (by rw [A]; exact he)
  refine dY 3 1 ?_
  rw [show (own none 0 3 1 ([]:List (List Value)))=own none 0 3 1 ((ep r h i t).map iC) from by rw [C]; rfl]
  refine rP 2 [] I ?_
  refine RK AO<|ao ?_
  refine LX hQ (none,0) [0] [] I U U U ?_ ?_
  ·first|rfl|(rw [A,C]; rfl)|(rw [A]; rfl)
  ·trivial
 obtain ⟨he,m⟩:=EQ.1 rfl
 try dsimp only [cond_true,cond_false,List.cons_append,List.nil_append]
 have AB:=he
 try dsimp only at m
 have DU:=(jd he).2
 refine bh 5 U<|RK A2<|ah fun _ A0=>WS fun _ A1=>bh 1 U<|rS (SX (bP (r:= .bool false) U U U l9) U U)<|RK A1<|aS U<|WK A0<|WS fun _ Z=>rP 4 [] (mc 4 U I) ?_
 refine cX (tm r kA kC az cA cC bA bC slA slC drA drC ha heA heC wA f g (Value.map (some G)) v h i t hin (by exact DU)) (kf [7,8,9,10,11,12,13,14]<|al (ag (n:=(cU r).length) 1 U (lK (by rw [D8]; exact m)))<|al (cW 2 U qC)<|eL 0 U U<|aD) U fun IF d=>?_
 obtain ⟨Eq,In,L,S,M,T,o,N,AA,O,V,P,W,R,X,EY⟩:=IF
 cases Eq
 ·obtain ⟨B,he⟩:=d.2 rfl
  try dsimp only at B he
  subst B
  try dsimp only [cond_true,cond_false,List.cons_append,List.nil_append]
  refine bh 3 U<|AL U xb fun K0=>fG U pU U<|bh 1 U<|RK Z<|ah fun _ J4=>WS fun _ A3=>rP 2 [] I ?_
  refine RK A3<|bT U (bp fun y=>?_) (bq fun y=>?_)
  ·exact absurd y he
  refine WS fun _ A4=>rP 1 [] I ?_
  have A:fP r h i t=oV r h i t:=nt AB
  have C:ep r h i t=[]:=tI (by rw [A]; exact he)
  refine dY 3 1 ?_
  rw [show (own none 0 3 1 ([]:List (List Value)))=own none 0 3 1 ((ep r h i t).map iC) from by rw [C]; rfl]
  refine rP 2 [] I ?_
  refine RK A4<|ao ?_
  refine LX hQ (none,0) [0] [] I U U U ?_ ?_
  ·first|rfl|(rw [A,C]; rfl)|(rw [A]; rfl)
  ·trivial
 obtain ⟨E,⟨j,C0⟩,J⟩:=d.1 rfl
 try dsimp only [cond_true,cond_false,List.cons_append,List.nil_append]
 try dsimp only at E j C0 J
 have l:fP r h i t=0:=(nt AB).trans E
 have C1:=hin.rep j C0 J
 refine bh 3 U<|AL U xb fun K4=>fG U pU U<|bh 1 U<|RK Z<|ah fun _ A5=>WS fun _ A6=>bh 1 U<|rS (SX (bP (r:= .bool false) U U U l9) U U)<|RK A6<|aS U<|WK A5<|WS fun _ A7=>rP 1 [] (mc 0 U I) ?_
 refine cX (lO (iQ r h i t) L S o M T N AA O V P W EY R X (by exact C1)) (eL 15 U U<|al (ag (n:=r.ar.aN.length) 1 U sm)<|al (ag (n:=r.ar.ak.length) 2 U (gD j))<|al (cW 3 U ic)<|al (ag (n:=r.ar.ab.length) 4 U sm)<|al (ag (n:=r.aU.length) 5 U sm)<|al (ag (n:=r.bV.length) 6 U sm)<|al (ag (n:=(fU r.aB h i t).length) 7 U (eG J.1))<|al (gJ 8 U J)<|aD) U fun IO e=>?_
 obtain ⟨Ey,J2,s,p,FS,Fa,L3⟩:=IO
 cases Ey
 ·obtain ⟨B,he⟩:=e.2 rfl
  try dsimp only at B he
  subst B
  try dsimp only [cond_true,cond_false,List.cons_append,List.nil_append]
  exact absurd (vj l) he
 obtain ⟨he,m⟩:=e.1 rfl
 try dsimp only [cond_true,cond_false,List.cons_append,List.nil_append]
 have Di:=m0 AB
 have F:=nz AB
 have Do:=m0 he
 have J6:=nz he
 refine bh 5 U<|RK A7<|WS fun _ A8=>bh 1 U<|RK A8<|ah fun _ A9=>WS fun _ B3=>bh 1 U<|rS (SX (bx U U) U U)<|rP 2 [] (mc 13 U I) ?_
 refine cX (B8 G) (aD) U fun GE J8=>?_
 try dsimp only
 refine cX (vG (ay r) G GE sd) (a_ [17,0]) U fun IR J9=>?_
 obtain ⟨Kx,K8⟩:=IR
 try dsimp only
 rw [show (ay r).length=(cV ((ay r).map (·.1))).length from by rw [fO,List.length_map]]
 refine rP 1 [] I ?_
 have C2:(cV ((ay r).map (·.1))).length≤5:=by rw [fO,List.length_map]; exact F
 refine rP 1 [] I ?_
 refine RK B3<|aA<|gI 3 1 ?_
 have D:(0≤(cV ((ay r).map (·.1))).length):=by exact Nat.zero_le _
 refine bR (ι:={z:Nat×(OA)×Nat // (z.1≤(cV ((ay r).map (·.1))).length)}) [10,13,47,48] [1,3,4,5,6,8,9,10,11,12,13,14,15,16,17,18,19,22,23,24,25,26,27,28,29,30] U U (fun z=>[(15,(vS z.1.2.1 ((((cV ((ay r).map (·.1))).take z.1.1).filter (fun u=> !decide (dq (ay r) u (au (ay r) u)=dq (ay (iQ r h i t)) u (au (ay (iQ r h i t)) u)))).length) z.1.2.2)),(49,(vI (z.1.1:Int)))]) (fun z=>[(own z.1.2.1 z.1.2.2 3 1 ((((cV ((ay r).map (·.1))).take z.1.1).filter (fun u=> !decide (dq (ay r) u (au (ay r) u)=dq (ay (iQ r h i t)) u (au (ay (iQ r h i t)) u)))).map iC))]) (fun _=>rfl) (fun _=>rfl) (fun z=>(cV ((ay r).map (·.1))).length-z.1.1) ⟨(0,none,0),D⟩ (aW U) (aK [1,3,4,5,6,8,9,10,11,12,13,14,15,16,17,18,19,22,23,24,25,26,27,28,29,30,0]) ?_
 clear D
 rintro ⟨⟨k,a,c⟩,K⟩ J65 Y
 try dsimp only at K
 try dsimp only
 have LH:((((cV ((ay r).map (·.1))).take k).filter (fun u=> !decide (dq (ay r) u (au (ay r) u)=dq (ay (iQ r h i t)) u (au (ay (iQ r h i t)) u))))).length≤12:=Nat.le_trans (List.length_filter_le _ _) (by rw [List.length_take]; omega)
 refine WS fun _ B7=>rP 1 [] I ?_
 refine RK B7<|ah fun _ B9=>bT U (aR fun G6=>?_) (aQ fun G6=>?_)
 ·refine bI<|ae<|ae<|aC<|KK A9<|WS fun _ Cp=>rP 1 [] I ?_
  have A:=l
  have C:ep r h i t=(((cV ((ay r).map (·.1))).take k).filter (fun u=> !decide (dq (ay r) u (au (ay r) u)=dq (ay (iQ r h i t)) u (au (ay (iQ r h i t)) u)))):=by rw [Bd l,List.take_of_length_le om]
  rw [← C]
  refine rP 2 [] I ?_
  refine RK Cp<|ao ?_
  refine LX hQ (a,c) [26] [] I U U U ?_ ?_
  ·first|rfl|(rw [A,C]; rfl)|(rw [A]; rfl)
  ·trivial
 refine WK B9<|ah fun _ b=>aA<|WS fun _ Ci=>?_
 obtain ⟨x,hx⟩:=aM (cV ((ay r).map (·.1))) k om
 have H1:=bW iC hx
 refine rS (IA k U (ag (n:=(cV ((ay r).map (·.1))).length) 0 U sm) cy dc om om)<|rS (g_ k 0 (vI x) U ct (ag (n:=(cV ((ay r).map (·.1))).length) 0 U sm) H1 U dc U)<|bh 1 U<|RK Ci<|WS fun _ Ck=>rP 2 [] I ?_
 refine cX (xe r kA kC cA cC bA bC slA slC drA drC heA heC f ((cU r).length) g G v (ay r) x (by exact Di) (by exact yR (aT hx)) om) (a_ [13,16]) U fun Id KU=>?_
 obtain ⟨Fd,GT⟩:=Id
 try dsimp only
 refine rP 2 [] I ?_
 refine cX (xe (bX.mk r.ar r.aU r.bV r.iP (fU r.aB h i t)) L S M T N AA O V P W R X FS ((cU (iQ r h i t)).length) Fa p s (ay (iQ r h i t)) x (by exact Do) (by exact fun q=>by have:=Gt E x; rw [q] at this; exact yR (aT hx) (Option.not_isSome_iff_eq_none.1 (by rw [← this]; decide))) om) (a_ [2,5]) U fun If Kf=>?_
 obtain ⟨Fn,Go⟩:=If
 try dsimp only
 refine rS (CL (H0 (dq (ay r) x (au (ay r) x)) Fd GT (dq (ay (iQ r h i t)) x (au (ay (iQ r h i t)) x)) Fn Go (by exact Nat.le_trans ur om) (by exact Nat.le_trans ur om)) (al (ag (n:=(dq (ay r) x (au (ay r) x)).length) 1 U sm)<|al (ag (n:=(dq (ay (iQ r h i t)) x (au (ay (iQ r h i t)) x)).length) 0 U sm)<|aD) U)<|rP 1 [] I ?_
 refine RK Ck<|bT U (bp fun H=>?_) (bq fun H=>?_)
 ·refine cr<|aF<|KK b<|an<|rP 1 [] I ?_
  have C2:(cV ((ay r).map (·.1))).length≤5:=by rw [fO,List.length_map]; exact F
  refine rP 1 [] I ?_
  refine aG ?_
  rw [show (((cV ((ay r).map (·.1))).take k).filter (fun u=> !decide (dq (ay r) u (au (ay r) u)=dq (ay (iQ r h i t)) u (au (ay (iQ r h i t)) u))))=(((cV ((ay r).map (·.1))).take (k+1)).filter (fun u=> !decide (dq (ay r) u (au (ay r) u)=dq (ay (iQ r h i t)) u (au (ay (iQ r h i t)) u)))) from (By hx (by simpa using H)).symm]
  have Cx:(vI (((k+1):Nat):Int))=(vI ((k:Int)+1)):=by exact cI om
  refine bg (Y ⟨((k+1),a,c),(by first|omega|(simp only []; omega))⟩ _ _ _ U (by first|omega|(dsimp only; omega)) (dx 5<|bG U Cx<|ee.nil _) (aK [2,3,4,5,6,7,8,9,10,11,12,13,14,15,16,17,18,19,20,21,22,23,24,25,26,27,28]))
 refine an<|rP 2 [] I ?_
 refine cH (xs:=[.tmp 62]) (cs:=[(vI x)]) U cy hE U U U U (by simp [Value.cells]) U U fun K5=>?_
 refine ei (es2:=(List.map iC (((cV ((ay r).map (·.1))).take (k+1)).filter (fun u=> !decide (dq (ay r) u (au (ay r) u)=dq (ay (iQ r h i t)) u (au (ay (iQ r h i t)) u)))))) (m':=(((cV ((ay r).map (·.1))).take (k+1)).filter (fun u=> !decide (dq (ay r) u (au (ay r) u)=dq (ay (iQ r h i t)) u (au (ay (iQ r h i t)) u)))).length) 29 U U U rF U U sm (aV (es:=List.map iC [x]) 0 U U (by simp [bu]) U) (ly _) os (by simp only [maxLen]; first|omega|(simp; omega)) (by rw [ti hx (by simpa using H)]; simp) (by rw [ti hx (by simpa using H)]; simp) U fun F2 Gy=>?_
 try dsimp only
 refine bh 1 U<|aG<|aF<|KK b<|an<|rP 1 [] I ?_
 have C2:(cV ((ay r).map (·.1))).length≤5:=by rw [fO,List.length_map]; exact F
 refine rP 1 [] I ?_
 refine aG ?_
 have Cu:(vI (((k+1):Nat):Int))=(vI ((k:Int)+1)):=by exact cI om
 refine bg (Y ⟨((k+1),F2,Gy),(by first|omega|(simp only []; omega))⟩ _ _ _ U (by first|omega|(dsimp only; omega)) (dx 5<|bG U Cu<|ee.nil _) (aK [3,4,5,6,7,8,9,10,11,12,13,14,15,16,17,18,19,20,21,22,23,24,25,26,27,28,29]))
end
section
open Go.RowKit
theorem kP (x y:Int):
 dR Tryz.prog 30 [(vI x),(vI y)] [] (vA (aa.cells (aa.mk x y))):=by
 refine bE kr Tryz.func30 U U fun D Q hQ hN=>?_
 try dsimp only
 refine WS fun _ A=>AL U dk fun C=>RK A<|WS fun _ B=>rP 2 [] I ?_
 refine rS (SX (aZ (xs:=[(0,.tmp 5),(1,.tmp 6)]) (cs:=(aa.cells (aa.mk x y))) U U (bf gR U)) U U)<|fG U cx U<|RK B<|ao ?_
 exact HH hQ [0] (mc 0 U I) U U
theorem xH (x:Int):
 dR Tryz.prog 106 [(vI x)] [] (vA (ck.cells (ck.mk 0 (aa.mk x x)))):=by
 refine bE kr Tryz.func106 U U fun D Q hQ hN=>?_
 try dsimp only
 refine WS fun _ A=>AL U zd fun C=>RK A<|WS fun _ B=>rP 2 [] I ?_
 refine rS (CL (kP x x) (aD) U)<|rS (SX (aZ (xs:=[(1,.tmp 5)]) (cs:=(ck.cells (ck.mk 0 (aa.mk x x)))) U U (bf Mu U)) U U)<|fG U GK U<|RK B<|ao ?_
 exact HH hQ [0] (mc 0 U I) U U
theorem oU (x y:Int):
 dR Tryz.prog 68 [(vI x),(vI y)] [] (vA (br.cells (br.mk false true (aa.mk x y) (eC.mk 0 0 (bk.mk none 0 0))))):=by
 refine bE kr Tryz.func68 U U fun D Q hQ hN=>?_
 try dsimp only
 refine WS fun _ A=>AL U GS fun C=>RK A<|WS fun _ B=>rP 2 [] I ?_
 refine rS (CL (kP x y) (aD) U)<|rS (SX (aZ (xs:=[(1,.const (vB true)),(2,.tmp 7)]) (cs:=(br.cells (br.mk false true (aa.mk x y) (eC.mk 0 0 (bk.mk none 0 0))))) U U (bf FV U)) U U)<|fG U LB U<|RK B<|ao ?_
 exact HH hQ [0] (mc 0 U I) U U
theorem JE:
 lq Tryz.prog 66 [] [] (fun (x:(OA)×Nat×(OA)×Nat×(List RA)×(OA)×Nat)=>(vA (cu.cells (cu.mk (bD.mk (bk.mk x.1 aI.ar.aN.length x.2.1)) aI.ar.gN (bk.mk x.2.2.1 aI.ar.ak.length x.2.2.2.1) (bk.mk x.2.2.2.2.2.1 aI.ar.ab.length x.2.2.2.2.2.2) aI.ar.bS aI.ar.e7 aI.ar.dZ)))) (fun (x:(OA)×Nat×(OA)×Nat×(List RA)×(OA)×Nat)=>x.2.2.2.2.1.length=aI.ar.ak.length∧eA aI.ar x.2.2.2.2.1) (fun (x:(OA)×Nat×(OA)×Nat×(List RA)×(OA)×Nat)=>[(own x.1 x.2.1 153 9 (aI.ar.aN.map ai.cells)),(own x.2.2.1 x.2.2.2.1 53 2 (List.zipWith av.cells aI.ar.ak x.2.2.2.2.1)),(bB (aX av.owns aI.ar.ak x.2.2.2.2.1)),(own x.2.2.2.2.2.1 x.2.2.2.2.2.2 160 4 (aI.ar.ab.map bM.cells))]):=by
 refine de kr Tryz.func66 U U fun AA Q hQ hN=>?_
 try dsimp only
 refine WS fun _ E=>AL U OU fun H=>RK E<|WS fun _ F=>bh 1 U<|RK F<|WS fun _ G=>rS (CL (kP 10000 10200) (aD) U)<|rS (CL (kP 0 100) (aD) U)<|rS (SX (aZ (xs:=[(0,.const (vI 1)),(1,.tmp 2),(2,.tmp 3)]) (cs:=(ai.cells (ai.mk 1 (aa.mk 10000 10200) (aa.mk 0 100) (aa.mk 0 0) 0 0))) U U (bf NA U)) U U)<|cH (xs:=[.tmp 4]) (cs:=(ai.cells (ai.mk 1 (aa.mk 10000 10200) (aa.mk 0 100) (aa.mk 0 0) 0 0))) U uU Cb U U U U (by simp [Value.cells,ai.aO]) U U fun B=>rS (SX (aZ (xs:=[(0,.tmp 5)]) (cs:=(bD.cells (bD.mk (bk.mk (some ⟨B,0,none⟩) 1 1)))) U U (bf PS U)) U U)<|rS (CL (kP 0 2) (aD) U)<|rS (SX (aZ (xs:=[(0,.const (vI 0)),(1,.tmp 7)]) (cs:=(cv.cells (cv.mk 0 (aa.mk 0 2)))) U U (bf ML U)) U U)<|rS (CL (kP 5 6) (aD) U)<|rS (SX (aZ (xs:=[(0,.const (vI 100000)),(1,.tmp 9)]) (cs:=(cv.cells (cv.mk 100000 (aa.mk 5 6)))) U U (bf ML U)) U U)<|cH (xs:=[.tmp 8,.tmp 10]) (cs:=((cv.cells (cv.mk 0 (aa.mk 0 2)))++(cv.cells (cv.mk 100000 (aa.mk 5 6))))) U uX xd U U U U (by simp [Value.cells,cv.aO]) U U fun A=>rS (SX (aZ (xs:=[(0,.const (vI 100)),(1,.tmp 11)]) (cs:=(dn.cells (dn.mk 100 (bk.mk (some ⟨A,0,none⟩) 2 2)))) U U (bf Py U)) U U)<|cH (xs:=[.tmp 12]) (cs:=(dn.cells (dn.mk 100 (bk.mk (some ⟨A,0,none⟩) 2 2)))) U xU L3 U U U U (by simp [Value.cells,dn.aO]) U U fun C=>bh 1 U<|rS (CL (xH 1000) (aD) U)<|rS (SX (aZ (xs:=[(0,.tmp 15)]) (cs:=(bM.cells (bM.mk (ck.mk 0 (aa.mk 1000 1000)) 0))) U U (bf E6 U)) U U)<|bh 1 U<|rS (CL (xH 4000) (aD) U)<|rS (SX (aZ (xs:=[(0,.tmp 18)]) (cs:=(bM.cells (bM.mk (ck.mk 0 (aa.mk 4000 4000)) 0))) U U (bf E6 U)) U U)<|rP 1 [] I ?_
 refine rS (CL (xH 9000) (aD) U)<|rS (SX (aZ (xs:=[(0,.tmp 21)]) (cs:=(bM.cells (bM.mk (ck.mk 0 (aa.mk 9000 9000)) 0))) U U (bf E6 U)) U U)<|cH (xs:=[.tmp 16,.tmp 19,.tmp 22]) (cs:=((bM.cells (bM.mk (ck.mk 0 (aa.mk 1000 1000)) 0))++(bM.cells (bM.mk (ck.mk 0 (aa.mk 4000 4000)) 0))++(bM.cells (bM.mk (ck.mk 0 (aa.mk 9000 9000)) 0)))) U tj Oc U U U U (by simp [Value.cells,bM.aO]) U U fun D=>rS (SX (aZ (xs:=[(0,.tmp 6),(1,.const (vI 2000)),(4,.const (vI 1)),(5,.const (vI 1)),(6,.const (vI 1)),(2,.tmp 13),(3,.tmp 23)]) (cs:=(cu.cells (cu.mk (bD.mk (bk.mk (some ⟨B,0,none⟩) 1 1)) 2000 (bk.mk (some ⟨C,0,none⟩) 1 1) (bk.mk (some ⟨D,0,none⟩) 3 3) 1 1 1))) U U (bf Pe U)) U U) ?_
 refine dg (es:=(aI.ar.aN.map ai.cells)) (C':=[_,_,_,(own (some ⟨B,0,none⟩) 1 153 9 (aI.ar.aN.map ai.cells)),_]) 3 U (j6 ai.aO _) U (by show _≤maxLen; exact Nat.le_trans (m:=10) (show (1:Nat)≤10 by decide) dc) U ?_
 refine dg (es:=(uW.bj.map cv.cells)) (C':=[_,_,(own (some ⟨A,0,none⟩) 2 55 3 (uW.bj.map cv.cells)),_,_]) 2 U (j6 cv.aO _) U (by show _≤maxLen; exact Nat.le_trans (m:=10) (show (2:Nat)≤10 by decide) dc) U ?_
 refine dg (es:=(List.zipWith av.cells aI.ar.ak [((some ⟨A,0,none⟩),2)])) (C':=[_,(own (some ⟨C,0,none⟩) 1 53 2 (List.zipWith av.cells aI.ar.ak [((some ⟨A,0,none⟩),2)])),_,_,_]) 1 U (by intro x hx; change x∈[av.cells uW ((some ⟨A,0,none⟩),2)] at hx; rw [bJ.1 hx]; rfl) U (by show _≤maxLen; exact Nat.le_trans (m:=10) (show (1:Nat)≤10 by decide) dc) U ?_
 refine dg (es:=(aI.ar.ab.map bM.cells)) (C':=[(own (some ⟨D,0,none⟩) 3 160 4 (aI.ar.ab.map bM.cells)),_,_,_,_]) 0 U (j6 bM.aO _) U (by show _≤maxLen; exact Nat.le_trans (m:=10) (show (3:Nat)≤10 by decide) dc) U ?_
 refine G5<|N0 (X:=[]) (X':=aX av.owns aI.ar.ak [((some ⟨A,0,none⟩),2)]) 0 3 U U U<|Me U Ph U<|RK G<|ao ?_
 refine LX hQ ((some ⟨B,0,none⟩),1,(some ⟨C,0,none⟩),1,[((some ⟨A,0,none⟩),2)],(some ⟨D,0,none⟩),3) [3,2,0,1] [0] (mc 4 U I) U (by simp only [eo,List.all_nil,fw,Bool.and_true]; rfl) U U ?_
 exact ⟨U,ND 1 dc⟩
theorem IC:
 lq Tryz.prog 67 [] [] (fun (x:(OA)×Nat)=>(vA (eC.cells (eC.mk lx.Start lx.iL (bk.mk x.1 lx.aj.length x.2))))) (fun (x:(OA)×Nat)=>True) (fun (x:(OA)×Nat)=>[(own x.1 x.2 107 2 (lx.aj.map aH.cells))]):=by
 refine de kr Tryz.func67 U U fun E Q hQ hN=>?_
 try dsimp only
 refine WS fun _ B=>AL U Pm fun D=>RK B<|WS fun _ C=>rS (SX (aZ (xs:=[(0,.const (vI 0)),(1,.const (vI 10600))]) (cs:=(aH.cells (aH.mk 0 10600))) U U (bf zl U)) U U)<|rS (SX (aZ (xs:=[(0,.const (vI 0)),(1,.const (vI 11000))]) (cs:=(aH.cells (aH.mk 0 11000))) U U (bf zl U)) U U)<|rS (SX (aZ (xs:=[(0,.const (vI 1)),(1,.const (vI 12600))]) (cs:=(aH.cells (aH.mk 1 12600))) U U (bf zl U)) U U)<|cH (xs:=[.tmp 1,.tmp 2,.tmp 3]) (cs:=((aH.cells (aH.mk 0 10600))++(aH.cells (aH.mk 0 11000))++(aH.cells (aH.mk 1 12600)))) U Jj yW U U U U (by simp [Value.cells,aH.aO]) U U fun A=>rS (SX (aZ (xs:=[(0,.const (vI 10000)),(1,.const (vI 20000)),(2,.tmp 4)]) (cs:=(eC.cells (eC.mk 10000 20000 (bk.mk (some ⟨A,0,none⟩) 3 3)))) U U (bf PR U)) U U)<|dg (es:=(lx.aj.map aH.cells)) (C':=[(own (some ⟨A,0,none⟩) 3 107 2 (lx.aj.map aH.cells)),_]) 0 U (j6 aH.aO _) U dc U<|sD U OB U<|RK C<|ao<|LX hQ ((some ⟨A,0,none⟩),3) [0] [0] (mc 1 U I) U U U U ?_
 trivial
end
section
open Go.RowKit
theorem iF:
 lq Tryz.prog 28 [] [] (fun (x:(OA)×Nat×(OA)×Nat×(List RA)×(OA)×Nat×(OA)×Nat×(OA)×Nat×(OA)×Nat×(List cL))=>(vA (cw.cells (cw.mk (cu.mk (bD.mk (bk.mk x.1 aI.ar.aN.length x.2.1)) aI.ar.gN (bk.mk x.2.2.1 aI.ar.ak.length x.2.2.2.1) (bk.mk x.2.2.2.2.2.1 aI.ar.ab.length x.2.2.2.2.2.2.1) aI.ar.bS aI.ar.e7 aI.ar.dZ) (bk.mk x.2.2.2.2.2.2.2.1 aI.aU.length x.2.2.2.2.2.2.2.2.1) (bk.mk x.2.2.2.2.2.2.2.2.2.1 aI.bV.length x.2.2.2.2.2.2.2.2.2.2.1) aI.iP (bk.mk x.2.2.2.2.2.2.2.2.2.2.2.1 aI.aB.length x.2.2.2.2.2.2.2.2.2.2.2.2.1))))) (fun (x:(OA)×Nat×(OA)×Nat×(List RA)×(OA)×Nat×(OA)×Nat×(OA)×Nat×(OA)×Nat×(List cL))=>eF aI x.2.2.2.2.1 x.2.2.2.2.2.2.2.2.2.2.2.2.2∧x.2.2.2.2.1.length=aI.ar.ak.length∧qE aI.aB x.2.2.2.2.2.2.2.2.2.2.2.2.2) (fun (x:(OA)×Nat×(OA)×Nat×(List RA)×(OA)×Nat×(OA)×Nat×(OA)×Nat×(OA)×Nat×(List cL))=>[(own x.1 x.2.1 153 9 (aI.ar.aN.map ai.cells)),(own x.2.2.1 x.2.2.2.1 53 2 (List.zipWith av.cells aI.ar.ak x.2.2.2.2.1)),(bB (aX av.owns aI.ar.ak x.2.2.2.2.1)),(own x.2.2.2.2.2.1 x.2.2.2.2.2.2.1 160 4 (aI.ar.ab.map bM.cells)),(own x.2.2.2.2.2.2.2.1 x.2.2.2.2.2.2.2.2.1 3 1 (aI.aU.map iC)),(own x.2.2.2.2.2.2.2.2.2.1 x.2.2.2.2.2.2.2.2.2.2.1 3 1 (aI.bV.map iC)),(own x.2.2.2.2.2.2.2.2.2.2.2.1 x.2.2.2.2.2.2.2.2.2.2.2.2.1 56 1 (List.zipWith cR aI.aB x.2.2.2.2.2.2.2.2.2.2.2.2.2)),(bB (aX im aI.aB x.2.2.2.2.2.2.2.2.2.2.2.2.2))]):=by
 refine de kr Tryz.func28 U U fun Y Q hQ hN=>?_
 try dsimp only
 refine WS fun _ P=>AL U xb fun X=>RK P<|WS fun _ R=>cX JE (aD) U fun W T=>?_
 obtain ⟨J,M,K,N,L,E,F⟩:=W
 try dsimp only
 obtain ⟨S,O⟩:=T
 refine cH (xs:=[.const (vI 4),.const (vI 7),.const (vI 9)]) (cs:=[(vI 4),(vI 7),(vI 9)]) U cy hE U U U U (by simp [Value.cells]) U U fun G=>cH (xs:=[.const (vI 2),.const (vI 0),.const (vI 1)]) (cs:=[(vI 2),(vI 0),(vI 1)]) U cy hE U U U U (by simp [Value.cells]) U U fun H=>cX IC (aD) U fun AA V=>?_
 obtain ⟨A,B⟩:=AA
 try dsimp only
 refine rS (SX (aZ (xs:=[(3,.tmp 4)]) (cs:=(br.cells (br.mk false false (aa.mk 0 0) (eC.mk lx.Start lx.iL (bk.mk A lx.aj.length B))))) U U (bf FV U)) U U)<|rS (CL (oU 2600 2600) (aD) U)<|rS (CL (oU 2580 2609) (aD) U)<|cH (xs:=[.tmp 5,.tmp 6,.tmp 7]) (cs:=((br.cells (br.mk false false (aa.mk 0 0) (eC.mk lx.Start lx.iL (bk.mk A lx.aj.length B))))++(br.cells (br.mk false true (aa.mk 2600 2600) (eC.mk 0 0 (bk.mk none 0 0))))++(br.cells (br.mk false true (aa.mk 2580 2609) (eC.mk 0 0 (bk.mk none 0 0)))))) U uS GS U U U U (by simp [Value.cells,br.aO]) U U fun C=>rS (CL (oU 2555 2559) (aD) U)<|rS (CL (oU 2540 2549) (aD) U)<|rS (CL (oU 2570 2575) (aD) U)<|cH (xs:=[.tmp 9,.tmp 10,.tmp 11]) (cs:=((br.cells (br.mk false true (aa.mk 2555 2559) (eC.mk 0 0 (bk.mk none 0 0))))++(br.cells (br.mk false true (aa.mk 2540 2549) (eC.mk 0 0 (bk.mk none 0 0))))++(br.cells (br.mk false true (aa.mk 2570 2575) (eC.mk 0 0 (bk.mk none 0 0)))))) U uS GS U U U U (by simp [Value.cells,br.aO]) U U fun D=>cH (xs:=[.tmp 8,.tmp 12]) (cs:=[(vS (some ⟨C,0,none⟩) 3 3),(vS (some ⟨D,0,none⟩) 3 3)]) U sH No U U U U (by simp [Value.cells]) U U fun AB=>rS (SX (aZ (xs:=[(0,.tmp 1),(1,.tmp 2),(2,.tmp 3),(3,.const (vI 2)),(4,.tmp 13)]) (cs:=(cw.cells (cw.mk (cu.mk (bD.mk (bk.mk J aI.ar.aN.length M)) aI.ar.gN (bk.mk K aI.ar.ak.length N) (bk.mk E aI.ar.ab.length F) aI.ar.bS aI.ar.e7 aI.ar.dZ) (bk.mk (some ⟨G,0,none⟩) 3 3) (bk.mk (some ⟨H,0,none⟩) 3 3) 2 (bk.mk (some ⟨AB,0,none⟩) 2 2)))) U U (bf AH U)) U U) ?_
 refine dg (es:=(aI.aU.map iC)) (C':=[_,_,_,_,_,(own (some ⟨G,0,none⟩) 3 3 1 (aI.aU.map iC)),_,_,_,_,_]) 5 U (j6 bu _) U (by show _≤maxLen; exact Nat.le_trans (m:=10) (show (3:Nat)≤10 by decide) dc) U ?_
 refine dg (es:=(aI.bV.map iC)) (C':=[_,_,_,_,(own (some ⟨H,0,none⟩) 3 3 1 (aI.bV.map iC)),_,_,_,_,_,_]) 4 U (j6 bu _) U (by show _≤maxLen; exact Nat.le_trans (m:=10) (show (3:Nat)≤10 by decide) dc) U ?_
 refine dg (es:=(List.zipWith aw.cells NB [(A,B),(none,0),(none,0)])) (C':=[_,_,(own (some ⟨C,0,none⟩) 3 62 7 (List.zipWith aw.cells NB [(A,B),(none,0),(none,0)])),_,_,_,_,_,_,_,_]) 2 U (kZ wP) U (by show _≤maxLen; exact Nat.le_trans (m:=10) (show (3:Nat)≤10 by decide) dc) U ?_
 refine dg (es:=(List.zipWith aw.cells Mx [(none,0),(none,0),(none,0)])) (C':=[_,(own (some ⟨D,0,none⟩) 3 62 7 (List.zipWith aw.cells Mx [(none,0),(none,0),(none,0)])),_,_,_,_,_,_,_,_,_]) 1 U (kZ wP) U (by show _≤maxLen; exact Nat.le_trans (m:=10) (show (3:Nat)≤10 by decide) dc) U ?_
 refine dg (es:=(List.zipWith cR aI.aB [(((some ⟨C,0,none⟩),3),[(A,B),(none,0),(none,0)]),(((some ⟨D,0,none⟩),3),[(none,0),(none,0),(none,0)])])) (C':=[(own (some ⟨AB,0,none⟩) 2 56 1 (List.zipWith cR aI.aB [(((some ⟨C,0,none⟩),3),[(A,B),(none,0),(none,0)]),(((some ⟨D,0,none⟩),3),[(none,0),(none,0),(none,0)])])),_,_,_,_,_,_,_,_,_,_]) 0 U (kZ yq) U (by show _≤maxLen; exact Nat.le_trans (m:=10) (show (2:Nat)≤10 by decide) dc) U ?_
 refine dY 107 2<|dY 107 2<|dY 107 2<|dY 107 2<|dY 107 2<|rj (aX im aI.aB [(((some ⟨C,0,none⟩),3),[(A,B),(none,0),(none,0)]),(((some ⟨D,0,none⟩),3),[(none,0),(none,0),(none,0)])]) [7,8,0,1,6,2,3,4] [5,9,10,11,12,13,14,15] U U<|Qb U pU U<|RK R<|ao ?_
 refine LX hQ (J,M,K,N,L,E,F,(some ⟨G,0,none⟩),3,(some ⟨H,0,none⟩),3,(some ⟨AB,0,none⟩),2,[(((some ⟨C,0,none⟩),3),[(A,B),(none,0),(none,0)]),(((some ⟨D,0,none⟩),3),[(none,0),(none,0),(none,0)])]) [4,5,6,7,3,2,1,0] [0] (mc 8 U I) U (by show List.all _ _=true; simp only [eo,List.all_nil,fw,jB,Bool.and_true]; rfl) U U ?_
 exact ⟨KG O Gf,S,Gf⟩
end
section
open Go.RowKit
theorem G_ (a b:Int) (m:gG) (gm g1:Nat) (hb: ∀ p∈m,0≤p.2.Lo∧p.2.Lo≤p.2.Hi∧p.2.Hi≤30000000):
 dR Tryz.prog 43 [(vI a),(vI b),(vP g1)] [(gQ iV gm (bK dm m)),(bQ g1 40 [(Value.map (some gm))])] (vI ((au m a).Hi-(au m b).Hi)):=by
 have A:=fZ (i:=a) hb
 have B:=fZ (i:=b) hb
 refine bE kr Tryz.func43 U U fun E Q hQ hN=>?_
 try dsimp only
 refine WS fun _ C=>bh 1 U<|RK C<|WS fun _ D=>fr 2 [] (mr 1 U I) U<|rS (SX (jW (kV:=iV) (x:=a) (l:=m) (f:=dm) (z:=(aa.mk 0 0)) U U U lP (dJ og) uh (by exact j4 0 U)) U U)<|rS (SX (lR (v:=(vI (((List.lookup a m).getD (aa.mk 0 0)).Hi))) U U fB AP U) U U)<|rP 2 [] (mr 1 U I) ?_
 refine rS (SX (jW (kV:=iV) (x:=b) (l:=m) (f:=dm) (z:=(aa.mk 0 0)) U U U lP (dJ og) uh (by exact j4 0 U)) U U)<|rS (SX (lR (v:=(vI (((List.lookup b m).getD (aa.mk 0 0)).Hi))) U U fB AP U) U U) ?_
 unfold au at A B
 simp only [dC] at A B
 refine rP 2 [] I ?_
 refine RK D<|ao ?_
 exact Q1 hQ U U U U
theorem HY (heatX:Int) (r:bX) (kA:OA) (kC:Nat) (az:List RA) (cA:OA) (cC:Nat) (bA:OA) (bC:Nat) (slA:OA) (slC:Nat) (drA:OA) (drC:Nat) (ha:List cL) (heA:OA) (heC:Nat) (hin:eF r az ha):
 lq Tryz.prog 9 [(vA (cw.cells (oi r kA kC cA cC bA bC slA slC drA drC heA heC))),(vI heatX)] [(rd eB 3 2 dE),(rd kA r.ar.aN.length 9 (r.ar.aN.map ai.cells)),(rd cA r.ar.ak.length 2 (List.zipWith av.cells r.ar.ak az)),(eY (aX av.ja r.ar.ak az)),(rd bA r.ar.ab.length 4 (r.ar.ab.map bM.cells)),(rd slA r.aU.length 1 (r.aU.map iC)),(rd drA r.bV.length 1 (r.bV.map iC)),(rd heA r.aB.length 1 (List.zipWith cR r.aB ha)),(eY (aX jk r.aB ha))] (fun (x:(OA)×Nat)=>(vT [(vS x.1 ((gv r heatX).length) x.2),(vI (g7 r heatX))])) (fun (x:(OA)×Nat)=>True) (fun (x:(OA)×Nat)=>[(own x.1 x.2 3 1 ((gv r heatX).map iC))]):=by
 have Cx:=hin.line
 have G6:=hin.iZ
 have HA:=hin.has
 have Eq:=hin.je
 have A1:=hin.draw
 have A4:=dT (r:=r)
 refine de kr Tryz.func9 U U fun w0 Q hQ hN=>?_
 try dsimp only
 refine WS fun _ Cu=>fY U fun b2=>bh 2 U<|RK Cu<|xf U<|WS fun _ e=>rP 1 [] (mc 0 U I) ?_
 refine cX (lO r kA kC az cA cC bA bC slA slC drA drC ha heA heC hin) (a_ [1,2,3,4,5,6,7,8,9]) U fun y4 A5=>?_
 obtain ⟨A6,GT,Ci,B9,Di,A7,A8⟩:=y4
 cases A6
 ·obtain ⟨A2,he⟩:=A5.2 rfl
  try dsimp only at A2 he
  subst A2
  try dsimp only [cond_true,cond_false,List.cons_append,List.nil_append]
  refine bh 5 U<|RK e<|ah fun _ Ec=>WS fun _ R=>rP 2 [] I ?_
  refine RK R<|bT U (bp fun P=>?_) (bq fun P=>?_)
  ·exact absurd P he
  refine WS fun _ S=>rP 1 [] I ?_
  have A:g7 r heatX=cG r:=Aa he
  have B:gv r heatX=[]:=vk (by rw [A]; exact he)
  refine dY 3 1 ?_
  rw [show (own none 0 3 1 ([]:List (List Value)))=own none 0 3 1 ((gv r heatX).map iC) from by rw [B]; rfl]
  refine rP 2 [] I ?_
  refine RK S<|ao ?_
  refine LX hQ (none,0) [0] [] I U U U ?_ ?_
  ·first|rfl|(rw [A,B]; rfl)|(rw [A]; rfl)|(rw [A,B,jt]; rfl)
  ·trivial
 obtain ⟨he,C1⟩:=A5.1 rfl
 try dsimp only [cond_true,cond_false,List.cons_append,List.nil_append]
 have G:=(jd he).2
 have H1:=G.DU
 have Gy:=G.Ey
 refine bh 5 U<|RK e<|ah fun _ T=>WS fun _ AA=>bh 1 U<|rS (SX (bP (r:= .bool false) U U U l9) U U)<|RK AA<|aS U<|WK T<|ah fun _ V=>WS fun _ W=>rP 4 [] (mc 4 U I) ?_
 refine cH (xs:=[.tmp 25]) (cs:=[(vI heatX)]) U cy hE U U U U (by simp [Value.cells]) U U fun B3=>?_
 refine rS (CL (dR.eq (js 0 (r.aB.length:Int) ([heatX]) (some ⟨B3,0,none⟩) 1 sd) cp) (al (aV 0 U U (by simp [bu]) U)<|aD) U) ?_
 refine rP 1 [] I ?_
 refine RK W<|cM U (bq fun Ck=>?_) (bp fun Ck=>?_)
 ·refine WS fun _ X=>?_
  have A:g7 r heatX=2:=AX he om
  have B:gv r heatX=[]:=vk (by rw [A]; decide)
  refine dY 3 1 ?_
  rw [show (own none 0 3 1 ([]:List (List Value)))=own none 0 3 1 ((gv r heatX).map iC) from by rw [B]; rfl]
  refine rP 2 [] I ?_
  refine RK X<|ao ?_
  refine LX hQ (none,0) [0] [] I U U U ?_ ?_
  ·first|rfl|(rw [A,B]; rfl)|(rw [A]; rfl)|(rw [A,B,jt]; rfl)
  ·trivial
 refine WK V<|ah fun _ Y=>WS fun _ Z=>rP 2 [] I ?_
 refine RK Z<|cM U (aQ fun D=>?_) (aR fun D=>?_)
 ·refine WS fun _ b=>rP 2 [] (mc 5 U I) ?_
  refine cX (sV r.bV drA drC sd) (a_ [12]) U fun EQ FS=>?_
  obtain ⟨N,O⟩:=EQ
  try dsimp only
  have A:g7 r heatX=0:=vr he om
  have B:gv r heatX=r.bV:=si A D
  rw [show (own N O 3 1 (r.bV.map iC))=(own N O 3 1 ((gv r heatX).map iC)) from by rw [si A D]]
  refine rP 2 [] I ?_
  refine RK b<|ao ?_
  refine LX hQ (N,O) [0] [] I U U U ?_ ?_
  ·first|rfl|(rw [A,B]; rfl)|(rw [A]; rfl)|(rw [A,B,jt]; rfl)
  ·trivial
 refine WK Y<|WS fun _ d=>?_
 obtain ⟨n,rfl⟩: ∃ n:Nat,heatX=(n:Int):=⟨heatX.toNat,om⟩
 refine rP 2 [] I ?_
 refine cX (Ki r kA kC az cA cC bA bC slA slC drA drC ha heA heC A8 Di A7 (Value.map (some B9)) Ci n hin om sd (by exact G.w9)) (kf [7,8,9,10,11,12,13,14]<|al (ag (n:=(cU r).length) 2 U (lK (by rw [A4]; exact C1)))<|al (cW 3 U qC)<|eL 1 U U<|aD) U fun C Fa=>?_
 try dsimp only
 refine AL U Og fun AB=>CW U Hh U U<|RK d<|WS fun _ g=>bh 1 U<|RK g<|ah fun _ h=>wG<|KK h<|ah fun _ j=>WS fun _ k=>rP 4 [] (mc 7 U I) ?_
 refine RK k<|aA<|gI 3 1 ?_
 have F:(0≤r.bV.length):=by exact Nat.zero_le _
 refine bR (ι:={z:Nat×(OA)×Nat // (z.1≤r.bV.length)}) [1,2,6,8,38,39] [1,2,5,6,7,8,9,10,11,12,13,14,15,16,17] U U (fun z=>[(9,(vS z.1.2.1 (((r.bV.take z.1.1).filter fun u=>(List.lookup u (dV r n)).isSome).length) z.1.2.2)),(40,(vI (z.1.1:Int)))]) (fun z=>[(own z.1.2.1 z.1.2.2 3 1 (((r.bV.take z.1.1).filter fun u=>(List.lookup u (dV r n)).isSome).map iC))]) (fun _=>rfl) (fun _=>rfl) (fun z=>r.bV.length-z.1.1) ⟨(0,none,0),F⟩ (aW U) (aK [1,2,5,6,7,8,9,10,11,12,13,14,15,16,17,0]) ?_
 clear F
 rintro ⟨⟨i,a,c⟩,K⟩ J38 L
 try dsimp only at K
 try dsimp only
 refine WS fun _ m=>rP 1 [] I ?_
 refine RK m<|ah fun _ o=>bT U (aR fun Cp=>?_) (aQ fun Cp=>?_)
 ·refine bI<|ae<|ae<|aC<|KK j<|ah fun _ v=>?_
  rw [show r.bV.take i=r.bV from List.take_of_length_le om]
  refine an<|rP 1 [] I ?_
  have C0:=Bz he (show n≤r.aB.length by omega)
  have A3:=Nat.le_trans (List.length_filter_le (fun u=>(List.lookup u (dV r n)).isSome) r.bV) A1
  have Go:(dK (fun u=>(au (dV r n) u).Hi) (r.bV.filter fun u=>(List.lookup u (dV r n)).isSome)).length≤12:=by rw [jF]; exact A3
  refine rS (FU U) ?_
  refine cX (vC (r.bV.filter fun u=>(List.lookup u (dV r n)).isSome) a c (Value.func (.func 43) [].toArray [(vP AB)].toArray) (fun u=>(au (dV r n) u).Hi) (eY [(gQ iV C (bK dm (dV r n))),(bQ AB 40 [(Value.map (some C))])]) (by intro Do D8 _; exact l_ (fi:=[]) (ca:=[(vP AB)]) (kN (G_ Do D8 (dV r n) C AB (by first|assumption|omega)) (a_ [0,1]))) (by exact N5 C0) (by exact A3)) (al (ag (n:=(r.bV.filter fun u=>(List.lookup u (dV r n)).isSome).length) 15 U sm)<|al (kR (a_ [1,0]))<|aD) U fun EY Fd=>?_
  obtain ⟨H,J⟩:=EY
  try dsimp only
  refine bh 1 U<|RK v<|WS fun _ w=>rP 5 [] (mc 6 U I) ?_
  refine rS (MN U)<|EO 0 U fun A0=>?_
  simp only [List.length_map] at A0
  refine rS (OK (((min r.iP (((dK (fun u=>(au (dV r n) u).Hi) (r.bV.filter fun u=>(List.lookup u (dV r n)).isSome)).length:Nat):Int))).toNat) U cy om (by first|omega|exact Nat.zero_le _|(simp; omega))) ?_
  refine iy 0 U U U U (Ea (dK (fun u=>(au (dV r n) u).Hi) (r.bV.filter fun u=>(List.lookup u (dV r n)).isSome)) H J (((min r.iP (((dK (fun u=>(au (dV r n) u).Hi) (r.bV.filter fun u=>(List.lookup u (dV r n)).isSome)).length:Nat):Int))).toNat) om om) U jN U (fun IO Fn=>?_)
  try dsimp only
  refine RK w<|WS fun _ y=>rP 1 [] I ?_
  have A:g7 r (n:Int)=0:=vr he om
  have B:gv r (n:Int)=(pz (((min r.iP (((dK (fun u=>(au (dV r n) u).Hi) (r.bV.filter fun u=>(List.lookup u (dV r n)).isSome)).length:Nat):Int))).toNat) (dK (fun u=>(au (dV r n) u).Hi) (r.bV.filter fun u=>(List.lookup u (dV r n)).isSome))):=by rw [rR A D]; exact (vQ rfl om).symm
  rw [show (own H J 3 1 ((pz (((min r.iP (((dK (fun u=>(au (dV r n) u).Hi) (r.bV.filter fun u=>(List.lookup u (dV r n)).isSome)).length:Nat):Int))).toNat) (dK (fun u=>(au (dV r n) u).Hi) (r.bV.filter fun u=>(List.lookup u (dV r n)).isSome))).map iC))=(own H J 3 1 ((gv r (n:Int)).map iC)) from by rw [rR A D]; exact congrArg (fun z=>own _ _ _ _ (List.map iC z)) (vQ rfl om)]
  refine rP 2 [] I ?_
  refine RK y<|ao ?_
  refine LX hQ (H,J) [0] [] I U U U ?_ ?_
  ·first|rfl|(rw [A,B]; rfl)|(rw [A]; rfl)|(rw [A,B,jt]; rfl)
  ·trivial
 refine WK o<|ah fun _ M=>aA<|WS fun _ p=>?_
 obtain ⟨x,hx⟩:=aM r.bV i om
 have C2:=bW iC hx
 refine rS (IA i U (aJ 12 U) cy dc om om)<|rS (g_ i 0 (vI x) U ct (aJ 12 U) C2 U dc U)<|bh 1 U<|RK p<|ah fun _ q=>WS fun _ s=>fr 2 [] (mc 0 U I) U<|rS (SX (jM (kV:=iV) (x:=x) (l:=(dV r n)) (f:=dm) (z:=(aa.mk 0 0)) U U U lP (dJ og) uh (by exact aJ 1 U)) U U)<|bh 3 U<|AL U dk fun F2=>fG U cx U<|bh 1 U<|RK s<|WS fun _ t=>rP 2 [] I ?_
 refine RK t<|cM U (fun E=>?_) (fun E=>?_)
 ·rw [Bool.not_eq_true'] at E
  refine bI<|ae<|aC<|KK M<|an<|rP 2 [] I ?_
  refine aG ?_
  rw [show ((r.bV.take i).filter fun u=>(List.lookup u (dV r n)).isSome)=((r.bV.take (i+1)).filter fun u=>(List.lookup u (dV r n)).isSome) from (By hx E).symm]
  have AC:(vI (((i+1):Nat):Int))=(vI ((i:Int)+1)):=by exact cI om
  refine bg (L ⟨((i+1),a,c),(by first|omega|(simp only []; omega))⟩ _ _ _ U os (dx 7<|bG U AC<|ee.nil _) (aK [1,2,3,4,5,6,7,8,9,10,11,12,13,14,15,16]))
 rw [Bool.not_eq_false'] at E
 refine WK q<|an<|rP 2 [] I ?_
 refine cH (xs:=[.tmp 53]) (cs:=[(vI x)]) U cy hE U U U U (by simp [Value.cells]) U U fun GE=>?_
 refine ei (es2:=(List.map iC ((r.bV.take (i+1)).filter fun u=>(List.lookup u (dV r n)).isSome))) (m':=((r.bV.take (i+1)).filter fun u=>(List.lookup u (dV r n)).isSome).length) 17 U U U rF U U sm (aV (es:=List.map iC [x]) 0 U U (by simp [bu]) U) (ly _) (by have:=List.length_filter_le (fun u=>(List.lookup u (dV r n)).isSome) (r.bV.take i); rw [List.length_take] at this; first|omega|(simp; omega)) (by have:=List.length_filter_le (fun u=>(List.lookup u (dV r n)).isSome) (r.bV.take i); rw [List.length_take] at this; simp only [maxLen]; first|omega|(simp; omega)) (by rw [ti hx E]; simp) sm U fun A9 B7=>?_
 try dsimp only
 refine bh 1 U<|aG<|aF<|KK M<|an<|rP 2 [] I ?_
 refine aG ?_
 have AO:(vI (((i+1):Nat):Int))=(vI ((i:Int)+1)):=by exact cI om
 refine bg (L ⟨((i+1),A9,B7),(by first|omega|(simp only []; omega))⟩ _ _ _ U os (dx 7<|bG U AO<|ee.nil _) (aK [2,3,4,5,6,7,8,9,10,11,12,13,14,15,16,17]))
end
section
open Go.RowKit
theorem vg (i lo hi:Int) (r:bX) (kA:OA) (kC:Nat) (az:List RA) (cA:OA) (cC:Nat) (bA:OA) (bC:Nat) (slA:OA) (slC:Nat) (drA:OA) (drC:Nat) (ha:List cL) (heA:OA) (heC:Nat) (hin:eF r az ha):
 dR Tryz.prog 32 [(vA (cw.cells (oi r kA kC cA cC bA bC slA slC drA drC heA heC))),(vI i),(vI lo),(vI hi)] [(rd eB 3 2 dE),(rd kA r.ar.aN.length 9 (r.ar.aN.map ai.cells)),(rd cA r.ar.ak.length 2 (List.zipWith av.cells r.ar.ak az)),(eY (aX av.ja r.ar.ak az)),(rd bA r.ar.ab.length 4 (r.ar.ab.map bM.cells)),(rd slA r.aU.length 1 (r.aU.map iC)),(rd drA r.bV.length 1 (r.bV.map iC)),(rd heA r.aB.length 1 (List.zipWith cR r.aB ha)),(eY (aX jk r.aB ha))] (vB (decide (km r i=0∧ql r i=aa.mk lo hi))):=by
 have E:=hin.line
 have AA:=hin.iZ
 have J:=hin.has
 have G:=hin.je
 have F:=hin.draw
 have H:=dT (r:=r)
 refine bE kr Tryz.func32 U U fun M Q hQ hN=>?_
 try dsimp only
 refine WS fun _ C=>fY U fun K=>bh 1 U<|RK C<|WS fun _ D=>fr 2 [] (mc 0 U I) U<|rS (CL (MI i r kA kC az cA cC bA bC slA slC drA drC ha heA heC hin) (a_ [1,2,3,4,5,6,7,8,9]) U)<|bh 3 U<|AL U dk fun L=>fG U cx U<|bh 1 U<|RK D<|ah fun _ B=>dF cE 10 kr<|dP 3 [] I ?_
 refine jL (t:=19) U (aR fun A=>?_) (aQ fun A=>?_)
 ·refine dP 7 [] I ?_
  refine cQ<|RK B<|ao<|Q1 hQ U U U ?_
  first|exact cB (cm fun q=>A q.1).symm|exact cB (gd.2 ⟨fun q=>⟨A,q⟩,fun q=>q.2⟩)
 refine mQ 3 [] (mc 0 U I) U<|dS (CL (kP lo hi) (aD) U)<|dS (BI U (uB _ _ (ql r i) (aa.mk lo hi)))<|dP 2 [] I ?_
 refine cQ<|RK B<|ao<|Q1 hQ U U U ?_
 first|exact cB (cm fun q=>A q.1).symm|exact cB (gd.2 ⟨fun q=>⟨A,q⟩,fun q=>q.2⟩)
theorem vc (i:Int) (want:List Int) (wantA:OA) (wantC:Nat) (r:bX) (kA:OA) (kC:Nat) (az:List RA) (cA:OA) (cC:Nat) (bA:OA) (bC:Nat) (slA:OA) (slC:Nat) (drA:OA) (drC:Nat) (ha:List cL) (heA:OA) (heC:Nat) (hin:eF r az ha) (hwl:want.length≤12):
 dR Tryz.prog 33 [(vA (cw.cells (oi r kA kC cA cC bA bC slA slC drA drC heA heC))),(vI i),(vS wantA want.length wantC)] [(rd wantA want.length 1 (want.map iC)),(rd eB 3 2 dE),(rd kA r.ar.aN.length 9 (r.ar.aN.map ai.cells)),(rd cA r.ar.ak.length 2 (List.zipWith av.cells r.ar.ak az)),(eY (aX av.ja r.ar.ak az)),(rd bA r.ar.ab.length 4 (r.ar.ab.map bM.cells)),(rd slA r.aU.length 1 (r.aU.map iC)),(rd drA r.bV.length 1 (r.bV.map iC)),(rd heA r.aB.length 1 (List.zipWith cR r.aB ha)),(eY (aX jk r.aB ha))] (vB (decide (km r i=0∧iA r i=want))):=by
 have E:=hin.line
 have K:=hin.iZ
 have L:=hin.has
 have G:=hin.je
 have F:=hin.draw
 have H:=dT (r:=r)
 have M:=Ba (r:=r) (i:=i)
 refine bE kr Tryz.func33 U U fun R Q hQ hN=>?_
 try dsimp only
 refine WS fun _ C=>fY U fun P=>bh 1 U<|RK C<|WS fun _ D=>rP 2 [] (mc 0 U I) ?_
 refine cX (JI i r kA kC az cA cC bA bC slA slC drA drC ha heA heC hin) (a_ [2,3,4,5,6,7,8,9,10]) U fun O N=>?_
 obtain ⟨AA,J⟩:=O
 try dsimp only
 refine bh 5 U<|RK D<|WS fun _ B=>rP 3 [] I ?_
 refine cb (t:=17) U (aR fun A=>?_) (aQ fun A=>?_)
 ·refine rP 5 [] I ?_
  refine RK B<|ao<|Q1 hQ U U U ?_
  first|exact cB (cm fun q=>A q.1).symm|exact cB (gd.2 ⟨fun q=>⟨A,q⟩,fun q=>q.2⟩)
 refine bh 2 U<|rS (CL (mG (iA r i) AA J want wantA wantC om om) (al (ag (n:=(iA r i).length) 0 U sm)<|eL 2 U U<|aD) U)<|rP 2 [] I ?_
 refine RK B<|ao<|Q1 hQ U U U ?_
 first|exact cB (cm fun q=>A q.1).symm|exact cB (gd.2 ⟨fun q=>⟨A,q⟩,fun q=>q.2⟩)
theorem v9 (heatX:Int) (want:List Int) (wantA:OA) (wantC:Nat) (hwl:want.length≤12):
 dR Tryz.prog 35 [(vI heatX),(vS wantA want.length wantC)] [(rd eB 3 2 dE),(rd wantA want.length 1 (want.map iC))] (vB (decide (g7 aI heatX=0∧gv aI heatX=want))):=by
 have b:=AR (r:=aI) (h:=heatX) dc
 refine bE kr Tryz.func35 U U fun d Q hQ hN=>?_
 try dsimp only
 refine WS fun _ V=>rP 1 [] I ?_
 refine RK V<|WS fun _ W=>cX iF (aD) U fun c Y=>?_
 obtain ⟨N,S,P,AA,R,C,G,D,H,E,AB,F,J,M⟩:=c
 try dsimp only
 obtain ⟨L,X,K⟩:=Y
 refine rP 1 [] I ?_
 refine cX (HY heatX aI N S R P AA C G D H E AB M F J (by exact L)) (eL 8 U U<|al (ag (n:=aI.ar.aN.length) 0 U sm)<|al (ag (n:=aI.ar.ak.length) 1 U (gD X))<|al (cW 2 U ic)<|al (ag (n:=aI.ar.ab.length) 3 U sm)<|al (ag (n:=aI.aU.length) 4 U sm)<|al (ag (n:=aI.bV.length) 5 U sm)<|al (ag (n:=aI.aB.length) 6 U (eG K.1))<|al (gJ 7 U K)<|aD) U fun Z a=>?_
 obtain ⟨O,T⟩:=Z
 try dsimp only
 refine bh 5 U<|RK W<|WS fun _ B=>rP 3 [] I ?_
 refine cb (t:=15) U (aR fun A=>?_) (aQ fun A=>?_)
 ·refine rP 5 [] I ?_
  refine RK B<|ao<|Q1 hQ U U U ?_
  first|exact cB (cm fun q=>A q.1).symm|exact cB (gd.2 ⟨fun q=>⟨A,q⟩,fun q=>q.2⟩)
 refine bh 2 U<|rS (CL (mG (gv aI heatX) O T want wantA wantC om om) (al (ag (n:=(gv aI heatX).length) 0 U sm)<|eL 10 U U<|aD) U)<|rP 2 [] I ?_
 refine RK B<|ao<|Q1 hQ U U U ?_
 first|exact cB (cm fun q=>A q.1).symm|exact cB (gd.2 ⟨fun q=>⟨A,q⟩,fun q=>q.2⟩)
theorem yO (a b:Int) (x y:Int):
 dR Tryz.prog 34 [(vI a),(vI b),(Value.int .u8 x),(Value.int .u8 y)] [(rd eB 3 2 dE)] (vB (decide (((lk aI a b=0∧qt aI a b=x)∧lk aI a b=0)∧ox aI a b=y))):=by
 refine bE kr Tryz.func34 U U fun w Q hQ hN=>?_
 try dsimp only
 refine WS fun _ p=>rP 1 [] I ?_
 refine RK p<|WS fun _ r=>cX iF (aD) U fun v s=>?_
 obtain ⟨j,m,k,o,l,J,V,L,X,N,Z,P,d,h⟩:=v
 try dsimp only
 obtain ⟨F,G,E⟩:=s
 refine bh 2 U<|rS (CL (yk a b aI j m l k o J V L X N Z h P d (by exact F)) (eL 8 U U<|al (ag (n:=aI.ar.aN.length) 0 U sm)<|al (ag (n:=aI.ar.ak.length) 1 U (gD G))<|al (cW 2 U ic)<|al (ag (n:=aI.ar.ab.length) 3 U sm)<|al (ag (n:=aI.aU.length) 4 U sm)<|al (ag (n:=aI.bV.length) 5 U sm)<|al (ag (n:=aI.aB.length) 6 U (eG E.1))<|al (gJ 7 U E)<|aD) U)<|oR [8] U U<|rP 5 [] I ?_
 refine RK r<|WS fun _ f=>cX iF (aD) U fun u g=>?_
 obtain ⟨H,T,AB,AA,S,K,W,M,Y,O,c,R,e,i⟩:=u
 try dsimp only
 obtain ⟨F,G,E⟩:=g
 refine bh 2 U<|rS (CL (Lj a b aI H T S AB AA K W M Y O c i R e (by exact F)) (eL 8 U U<|al (ag (n:=aI.ar.aN.length) 0 U sm)<|al (ag (n:=aI.ar.ak.length) 1 U (gD G))<|al (cW 2 U ic)<|al (ag (n:=aI.ar.ab.length) 3 U sm)<|al (ag (n:=aI.aU.length) 4 U sm)<|al (ag (n:=aI.bV.length) 5 U sm)<|al (ag (n:=aI.aB.length) 6 U (eG E.1))<|al (gJ 7 U E)<|aD) U)<|bh 5 U<|RK f<|WS fun _ D=>rP 3 [] I ?_
 refine cb (t:=29) U (aR fun A=>?_) (aQ fun A=>?_)
 ·refine rP 14 [] I ?_
  refine RK D<|ao<|Q1 hQ U U U ?_
  first|exact cB (cm fun q=>A q.1.1.1).symm|exact cB (cm fun q=>B q.1.1.2).symm|exact cB (cm fun q=>C q.1.2).symm|exact cB (gd.2 ⟨fun q=>⟨⟨⟨A,B⟩,C⟩,q⟩,fun q=>q.2⟩)
 refine bh 2 U<|rS (BI U jX)<|rP 2 [] I ?_
 refine cb (t:=34) U (aR fun B=>?_) (aQ fun B=>?_)
 ·refine rP 9 [] I ?_
  refine RK D<|ao<|Q1 hQ U U U ?_
  first|exact cB (cm fun q=>A q.1.1.1).symm|exact cB (cm fun q=>B q.1.1.2).symm|exact cB (cm fun q=>C q.1.2).symm|exact cB (gd.2 ⟨fun q=>⟨⟨⟨A,B⟩,C⟩,q⟩,fun q=>q.2⟩)
 refine rP 4 [] I ?_
 refine cb (t:=38) U (aR fun C=>?_) (aQ fun C=>?_)
 ·refine rP 5 [] I ?_
  refine RK D<|ao<|Q1 hQ U U U ?_
  first|exact cB (cm fun q=>A q.1.1.1).symm|exact cB (cm fun q=>B q.1.1.2).symm|exact cB (cm fun q=>C q.1.2).symm|exact cB (gd.2 ⟨fun q=>⟨⟨⟨A,B⟩,C⟩,q⟩,fun q=>q.2⟩)
 refine bh 2 U<|rS (BI U jX)<|rP 2 [] I ?_
 refine RK D<|ao<|Q1 hQ U U U ?_
 first|exact cB (cm fun q=>A q.1.1.1).symm|exact cB (cm fun q=>B q.1.1.2).symm|exact cB (cm fun q=>C q.1.2).symm|exact cB (gd.2 ⟨fun q=>⟨⟨⟨A,B⟩,C⟩,q⟩,fun q=>q.2⟩)
end
section
open Go.RowKit
theorem Er:
 dR Tryz.prog 7 [] [(rd eB 3 2 dE)] (vB true):=by
 have FS:=rQ (r:=aI)
 have Di:=rQ (r:=kh)
 have UH:=yx (r:=aI) (h:=0) (i:=2) (t:=aa.mk 2590 2599)
 have UG:aI.aU.length=3:=rfl
 refine bE kr Tryz.func7 U U fun w0 Q hQ hN=>?_
 try dsimp only
 refine WS fun _ T6=>rP 1 [] I ?_
 refine RK T6<|WS fun _ T7=>cX iF (aD) U fun y3 T9=>?_
 obtain ⟨T1,T4,T2,T5,T3,SU,TD,SZ,TH,Sd,TO,Sh,TS,Tr⟩:=y3
 try dsimp only
 obtain ⟨A,F,B⟩:=T9
 refine rS (CL (FH 0 0 aI T1 T4 T3 T2 T5 SU TD SZ TH Sd TO Tr Sh TS (by exact A)) (eL 8 U U<|al (ag (n:=aI.ar.aN.length) 0 U sm)<|al (ag (n:=aI.ar.ak.length) 1 U (gD F))<|al (cW 2 U ic)<|al (ag (n:=aI.ar.ab.length) 3 U sm)<|al (ag (n:=aI.aU.length) 4 U sm)<|al (ag (n:=aI.bV.length) 5 U sm)<|al (ag (n:=aI.aB.length) 6 U (eG B.1))<|al (gJ 7 U B)<|aD) U)<|bh 1 U<|oR [8] U U<|bh 2 U<|AL U dk fun D8=>fG U cx U<|rP 1 [] I ?_
 refine RK T7<|WS fun _ Tf=>cX iF (aD) U fun T_ Tm=>?_
 obtain ⟨SO,S8,SR,TA,S5,SV,TE,Sa,TI,Se,TP,Si,TU,Ts⟩:=T_
 try dsimp only
 obtain ⟨A,F,B⟩:=Tm
 refine cX (Cs aI SO S8 S5 SR TA SV TE Sa TI Se TP Ts Si TU (by exact A)) (eL 9 U U<|al (ag (n:=aI.ar.aN.length) 0 U sm)<|al (ag (n:=aI.ar.ak.length) 1 U (gD F))<|al (cW 2 U ic)<|al (ag (n:=aI.ar.ab.length) 3 U sm)<|al (ag (n:=aI.aU.length) 4 U sm)<|al (ag (n:=aI.bV.length) 5 U sm)<|al (ag (n:=aI.aB.length) 6 U (eG B.1))<|al (gJ 7 U B)<|aD) U fun UA Tn=>?_
 obtain ⟨a,Cp,Cu⟩:=UA
 try dsimp only
 have SA:=Tn
 have HA:=SA
 refine bh 1 U<|oR [0,1,10,11] U U<|rP 4 [] I ?_
 refine RK Tf<|WS fun _ Tg=>cX iF (aD) U fun UB To=>?_
 obtain ⟨SP,S9,SS,TB,S6,SW,TF,Sb,TK,Sf,TQ,Sj,TV,Tt⟩:=UB
 try dsimp only
 obtain ⟨A,F,B⟩:=To
 refine rS (CL (kP 2590 2599) (aD) U)<|cX (Hc 0 2 (aa.mk 2590 2599) aI SP S9 S6 SS TB SW TF Sb TK Sf TQ Tt Sj TV (by exact A)) (eL 11 U U<|al (ag (n:=aI.ar.aN.length) 0 U sm)<|al (ag (n:=aI.ar.ak.length) 1 U (gD F))<|al (cW 2 U ic)<|al (ag (n:=aI.ar.ab.length) 3 U sm)<|al (ag (n:=aI.aU.length) 4 U sm)<|al (ag (n:=aI.bV.length) 5 U sm)<|al (ag (n:=aI.aB.length) 6 U (eG B.1))<|al (gJ 7 U B)<|aD) U fun UC IF=>?_
 obtain ⟨Tu,UF,G,N,H,O,M,AB,P,J,R,K,S,L,T,AA⟩:=UC
 cases Tu
 ·obtain ⟨Tk,he⟩:=IF.2 rfl
  try dsimp only at Tk he
  subst Tk
  try dsimp only [cond_true,cond_false,List.cons_append,List.nil_append]
  exact absurd yo he
 obtain ⟨Tl,⟨Ey,Tj⟩,Do⟩:=IF.1 rfl
 try dsimp only [cond_true,cond_false,List.cons_append,List.nil_append]
 try dsimp only at Tl Ey Tj Do
 have H1:eF kh _ _:=eF.rep A Ey Tj Do
 refine bh 1 U<|oR [0,1,2,3,4,5,6,7,16,17,18,19] U U<|bh 2 U<|AL U xb fun Cx=>fG U pU U<|bh 1 U<|RK Tg<|WS fun _ Th=>rP 1 [] (mc 0 U I) ?_
 refine cX (Cs kh G N M H O AB P J R K S AA L T (by exact H1)) (eL 12 U U<|al (ag (n:=aI.ar.aN.length) 1 U (by rw [List.length_map]; rfl))<|al (ag (n:=aI.ar.ak.length) 2 U (gD Ey))<|al (cW 3 U ic)<|al (ag (n:=aI.ar.ab.length) 4 U (by rw [List.length_map]; rfl))<|al (ag (n:=aI.aU.length) 5 U (by rw [List.length_map]; rfl))<|al (ag (n:=aI.bV.length) 6 U (by rw [List.length_map]; rfl))<|al (ag (n:=(fU aI.aB 0 2 (aa.mk 2590 2599)).length) 7 U (eG Do.1))<|al (gJ 8 U Do)<|aD) U fun UD Tp=>?_
 obtain ⟨b,B3,B7⟩:=UD
 try dsimp only
 have SA:=Tp
 have Hi:=SA
 refine rP 5 [] I ?_
 refine RK Th<|WS fun _ Ti=>cX iF (aD) U fun UE Tq=>?_
 obtain ⟨SQ,S_,ST,TC,S7,SY,TG,Sc,TL,Sg,TR,Sk,TW,SI⟩:=UE
 try dsimp only
 obtain ⟨A,F,B⟩:=Tq
 refine rS (CL (kP 2590 2599) (aD) U)<|cX (DP 0 2 (aa.mk 2590 2599) aI SQ S_ S7 ST TC SY TG Sc TL Sg TR SI Sk TW (by exact A)) (eL 22 U U<|al (ag (n:=aI.ar.aN.length) 0 U sm)<|al (ag (n:=aI.ar.ak.length) 1 U (gD F))<|al (cW 2 U ic)<|al (ag (n:=aI.ar.ab.length) 3 U sm)<|al (ag (n:=aI.aU.length) 4 U sm)<|al (ag (n:=aI.bV.length) 5 U sm)<|al (ag (n:=aI.aB.length) 6 U (eG B.1))<|al (gJ 7 U B)<|aD) U fun Tv T8=>?_
 obtain ⟨W,Z⟩:=Tv
 try dsimp only
 refine bh 1 U<|oR [0,9,10,11,12,13,14,15,16,17,18,19,20,21,22,23] U U<|rP 4 [] I ?_
 refine RK Ti<|ah fun _ QP=>Hd cE [8,9,10,11,12,13,14,15,16,17,18,19,20,21,22,23,24,25,26,27,28,29,30,31,32,33,34,35,36,37,38,39,40,41,42,43,44,45,46,47,48,49,50,51,52,53,54,55,56,57,58,59,60,61,62,63,64,65,66,67,68,69,70,71,72,73] [0,1,2,3,4,5,6,7,8,9,10,11,12,13,14,15] U U U<|eS U (MV U)<|eS U (BI U jX)<|eS U (MV U)<|Fb (t:=40) U (aR fun TX=>?_) (aQ fun TX=>?_)
 ·exact absurd (Ka.1) TX
 refine eS U (LW 14 U ct U U)<|eS U (CL (kP 2596 2602) (aD) U)<|eS U (BI U (uB _ _ (fy aI 0 0) (aa.mk 2596 2602)))<|eS U (PK U)<|eS U (MV U)<|ff U<|gn U fun T106 QQ=>cb (t:=45) U (aR fun TY=>?_) (aQ fun TY=>?_)
 ·exact absurd (Ka.2) TY
 refine cX iF (aD) U fun Tw SB=>?_
 obtain ⟨IO,Ne,J2,Op,L2,J7,PX,Kx,P9,LE,QF,Lk,QK,SJ⟩:=Tw
 try dsimp only
 obtain ⟨A,F,B⟩:=SB
 refine RD QQ 8 U<|gn U fun T123 QR=>rS (CL (vg 0 514 515 aI IO Ne L2 J2 Op J7 PX Kx P9 LE QF SJ Lk QK (by exact A)) (eL 23 U U<|al (ag (n:=aI.ar.aN.length) 0 U sm)<|al (ag (n:=aI.ar.ak.length) 1 U (gD F))<|al (cW 2 U ic)<|al (ag (n:=aI.ar.ab.length) 3 U sm)<|al (ag (n:=aI.aU.length) 4 U sm)<|al (ag (n:=aI.bV.length) 5 U sm)<|al (ag (n:=aI.aB.length) 6 U (eG B.1))<|al (gJ 7 U B)<|aD) U)<|RD QR 8 U<|gn U fun T124 QS=>oR [8,9,10,11,12,13,14,15,16,17,18,19,20,21,22,23] U U<|rS (PK U)<|RD QS 0 U<|gn U fun T125 QT=>rS (MV U)<|RD QT 0 U ?_
 refine tw (V:=OA×Nat×OA×Nat×List RA×OA×Nat×OA×Nat×OA×Nat×OA×Nat×List cL×Nat) (fun (j,z,l,AO,X,p,A1,s,A3,v,A5,x,A7,c,e)=>eF aI X c∧X.length=aI.ar.ak.length∧qE aI.aB c) (fun (j,z,l,AO,X,p,A1,s,A3,v,A5,x,A7,c,e)=>[(3,(vS Cp ((dh aI).length) Cu)),(4,(vI (cG aI))),(5,(vP Cx)),(6,(vI 0)),(7,(vS B3 ((dh kh).length) B7)),(8,(vI (cG kh))),(9,(vS W ((ep aI 0 2 (aa.mk 2590 2599)).length) Z)),(10,(vI (fP aI 0 2 (aa.mk 2590 2599)))),(49,(vB true)),(50,(vA (cw.cells (cw.mk (cu.mk (bD.mk (bk.mk j aI.ar.aN.length z)) aI.ar.gN (bk.mk l aI.ar.ak.length AO) (bk.mk p aI.ar.ab.length A1) aI.ar.bS aI.ar.e7 aI.ar.dZ) (bk.mk s aI.aU.length A3) (bk.mk v aI.bV.length A5) aI.iP (bk.mk x aI.aB.length A7))))),(51,(vS (some ⟨e,0,none⟩) 2 2))]) (fun (j,z,l,AO,X,p,A1,s,A3,v,A5,x,A7,c,e)=>[(bQ e 3 [(vI 1),(vI 2)]),(own j z 153 9 (aI.ar.aN.map ai.cells)),(own l AO 53 2 (List.zipWith av.cells aI.ar.ak X)),(bB (aX av.owns aI.ar.ak X)),(own p A1 160 4 (aI.ar.ab.map bM.cells)),(own s A3 3 1 (aI.aU.map iC)),(own v A5 3 1 (aI.bV.map iC)),(own x A7 56 1 (List.zipWith cR aI.aB c)),(bB (aX im aI.aB c)),(own W Z 3 1 ((ep aI 0 2 (aa.mk 2590 2599)).map iC)),(own B3 B7 29 1 (List.zipWith lW (dh kh) b)),(bB (aX qa (dh kh) b)),(bQ Cx 32 (cw.cells (cw.mk (cu.mk (bD.mk (bk.mk G aI.ar.aN.length N)) aI.ar.gN (bk.mk H aI.ar.ak.length O) (bk.mk AB aI.ar.ab.length P) aI.ar.bS aI.ar.e7 aI.ar.dZ) (bk.mk J aI.aU.length R) (bk.mk K aI.bV.length S) aI.iP (bk.mk L ((fU aI.aB 0 2 (aa.mk 2590 2599)).length) T)))),(own G N 153 9 (aI.ar.aN.map ai.cells)),(own H O 53 2 (List.zipWith av.cells aI.ar.ak M)),(bB (aX av.owns aI.ar.ak M)),(own AB P 160 4 (aI.ar.ab.map bM.cells)),(own J R 3 1 (aI.aU.map iC)),(own K S 3 1 (aI.bV.map iC)),(own L T 56 1 (List.zipWith cR (fU aI.aB 0 2 (aa.mk 2590 2599)) AA)),(bB (aX im (fU aI.aB 0 2 (aa.mk 2590 2599)) AA)),(own Cp Cu 29 1 (List.zipWith lW (dh aI) a)),(bB (aX qa (dh aI) a)),(bQ D8 45 (aa.cells (fy aI 0 0))),(rd eB 3 2 dE).ro]) 60 [14,15,16,17,18,19,20,21,22,23,24,25,26,27,28,29,30,31,32,33,34,35,36,37,38,39,40,41,42,43,44,45,46,47,48,49,50,51,52,53,54,55,56,57,58,59,60,61,62,63,64,65,66,67,68,69,70,71,72,73] (fun hJ=>?_) ?_
 ·refine g6 [12,13] kr (dW ?_<|dW ?_<|jG)
  rotate_left 1
  ·refine gL U U U fun T162 QW=>cb (t:=49) U (aR fun EQ=>?_) (aQ fun EQ=>?_)
   ·exact absurd (⟨lf.1,lf.2.1⟩) EQ
   refine cH (xs:=[.const (vI 1),.const (vI 2)]) (cs:=[(vI 1),(vI 2)]) U cy hE U U U U (by simp [Value.cells]) U U fun Sm=>RD QW 1 U<|N1 12<|gL U U U fun T164 QX=>cX iF (aD) U fun Ty SF=>?_
   obtain ⟨Id,Nr,J4,Os,Mi,J9,Pi,K4,QC,LT,QH,Lo,QM,SL⟩:=Ty
   try dsimp only
   obtain ⟨A,F,B⟩:=SF
   refine RD QX 9 U ?_
   exact jg hJ (Id,Nr,J4,Os,Mi,J9,Pi,K4,QC,LT,QH,Lo,QM,SL,Sm) ⟨A,F,B⟩ [8,0,1,2,3,4,5,6,7,9,10,11,12,13,14,15,16,17,18,19,20,21,22,23,24] U U U
  refine gL U U U fun T143 QU=>cb (t:=49) U (aR fun EQ=>?_) (aQ fun EQ=>?_)
  ·exact absurd (⟨lf.1,lf.2.1⟩) EQ
  refine cX iF (aD) U fun Tx SC=>?_
  obtain ⟨IR,Nn,J3,Or,MA,J8,Pc,K0,QB,LH,QG,Lm,QL,SK⟩:=Tx
  try dsimp only
  obtain ⟨A,F,B⟩:=SC
  refine RD QU 8 U<|N1 13<|gL U U U fun T160 QV=>cH (xs:=[.const (vI 1),.const (vI 2)]) (cs:=[(vI 1),(vI 2)]) U cy hE U U U U (by simp [Value.cells]) U U fun Sl=>RD QV 9 U ?_
  exact jg hJ (IR,Nn,J3,Or,MA,J8,Pc,K0,QB,LH,QG,Lm,QL,SK,Sl) ⟨A,F,B⟩ [0,1,2,3,4,5,6,7,8,9,10,11,12,13,14,15,16,17,18,19,20,21,22,23,24] U U U
 rintro ⟨j,z,l,AO,X,p,A1,s,A3,v,A5,x,A7,c,e⟩ ⟨A,F,B⟩
 try dsimp only
 refine gn U fun T181 QY=>rS (CL (vc 0 ([1,2]) (some ⟨e,0,none⟩) 2 aI j z X l AO p A1 s A3 v A5 c x A7 (by exact A) dc) (al (aV 0 U U (by simp [bu]) U)<|eL 24 U U<|al (ag (n:=aI.ar.aN.length) 1 U sm)<|al (ag (n:=aI.ar.ak.length) 2 U (gD F))<|al (cW 3 U ic)<|al (ag (n:=aI.ar.ab.length) 4 U sm)<|al (ag (n:=aI.aU.length) 5 U sm)<|al (ag (n:=aI.bV.length) 6 U sm)<|al (ag (n:=aI.aB.length) 7 U (eG B.1))<|al (gJ 8 U B)<|aD) U)<|RD QY 9 U<|gn U fun T182 QZ=>oR [0,9,10,11,12,13,14,15,16,17,18,19,20,21,22,23,24] U U<|rS (PK U)<|RD QZ 1 U<|gn U fun T183 Qi=>rS (MV U)<|RD Qi 1 U ?_
 refine tw (V:=OA×Nat×OA×Nat×List RA×OA×Nat×OA×Nat×OA×Nat×OA×Nat×List cL×Nat) (fun (k,AC,o,A0,Y,q,A2,u,A4,w,A6,y,A8,d,f)=>eF aI Y d∧Y.length=aI.ar.ak.length∧qE aI.aB d) (fun (k,AC,o,A0,Y,q,A2,u,A4,w,A6,y,A8,d,f)=>[(3,(vS Cp ((dh aI).length) Cu)),(4,(vI (cG aI))),(5,(vP Cx)),(6,(vI 0)),(7,(vS B3 ((dh kh).length) B7)),(8,(vI (cG kh))),(9,(vS W ((ep aI 0 2 (aa.mk 2590 2599)).length) Z)),(10,(vI (fP aI 0 2 (aa.mk 2590 2599)))),(54,(vB true)),(55,(vA (cw.cells (cw.mk (cu.mk (bD.mk (bk.mk k aI.ar.aN.length AC)) aI.ar.gN (bk.mk o aI.ar.ak.length A0) (bk.mk q aI.ar.ab.length A2) aI.ar.bS aI.ar.e7 aI.ar.dZ) (bk.mk u aI.aU.length A4) (bk.mk w aI.bV.length A6) aI.iP (bk.mk y aI.aB.length A8))))),(56,(vS (some ⟨f,0,none⟩) 2 2))]) (fun (k,AC,o,A0,Y,q,A2,u,A4,w,A6,y,A8,d,f)=>[(bQ f 3 [(vI 2),(vI 3)]),(own k AC 153 9 (aI.ar.aN.map ai.cells)),(own o A0 53 2 (List.zipWith av.cells aI.ar.ak Y)),(bB (aX av.owns aI.ar.ak Y)),(own q A2 160 4 (aI.ar.ab.map bM.cells)),(own u A4 3 1 (aI.aU.map iC)),(own w A6 3 1 (aI.bV.map iC)),(own y A8 56 1 (List.zipWith cR aI.aB d)),(bB (aX im aI.aB d)),(bQ e 3 [(vI 1),(vI 2)]),(own W Z 3 1 ((ep aI 0 2 (aa.mk 2590 2599)).map iC)),(own B3 B7 29 1 (List.zipWith lW (dh kh) b)),(bB (aX qa (dh kh) b)),(bQ Cx 32 (cw.cells (cw.mk (cu.mk (bD.mk (bk.mk G aI.ar.aN.length N)) aI.ar.gN (bk.mk H aI.ar.ak.length O) (bk.mk AB aI.ar.ab.length P) aI.ar.bS aI.ar.e7 aI.ar.dZ) (bk.mk J aI.aU.length R) (bk.mk K aI.bV.length S) aI.iP (bk.mk L ((fU aI.aB 0 2 (aa.mk 2590 2599)).length) T)))),(own G N 153 9 (aI.ar.aN.map ai.cells)),(own H O 53 2 (List.zipWith av.cells aI.ar.ak M)),(bB (aX av.owns aI.ar.ak M)),(own AB P 160 4 (aI.ar.ab.map bM.cells)),(own J R 3 1 (aI.aU.map iC)),(own K S 3 1 (aI.bV.map iC)),(own L T 56 1 (List.zipWith cR (fU aI.aB 0 2 (aa.mk 2590 2599)) AA)),(bB (aX im (fU aI.aB 0 2 (aa.mk 2590 2599)) AA)),(own Cp Cu 29 1 (List.zipWith lW (dh aI) a)),(bB (aX qa (dh aI) a)),(bQ D8 45 (aa.cells (fy aI 0 0))),(rd eB 3 2 dE).ro]) 55 [19,20,21,22,23,24,25,26,27,28,29,30,31,32,33,34,35,36,37,38,39,40,41,42,43,44,45,46,47,48,49,50,51,52,53,54,55,56,57,58,59,60,61,62,63,64,65,66,67,68,69,70,71,72,73] (fun hJ=>?_) ?_
 ·refine g6 [17,18] kr (dW ?_<|dW ?_<|jG)
  rotate_left 1
  ·refine gL U U U fun T220 Qm=>cb (t:=54) U (aR fun EY=>?_) (aQ fun EY=>?_)
   ·exact absurd (⟨lf.1,lf.2.2⟩) EY
   refine cH (xs:=[.const (vI 2),.const (vI 3)]) (cs:=[(vI 2),(vI 3)]) U cy hE U U U U (by simp [Value.cells]) U U fun So=>RD Qm 2 U<|N1 17<|gL U U U fun T222 Qn=>cX iF (aD) U fun T0 SH=>?_
   obtain ⟨In,OM,J6,PP,NE,Kf,Px,K8,QE,Li,QJ,L0,QO,SN⟩:=T0
   try dsimp only
   obtain ⟨A,F,B⟩:=SH
   refine RD Qn 10 U ?_
   exact jg hJ (In,OM,J6,PP,NE,Kf,Px,K8,QE,Li,QJ,L0,QO,SN,So) ⟨A,F,B⟩ [8,0,1,2,3,4,5,6,7,9,10,11,12,13,14,15,16,17,18,19,20,21,22,23,24,25] U U U
  refine gL U U U fun T201 Qk=>cb (t:=54) U (aR fun EY=>?_) (aQ fun EY=>?_)
  ·exact absurd (⟨lf.1,lf.2.2⟩) EY
  refine cX iF (aD) U fun Tz SG=>?_
  obtain ⟨If,N4,J5,PN,M2,KU,Pl,K5,QD,LY,QI,Ls,QN,SM⟩:=Tz
  try dsimp only
  obtain ⟨A,F,B⟩:=SG
  refine RD Qk 9 U<|N1 18<|gL U U U fun T218 Ql=>cH (xs:=[.const (vI 2),.const (vI 3)]) (cs:=[(vI 2),(vI 3)]) U cy hE U U U U (by simp [Value.cells]) U U fun Sn=>RD Ql 10 U ?_
  exact jg hJ (If,N4,J5,PN,M2,KU,Pl,K5,QD,LY,QI,Ls,QN,SM,Sn) ⟨A,F,B⟩ [0,1,2,3,4,5,6,7,8,9,10,11,12,13,14,15,16,17,18,19,20,21,22,23,24,25] U U U
 rintro ⟨k,AC,o,A0,Y,q,A2,u,A4,w,A6,y,A8,d,f⟩ ⟨A,F,B⟩
 try dsimp only
 refine gn U fun T239 Qo=>rS (CL (vc 2 ([2,3]) (some ⟨f,0,none⟩) 2 aI k AC Y o A0 q A2 u A4 w A6 d y A8 (by exact A) dc) (al (aV 0 U U (by simp [bu]) U)<|eL 25 U U<|al (ag (n:=aI.ar.aN.length) 1 U sm)<|al (ag (n:=aI.ar.ak.length) 2 U (gD F))<|al (cW 3 U ic)<|al (ag (n:=aI.ar.ab.length) 4 U sm)<|al (ag (n:=aI.aU.length) 5 U sm)<|al (ag (n:=aI.bV.length) 6 U sm)<|al (ag (n:=aI.aB.length) 7 U (eG B.1))<|al (gJ 8 U B)<|aD) U)<|RD Qo 10 U<|gn U fun T240 Qp=>oR [0,9,10,11,12,13,14,15,16,17,18,19,20,21,22,23,24,25] U U<|rS (PK U)<|RD Qp 2 U<|gn U fun T241 Qq=>rS (MV U)<|RD Qq 2 U<|gn U fun T242 Qr=>cb (t:=59) U (aR fun TZ=>?_) (aQ fun TZ=>?_)
 ·exact absurd (⟨ye.1,ye.2.2⟩) TZ
 refine rS (CL (yO 1 2 2 0) (a_ [17]) U)<|RD Qr 2 U<|gn U fun T243 Qs=>rS (PK U)<|RD Qs 2 U<|gn U fun T244 Qt=>rS (MV U)<|RD Qt 2 U<|gn U fun T245 Qu=>cb (t:=62) U (aR fun Ta=>?_) (aQ fun Ta=>?_)
 ·exact absurd (⟨⟨⟨xE.1,xE.2.1⟩,xE.1⟩,xE.2.2⟩) Ta
 refine rS (CL (yO 0 1 0 1) (a_ [17]) U)<|RD Qu 2 U<|gn U fun T246 Qv=>rS (PK U)<|RD Qv 2 U<|gn U fun T247 Qw=>rS (MV U)<|RD Qw 2 U<|gn U fun T248 Qx=>cb (t:=65) U (aR fun Tb=>?_) (aQ fun Tb=>?_)
 ·exact absurd (⟨⟨⟨xo.1,xo.2.1⟩,xo.1⟩,xo.2.2⟩) Tb
 refine rS (MV U)<|RD Qx 2 U<|gn U fun T249 Qy=>rS (BI U jX)<|RD Qy 2 U<|gn U fun T250 Qz=>rS (PK U)<|RD Qz 2 U<|gn U fun T251 Q0=>rS (MV U)<|RD Q0 2 U ?_
 refine tw (V:=Nat×Nat) (fun (C,g)=>True) (fun (C,g)=>[(5,(vP Cx)),(6,(vI 0)),(7,(vS B3 ((dh kh).length) B7)),(8,(vI (cG kh))),(9,(vS W ((ep aI 0 2 (aa.mk 2590 2599)).length) Z)),(10,(vI (fP aI 0 2 (aa.mk 2590 2599)))),(69,(vB true)),(70,(vS Cp ((dh aI).length) Cu)),(71,(vS (some ⟨C,0,none⟩) 3 3)),(72,(vS (some ⟨g,0,none⟩) 1 1))]) (fun (C,g)=>[(bQ g 29 [(vS (some ⟨C,0,none⟩) 3 3)]),(bQ C 3 [(vI 0),(vI 1),(vI 2)]),(bQ f 3 [(vI 2),(vI 3)]),(bQ e 3 [(vI 1),(vI 2)]),(own W Z 3 1 ((ep aI 0 2 (aa.mk 2590 2599)).map iC)),(own B3 B7 29 1 (List.zipWith lW (dh kh) b)),(bB (aX qa (dh kh) b)),(bQ Cx 32 (cw.cells (cw.mk (cu.mk (bD.mk (bk.mk G aI.ar.aN.length N)) aI.ar.gN (bk.mk H aI.ar.ak.length O) (bk.mk AB aI.ar.ab.length P) aI.ar.bS aI.ar.e7 aI.ar.dZ) (bk.mk J aI.aU.length R) (bk.mk K aI.bV.length S) aI.iP (bk.mk L ((fU aI.aB 0 2 (aa.mk 2590 2599)).length) T)))),(own G N 153 9 (aI.ar.aN.map ai.cells)),(own H O 53 2 (List.zipWith av.cells aI.ar.ak M)),(bB (aX av.owns aI.ar.ak M)),(own AB P 160 4 (aI.ar.ab.map bM.cells)),(own J R 3 1 (aI.aU.map iC)),(own K S 3 1 (aI.bV.map iC)),(own L T 56 1 (List.zipWith cR (fU aI.aB 0 2 (aa.mk 2590 2599)) AA)),(bB (aX im (fU aI.aB 0 2 (aa.mk 2590 2599)) AA)),(own Cp Cu 29 1 (List.zipWith lW (dh aI) a)),(bB (aX qa (dh aI) a)),(bQ D8 45 (aa.cells (fy aI 0 0))),(rd eB 3 2 dE).ro]) 39 [35,36,37,38,39,40,41,42,43,44,45,46,47,48,49,50,51,52,53,54,55,56,57,58,59,60,61,62,63,64,65,66,67,68,69,70,71,72,73] (fun hJ=>?_) ?_
 ·refine g6 [32,33] kr (dW ?_<|dW ?_<|jG)
  ·refine gL U U U fun T254 Q3=>cb (t:=69) U (aR fun Ec=>?_) (aQ fun Ec=>?_)
   ·exact absurd (oA) Ec
   refine rS (MV U)<|RD Q3 2 U<|N1 33<|gL U U U fun T255 Q4=>cH (xs:=[.const (vI 0),.const (vI 1),.const (vI 2)]) (cs:=[(vI 0),(vI 1),(vI 2)]) U cy hE U U U U (by simp [Value.cells]) U U fun Fa=>RD Q4 3 U<|N1 34<|gL U U U fun T257 Q5=>cH (xs:=[.tmp 71]) (cs:=[(vS (some ⟨Fa,0,none⟩) 3 3)]) U nW sv U U U U (by simp [Value.cells]) U U fun Sp=>RD Q5 4 U ?_
   exact jg hJ (Fa,Sp) trivial [0,1,2,3,4,5,6,7,8,9,10,11,12,13,14,15,16,17,18,19] U U U
  refine gL U U U fun T259 Q6=>cb (t:=69) U (aR fun Ec=>?_) (aQ fun Ec=>?_)
  ·exact absurd (oA) Ec
  refine cH (xs:=[.const (vI 0),.const (vI 1),.const (vI 2)]) (cs:=[(vI 0),(vI 1),(vI 2)]) U cy hE U U U U (by simp [Value.cells]) U U fun C1=>RD Q6 3 U<|g6 [32,34] kr (dW ?_<|dW ?_<|jG)
  rotate_left 1
  ·refine gL U U U fun T264 Q9=>cH (xs:=[.tmp 71]) (cs:=[(vS (some ⟨C1,0,none⟩) 3 3)]) U nW sv U U U U (by simp [Value.cells]) U U fun Sr=>RD Q9 4 U<|N1 32<|gL U U U fun T266 Q_=>rS (MV U)<|RD Q_ 4 U ?_
   exact jg hJ (C1,Sr) trivial [0,1,2,3,4,5,6,7,8,9,10,11,12,13,14,15,16,17,18,19] U U U
  refine gL U U U fun T261 Q7=>rS (MV U)<|RD Q7 3 U<|N1 34<|gL U U U fun T262 Q8=>cH (xs:=[.tmp 71]) (cs:=[(vS (some ⟨C1,0,none⟩) 3 3)]) U nW sv U U U U (by simp [Value.cells]) U U fun Sq=>RD Q8 4 U ?_
  exact jg hJ (C1,Sq) trivial [0,1,2,3,4,5,6,7,8,9,10,11,12,13,14,15,16,17,18,19] U U U
 rintro ⟨C,g⟩-
 try dsimp only
 refine gn U fun T267 RB=>?_
 refine dg (es:=(([0,1,2]:List Int).map iC)) (C':=[_,(own (some ⟨C,0,none⟩) 3 3 1 (([0,1,2]:List Int).map iC)),_,_,_,_,_,_,_,_,_,_,_,_,_,_,_,_,_,_]) 1 U (j6 bu _) U (by show _≤maxLen; exact Nat.le_trans (m:=10) (show (3:Nat)≤10 by decide) dc) U ?_
 refine dg (es:=(List.zipWith lW [([0,1,2]:List Int)] [((some ⟨C,0,none⟩),3)])) (C':=[(own (some ⟨g,0,none⟩) 1 29 1 (List.zipWith lW [([0,1,2]:List Int)] [((some ⟨C,0,none⟩),3)])),_,_,_,_,_,_,_,_,_,_,_,_,_,_,_,_,_,_,_]) 0 U (kZ EM) U (by show _≤maxLen; exact Nat.le_trans (m:=10) (show (1:Nat)≤10 by decide) dc) U ?_
 refine rj (aX qa [([0,1,2]:List Int)] [((some ⟨C,0,none⟩),3)]) [1] [0,2,3,4,5,6,7,8,9,10,11,12,13,14,15,16,17,18,19] U U<|rS (CL (se (dh aI) ([([0,1,2]:List Int)]) a Cp Cu ([((some ⟨C,0,none⟩),3)]) (some ⟨g,0,none⟩) 1 (by first|exact FS.1|exact Di.1) dc (by first|exact FS.2|exact Di.2) dc (by exact HA) (by rfl)) (al (ag (n:=(dh aI).length) 16 U (j_ HA))<|al (cW 17 U Cf)<|al (ag (n:=([([0,1,2]:List Int)]).length) 1 U sm)<|al (cW 0 U Cf)<|aD) U)<|RD RB 4 U<|gn U fun T268 RC=>rS (PK U)<|RD RC 4 U<|gn U fun T269 RE=>rS (MV U)<|RD RE 4 U<|gn U fun T270 RF=>cb (t:=75) U (aR fun Tc=>?_) (aQ fun Tc=>?_)
 ·exact absurd (Ja) Tc
 refine rS (MV U)<|RD RF 4 U<|gn U fun T271 RG=>rS (SX (bP (r:= .bool true) U U U jX) U U)<|RD RG 4 U<|gn U fun T272 RH=>rS (PK U)<|RD RH 4 U<|gn U fun T273 RI=>rS (MV U)<|RD RI 4 U<|gn U fun T274 RL=>rS (LW 7 U ct U U)<|RD RL 4 U<|gn U fun T275 RM=>?_
 refine rS (CL (vg 2 516 516 kh G N M H O AB P J R K S AA L T (by exact H1)) (eL 19 U U<|al (ag (n:=aI.ar.aN.length) 8 U (by rw [List.length_map]; rfl))<|al (ag (n:=aI.ar.ak.length) 9 U (gD Ey))<|al (cW 10 U ic)<|al (ag (n:=aI.ar.ab.length) 11 U (by rw [List.length_map]; rfl))<|al (ag (n:=aI.aU.length) 12 U (by rw [List.length_map]; rfl))<|al (ag (n:=aI.bV.length) 13 U (by rw [List.length_map]; rfl))<|al (ag (n:=(fU aI.aB 0 2 (aa.mk 2590 2599)).length) 14 U (eG Do.1))<|al (gJ 15 U Do)<|aD) U) ?_
 refine RD RM 4 U<|gn U fun T276 RN=>rS (PK U)<|RD RN 4 U<|gn U fun T277 RO=>rS (MV U)<|RD RO 4 U<|gn U fun T278 RP=>cb (t:=83) U (aR fun Td=>?_) (aQ fun Td=>?_)
 ·exact absurd (Em) Td
 refine rS (MV U)<|RD RP 4 U<|gn U fun T279 RQ=>rS (BI U jX)<|RD RQ 4 U<|gn U fun T280 RR=>rS (PK U)<|RD RR 4 U<|gn U fun T281 RS=>rS (MV U)<|RD RS 4 U ?_
 refine tw (V:=Nat×Nat×Nat) (fun (D,E,A9)=>True) (fun (D,E,A9)=>[(9,(vS W ((ep aI 0 2 (aa.mk 2590 2599)).length) Z)),(10,(vI (fP aI 0 2 (aa.mk 2590 2599)))),(71,(vS (some ⟨C,0,none⟩) 3 3)),(87,(vB true)),(88,(vS B3 ((dh kh).length) B7)),(89,(vS (some ⟨D,0,none⟩) 2 2)),(90,(vS (some ⟨E,0,none⟩) 1 1)),(91,(vS (some ⟨A9,0,none⟩) 2 2))]) (fun (D,E,A9)=>[(bQ A9 29 [(vS (some ⟨D,0,none⟩) 2 2),(vS (some ⟨E,0,none⟩) 1 1)]),(bQ E 3 [(vI 2)]),(bQ D 3 [(vI 0),(vI 1)]),(bB (aX qa [([0,1,2]:List Int)] [((some ⟨C,0,none⟩),3)])),(own (some ⟨g,0,none⟩) 1 29 1 (List.zipWith lW [([0,1,2]:List Int)] [((some ⟨C,0,none⟩),3)])),(bQ f 3 [(vI 2),(vI 3)]),(bQ e 3 [(vI 1),(vI 2)]),(own W Z 3 1 ((ep aI 0 2 (aa.mk 2590 2599)).map iC)),(own B3 B7 29 1 (List.zipWith lW (dh kh) b)),(bB (aX qa (dh kh) b)),(bQ Cx 32 (cw.cells (cw.mk (cu.mk (bD.mk (bk.mk G aI.ar.aN.length N)) aI.ar.gN (bk.mk H aI.ar.ak.length O) (bk.mk AB aI.ar.ab.length P) aI.ar.bS aI.ar.e7 aI.ar.dZ) (bk.mk J aI.aU.length R) (bk.mk K aI.bV.length S) aI.iP (bk.mk L ((fU aI.aB 0 2 (aa.mk 2590 2599)).length) T)))),(own G N 153 9 (aI.ar.aN.map ai.cells)),(own H O 53 2 (List.zipWith av.cells aI.ar.ak M)),(bB (aX av.owns aI.ar.ak M)),(own AB P 160 4 (aI.ar.ab.map bM.cells)),(own J R 3 1 (aI.aU.map iC)),(own K S 3 1 (aI.bV.map iC)),(own L T 56 1 (List.zipWith cR (fU aI.aB 0 2 (aa.mk 2590 2599)) AA)),(bB (aX im (fU aI.aB 0 2 (aa.mk 2590 2599)) AA)),(own Cp Cu 29 1 (List.zipWith lW (dh aI) a)),(bB (aX qa (dh aI) a)),(bQ D8 45 (aa.cells (fy aI 0 0))),(rd eB 3 2 dE).ro]) 20 [54,55,56,57,58,59,60,61,62,63,64,65,66,67,68,69,70,71,72,73] (fun hJ=>?_) ?_
 ·refine g6 [50,51,52] kr (dW ?_<|dW ?_<|dW ?_<|jG)
  ·refine gL U U U fun T285 RT=>cb (t:=87) U (aR fun C0=>?_) (aQ fun C0=>?_)
   ·exact absurd (uH) C0
   refine rS (MV U)<|RD RT 4 U<|g6 [51,52] kr (dW ?_<|dW ?_<|jG)
   rotate_left 1
   ·refine gL U U U fun T292 RX=>cH (xs:=[.const (vI 2)]) (cs:=[(vI 2)]) U cy hE U U U U (by simp [Value.cells]) U U fun F2=>RD RX 5 U<|N1 51<|gL U U U fun T294 RY=>cH (xs:=[.const (vI 0),.const (vI 1)]) (cs:=[(vI 0),(vI 1)]) U cy hE U U U U (by simp [Value.cells]) U U fun GE=>RD RY 6 U<|N1 53<|gL U U U fun T296 RZ=>cH (xs:=[.tmp 89,.tmp 90]) (cs:=[(vS (some ⟨GE,0,none⟩) 2 2),(vS (some ⟨F2,0,none⟩) 1 1)]) U nW sv U U U U (by simp [Value.cells]) U U fun Su=>RD RZ 7 U ?_
    exact jg hJ (GE,F2,Su) trivial [0,2,1,3,4,5,6,7,8,9,10,11,12,13,14,15,16,17,18,19,20,21,22] U U U
   refine gL U U U fun T286 RU=>cH (xs:=[.const (vI 0),.const (vI 1)]) (cs:=[(vI 0),(vI 1)]) U cy hE U U U U (by simp [Value.cells]) U U fun Fd=>RD RU 5 U<|N1 52<|gL U U U fun T288 RV=>cH (xs:=[.const (vI 2)]) (cs:=[(vI 2)]) U cy hE U U U U (by simp [Value.cells]) U U fun Fn=>RD RV 6 U<|N1 53<|gL U U U fun T290 RW=>cH (xs:=[.tmp 89,.tmp 90]) (cs:=[(vS (some ⟨Fd,0,none⟩) 2 2),(vS (some ⟨Fn,0,none⟩) 1 1)]) U nW sv U U U U (by simp [Value.cells]) U U fun Ss=>RD RW 7 U ?_
   exact jg hJ (Fd,Fn,Ss) trivial [0,1,2,3,4,5,6,7,8,9,10,11,12,13,14,15,16,17,18,19,20,21,22] U U U
  ·refine gL U U U fun T298 Ra=>cb (t:=87) U (aR fun C0=>?_) (aQ fun C0=>?_)
   ·exact absurd (uH) C0
   refine cH (xs:=[.const (vI 0),.const (vI 1)]) (cs:=[(vI 0),(vI 1)]) U cy hE U U U U (by simp [Value.cells]) U U fun B9=>RD Ra 5 U<|g6 [50,52] kr (dW ?_<|dW ?_<|jG)
   ·refine gL U U U fun T300 Rb=>rS (MV U)<|RD Rb 5 U<|N1 52<|gL U U U fun T301 Rc=>cH (xs:=[.const (vI 2)]) (cs:=[(vI 2)]) U cy hE U U U U (by simp [Value.cells]) U U fun GT=>RD Rc 6 U<|N1 53<|gL U U U fun T303 Rd=>cH (xs:=[.tmp 89,.tmp 90]) (cs:=[(vS (some ⟨B9,0,none⟩) 2 2),(vS (some ⟨GT,0,none⟩) 1 1)]) U nW sv U U U U (by simp [Value.cells]) U U fun Sv=>RD Rd 7 U ?_
    exact jg hJ (B9,GT,Sv) trivial [0,1,2,3,4,5,6,7,8,9,10,11,12,13,14,15,16,17,18,19,20,21,22] U U U
   refine gL U U U fun T305 Re=>cH (xs:=[.const (vI 2)]) (cs:=[(vI 2)]) U cy hE U U U U (by simp [Value.cells]) U U fun C2=>RD Re 6 U<|g6 [50,53] kr (dW ?_<|dW ?_<|jG)
   rotate_left 1
   ·refine gL U U U fun T310 Rh=>cH (xs:=[.tmp 89,.tmp 90]) (cs:=[(vS (some ⟨B9,0,none⟩) 2 2),(vS (some ⟨C2,0,none⟩) 1 1)]) U nW sv U U U U (by simp [Value.cells]) U U fun Sx=>RD Rh 7 U<|N1 50<|gL U U U fun T312 Ri=>rS (MV U)<|RD Ri 7 U ?_
    exact jg hJ (B9,C2,Sx) trivial [0,1,2,3,4,5,6,7,8,9,10,11,12,13,14,15,16,17,18,19,20,21,22] U U U
   refine gL U U U fun T307 Rf=>rS (MV U)<|RD Rf 6 U<|N1 53<|gL U U U fun T308 Rg=>cH (xs:=[.tmp 89,.tmp 90]) (cs:=[(vS (some ⟨B9,0,none⟩) 2 2),(vS (some ⟨C2,0,none⟩) 1 1)]) U nW sv U U U U (by simp [Value.cells]) U U fun Sw=>RD Rg 7 U ?_
   exact jg hJ (B9,C2,Sw) trivial [0,1,2,3,4,5,6,7,8,9,10,11,12,13,14,15,16,17,18,19,20,21,22] U U U
  refine gL U U U fun T313 Rj=>cb (t:=87) U (aR fun C0=>?_) (aQ fun C0=>?_)
  ·exact absurd (uH) C0
  refine cH (xs:=[.const (vI 2)]) (cs:=[(vI 2)]) U cy hE U U U U (by simp [Value.cells]) U U fun Ci=>RD Rj 5 U<|g6 [50,51] kr (dW ?_<|dW ?_<|jG)
  ·refine gL U U U fun T315 Rk=>rS (MV U)<|RD Rk 5 U<|N1 51<|gL U U U fun T316 Rl=>cH (xs:=[.const (vI 0),.const (vI 1)]) (cs:=[(vI 0),(vI 1)]) U cy hE U U U U (by simp [Value.cells]) U U fun Go=>RD Rl 6 U<|N1 53<|gL U U U fun T318 Rm=>cH (xs:=[.tmp 89,.tmp 90]) (cs:=[(vS (some ⟨Go,0,none⟩) 2 2),(vS (some ⟨Ci,0,none⟩) 1 1)]) U nW sv U U U U (by simp [Value.cells]) U U fun Sy=>RD Rm 7 U ?_
   exact jg hJ (Go,Ci,Sy) trivial [0,2,1,3,4,5,6,7,8,9,10,11,12,13,14,15,16,17,18,19,20,21,22] U U U
  refine gL U U U fun T320 Rn=>cH (xs:=[.const (vI 0),.const (vI 1)]) (cs:=[(vI 0),(vI 1)]) U cy hE U U U U (by simp [Value.cells]) U U fun DU=>RD Rn 6 U<|g6 [50,53] kr (dW ?_<|dW ?_<|jG)
  rotate_left 1
  ·refine gL U U U fun T325 Rq=>cH (xs:=[.tmp 89,.tmp 90]) (cs:=[(vS (some ⟨DU,0,none⟩) 2 2),(vS (some ⟨Ci,0,none⟩) 1 1)]) U nW sv U U U U (by simp [Value.cells]) U U fun S0=>RD Rq 7 U<|N1 50<|gL U U U fun T327 Rr=>rS (MV U)<|RD Rr 7 U ?_
   exact jg hJ (DU,Ci,S0) trivial [0,2,1,3,4,5,6,7,8,9,10,11,12,13,14,15,16,17,18,19,20,21,22] U U U
  refine gL U U U fun T322 Ro=>rS (MV U)<|RD Ro 6 U<|N1 53<|gL U U U fun T323 Rp=>cH (xs:=[.tmp 89,.tmp 90]) (cs:=[(vS (some ⟨DU,0,none⟩) 2 2),(vS (some ⟨Ci,0,none⟩) 1 1)]) U nW sv U U U U (by simp [Value.cells]) U U fun Sz=>RD Rp 7 U ?_
  exact jg hJ (DU,Ci,Sz) trivial [0,2,1,3,4,5,6,7,8,9,10,11,12,13,14,15,16,17,18,19,20,21,22] U U U
 rintro ⟨D,E,A9⟩-
 try dsimp only
 refine gn U fun T328 Rs=>?_
 refine dg (es:=(([0,1]:List Int).map iC)) (C':=[_,_,(own (some ⟨D,0,none⟩) 2 3 1 (([0,1]:List Int).map iC)),_,_,_,_,_,_,_,_,_,_,_,_,_,_,_,_,_,_,_,_]) 2 U (j6 bu _) U (by show _≤maxLen; exact Nat.le_trans (m:=10) (show (2:Nat)≤10 by decide) dc) U ?_
 refine dg (es:=(([2]:List Int).map iC)) (C':=[_,(own (some ⟨E,0,none⟩) 1 3 1 (([2]:List Int).map iC)),_,_,_,_,_,_,_,_,_,_,_,_,_,_,_,_,_,_,_,_,_]) 1 U (j6 bu _) U (by show _≤maxLen; exact Nat.le_trans (m:=10) (show (1:Nat)≤10 by decide) dc) U ?_
 refine dg (es:=(List.zipWith lW [([0,1]:List Int),([2]:List Int)] [((some ⟨D,0,none⟩),2),((some ⟨E,0,none⟩),1)])) (C':=[(own (some ⟨A9,0,none⟩) 2 29 1 (List.zipWith lW [([0,1]:List Int),([2]:List Int)] [((some ⟨D,0,none⟩),2),((some ⟨E,0,none⟩),1)])),_,_,_,_,_,_,_,_,_,_,_,_,_,_,_,_,_,_,_,_,_,_]) 0 U (kZ EM) U (by show _≤maxLen; exact Nat.le_trans (m:=10) (show (2:Nat)≤10 by decide) dc) U ?_
 refine rj (aX qa [([0,1]:List Int),([2]:List Int)] [((some ⟨D,0,none⟩),2),((some ⟨E,0,none⟩),1)]) [2,1] [0,3,4,5,6,7,8,9,10,11,12,13,14,15,16,17,18,19,20,21,22] U U<|rS (CL (se (dh kh) ([([0,1]:List Int),([2]:List Int)]) b B3 B7 ([((some ⟨D,0,none⟩),2),((some ⟨E,0,none⟩),1)]) (some ⟨A9,0,none⟩) 2 (by first|exact FS.1|exact Di.1) dc (by first|exact FS.2|exact Di.2) dc (by exact Hi) (by rfl)) (al (ag (n:=(dh kh).length) 7 U (j_ Hi))<|al (cW 8 U Cf)<|al (ag (n:=([([0,1]:List Int),([2]:List Int)]).length) 1 U sm)<|al (cW 0 U Cf)<|aD) U)<|RD Rs 6 U<|gn U fun T329 Rt=>rS (PK U)<|RD Rt 6 U<|gn U fun T330 Ru=>rS (MV U)<|RD Ru 6 U<|gn U fun T331 Rv=>cb (t:=94) U (aR fun Te=>?_) (aQ fun Te=>?_)
 ·exact absurd (FP) Te
 refine rS (MV U)<|RD Rv 6 U<|gn U fun T332 Rw=>rS (BI U jX)<|RD Rw 6 U<|gn U fun T333 Rx=>rS (PK U)<|RD Rx 6 U<|gn U fun T334 Ry=>rS (MV U)<|RD Ry 6 U ?_
 refine tw (V:=Nat) (fun Ck=>True) (fun Ck=>[(71,(vS (some ⟨C,0,none⟩) 3 3)),(89,(vS (some ⟨D,0,none⟩) 2 2)),(90,(vS (some ⟨E,0,none⟩) 1 1)),(98,(vB true)),(99,(vS W ((ep aI 0 2 (aa.mk 2590 2599)).length) Z)),(100,(vS (some ⟨Ck,0,none⟩) 1 1))]) (fun Ck=>[(bQ Ck 3 [(vI 2)]),(bB (aX qa [([0,1]:List Int),([2]:List Int)] [((some ⟨D,0,none⟩),2),((some ⟨E,0,none⟩),1)])),(own (some ⟨A9,0,none⟩) 2 29 1 (List.zipWith lW [([0,1]:List Int),([2]:List Int)] [((some ⟨D,0,none⟩),2),((some ⟨E,0,none⟩),1)])),(bB (aX qa [([0,1,2]:List Int)] [((some ⟨C,0,none⟩),3)])),(own (some ⟨g,0,none⟩) 1 29 1 (List.zipWith lW [([0,1,2]:List Int)] [((some ⟨C,0,none⟩),3)])),(bQ f 3 [(vI 2),(vI 3)]),(bQ e 3 [(vI 1),(vI 2)]),(own W Z 3 1 ((ep aI 0 2 (aa.mk 2590 2599)).map iC)),(own B3 B7 29 1 (List.zipWith lW (dh kh) b)),(bB (aX qa (dh kh) b)),(bQ Cx 32 (cw.cells (cw.mk (cu.mk (bD.mk (bk.mk G aI.ar.aN.length N)) aI.ar.gN (bk.mk H aI.ar.ak.length O) (bk.mk AB aI.ar.ab.length P) aI.ar.bS aI.ar.e7 aI.ar.dZ) (bk.mk J aI.aU.length R) (bk.mk K aI.bV.length S) aI.iP (bk.mk L ((fU aI.aB 0 2 (aa.mk 2590 2599)).length) T)))),(own G N 153 9 (aI.ar.aN.map ai.cells)),(own H O 53 2 (List.zipWith av.cells aI.ar.ak M)),(bB (aX av.owns aI.ar.ak M)),(own AB P 160 4 (aI.ar.ab.map bM.cells)),(own J R 3 1 (aI.aU.map iC)),(own K S 3 1 (aI.bV.map iC)),(own L T 56 1 (List.zipWith cR (fU aI.aB 0 2 (aa.mk 2590 2599)) AA)),(bB (aX im (fU aI.aB 0 2 (aa.mk 2590 2599)) AA)),(own Cp Cu 29 1 (List.zipWith lW (dh aI) a)),(bB (aX qa (dh aI) a)),(bQ D8 45 (aa.cells (fy aI 0 0))),(rd eB 3 2 dE).ro]) 11 [63,64,65,66,67,68,69,70,71,72,73] (fun hJ=>?_) ?_
 ·refine g6 [61,62] kr (dW ?_<|dW ?_<|jG)
  rotate_left 1
  ·refine gL U U U fun T339 R1=>cb (t:=98) U (aR fun Eq=>?_) (aQ fun Eq=>?_)
   ·exact absurd (yo) Eq
   refine cH (xs:=[.const (vI 2)]) (cs:=[(vI 2)]) U cy hE U U U U (by simp [Value.cells]) U U fun S2=>RD R1 7 U<|N1 61<|gL U U U fun T341 R2=>rS (MV U)<|RD R2 7 U ?_
   exact jg hJ S2 trivial [0,1,2,3,4,5,6,7,8,9,10,11,12,13,14,15,16,17,18,19,20,21,22] U U U
  refine gL U U U fun T336 Rz=>cb (t:=98) U (aR fun Eq=>?_) (aQ fun Eq=>?_)
  ·exact absurd (yo) Eq
  refine rS (MV U)<|RD Rz 6 U<|N1 62<|gL U U U fun T337 R0=>cH (xs:=[.const (vI 2)]) (cs:=[(vI 2)]) U cy hE U U U U (by simp [Value.cells]) U U fun S1=>RD R0 7 U ?_
  exact jg hJ S1 trivial [0,1,2,3,4,5,6,7,8,9,10,11,12,13,14,15,16,17,18,19,20,21,22] U U U
 rintro Ck-
 try dsimp only
 refine gn U fun T342 R3=>rS (CL (mG (ep aI 0 2 (aa.mk 2590 2599)) W Z ([2]) (some ⟨Ck,0,none⟩) 1 om dc) (al (ag (n:=(ep aI 0 2 (aa.mk 2590 2599)).length) 7 U sm)<|al (aV 0 U U (by simp [bu]) U)<|aD) U)<|RD R3 7 U<|gn U fun T343 R4=>rS (PK U)<|RD R4 7 U<|gn U fun T344 R5=>rS (MV U)<|RD R5 7 U<|gn U fun T345 R6=>cb (t:=103) U (aR fun Gy=>?_) (aQ fun Gy=>?_)
 ·exact absurd (JP) Gy
 refine cH (xs:=[.const (vI 0),.const (vI 2),.const (vI 1)]) (cs:=[(vI 0),(vI 2),(vI 1)]) U cy hE U U U U (by simp [Value.cells]) U U fun S3=>RD R6 8 U<|gn U fun T347 R7=>rS (CL (v9 1 ([0,2,1]) (some ⟨S3,0,none⟩) 3 dc) (eL 23 U U<|al (aV 0 U U (by simp [bu]) U)<|aD) U)<|RD R7 8 U<|gn U fun T348 R8=>rS (PK U)<|RD R8 8 U<|gn U fun T349 R9=>rS (MV U)<|RD R9 8 U<|gn U fun T350 R_=>cb (t:=107) U (aR fun G6=>?_) (aQ fun G6=>?_)
 ·exact absurd (Ge) G6
 refine cH (xs:=[.const (vI 0),.const (vI 1),.const (vI 2)]) (cs:=[(vI 0),(vI 1),(vI 2)]) U cy hE U U U U (by simp [Value.cells]) U U fun S4=>RD R_ 9 U<|Gc [109,110,0] kr kr U _ U U (aK [9,10,11,12,13,14,15,16,17,18,19,20,21,22,23,24])<|dS (CL (v9 2 ([0,1,2]) (some ⟨S4,0,none⟩) 3 dc) (eL 24 U U<|al (aV 0 U U (by simp [bu]) U)<|aD) U)<|dP 2 [] I ?_
 refine cQ<|RK QP<|ao<|Q1 hQ U U U ?_
 exact cB (dB Ep)
end
section
open Go.RowKit
theorem As (l:bo) (kA:OA) (kC:Nat) (az:List RA) (cA:OA) (cC:Nat) (bA:OA) (bC:Nat) (r:dw) (sgA:OA) (sgC:Nat) (ot:aa) (hraw:lM l az) (hrr:r.aj.length≤9223372036854775807):
 dR Tryz.prog 6 [(vA (cu.cells (ko l kA kC cA cC bA bC))),(vA (eC.cells (kT r sgA sgC))),(vA (aa.cells ot))] [(rd eB 3 2 dE),(rd kA l.aN.length 9 (l.aN.map ai.cells)),(rd cA l.ak.length 2 (List.zipWith av.cells l.ak az)),(eY (aX av.ja l.ak az)),(rd bA l.ab.length 4 (l.ab.map bM.cells)),(rd sgA r.aj.length 2 (r.aj.map aH.cells))] (vB true):=by
 refine bE kr Tryz.func6 U U fun w0 Q hQ hN=>?_
 try dsimp only
 refine WS fun _ A5=>fY U fun b2=>fY U fun b3=>fY U fun b4=>bh 1 U<|RK A5<|WS fun _ A6=>rS (CL Er (a_ [3]) U)<|bh 1 U<|RK A6<|ah fun _ A7=>WS fun _ A8=>bh 2 U<|RK A8<|aS U<|WK A7<|ah fun _ A9=>WS fun _ O=>fr 1 [] (mc 2 U I) U<|rS (CL (F7 l kA kC az cA cC bA bC hraw) (a_ [4,5,6,7]) U)<|rP 1 [] I ?_
 refine cK (t:=24) U (aQ fun Y=>?_) (aR fun Y=>?_)
 ·refine bh 6 U<|bh 9 U<|RK O<|aL U<|WS fun _ b=>rP 2 [] I ?_
  refine RK b<|ao<|Q1 hQ U U U ?_
  first|rfl|exact cB (dB (by rw [F,if_neg A]))|exact cB (dB (by rw [(E A).2,← (C A).2]; rw [if_pos B]))|exact cB (dB (by rw [(E A).2,← (C A).2]; rw [if_neg B,if_pos D]))|exact cB (dB (by rw [(E A).2,← (C A).2]; rw [if_neg B,if_neg D]))
 refine rP 6 [] (mc 1 U I) ?_
 refine cK (t:=30) U (aQ fun A4=>?_) (aR fun A4=>?_)
 ·refine bh 9 U<|RK O<|aL U<|WS fun _ c=>rP 2 [] I ?_
  refine RK c<|ao<|Q1 hQ U U U ?_
  first|rfl|exact cB (dB (by rw [F,if_neg A]))|exact cB (dB (by rw [(E A).2,← (C A).2]; rw [if_pos B]))|exact cB (dB (by rw [(E A).2,← (C A).2]; rw [if_neg B,if_pos D]))|exact cB (dB (by rw [(E A).2,← (C A).2]; rw [if_neg B,if_neg D]))
 have L:=hraw.small Y
 refine fr 1 [] (mc 2 U I) U<|rS (CL (FZ l kA kC az cA cC bA bC (by exact L)) (a_ [4,5,6,7]) U)<|rP 3 [] I ?_
 refine cK (t:=35) U (bq fun N=>?_) (bp fun N=>?_)
 ·refine bh 4 U<|RK O<|aL U<|WS fun _ d=>rP 2 [] I ?_
  refine RK d<|ao<|Q1 hQ U U U ?_
  first|rfl|exact cB (dB (by rw [F,if_neg A]))|exact cB (dB (by rw [(E A).2,← (C A).2]; rw [if_pos B]))|exact cB (dB (by rw [(E A).2,← (C A).2]; rw [if_neg B,if_pos D]))|exact cB (dB (by rw [(E A).2,← (C A).2]; rw [if_neg B,if_neg D]))
 refine fr 1 [] (mc 0 U I) U<|rS (CL (Ib ot) (aD) U)<|rP 2 [] I ?_
 refine RK O<|cM U (bq fun K=>?_) (bp fun K=>?_)
 ·refine WS fun _ e=>rP 2 [] I ?_
  refine RK e<|ao<|Q1 hQ U U U ?_
  first|rfl|exact cB (dB (by rw [F,if_neg A]))|exact cB (dB (by rw [(E A).2,← (C A).2]; rw [if_pos B]))|exact cB (dB (by rw [(E A).2,← (C A).2]; rw [if_neg B,if_pos D]))|exact cB (dB (by rw [(E A).2,← (C A).2]; rw [if_neg B,if_neg D]))
 refine WK A9<|WS fun _ f=>?_
 have B7:r.aj.length≤1000000:=by omega
 refine fr 1 [] (mc 2 U I) U<|cH (xs:=[.const (vI 1),.const (vI 2)]) (cs:=[(vI 1),(vI 2)]) U cy hE U U U U (by simp [Value.cells]) U U fun H=>cH (xs:=[.const (vI 0),.const (vI 1)]) (cs:=[(vI 0),(vI 1)]) U cy hE U U U U (by simp [Value.cells]) U U fun AB=>fr 1 [] (mc 3 U I) U<|rS (SX (aZ (xs:=[(3,.tmp 44)]) (cs:=(br.cells (br.mk false false (aa.mk 0 0) (kT r sgA sgC)))) U U (bf FV U)) U U)<|rP 1 [] (mc 2 U I) ?_
 refine rS (SX (aZ (xs:=[(1,.const (vB true)),(2,.tmp 46)]) (cs:=(br.cells (br.mk false true ot (eC.mk 0 0 (bk.mk none 0 0))))) U U (bf FV U)) U U)<|cH (xs:=[.tmp 45,.tmp 47]) (cs:=((br.cells (br.mk false false (aa.mk 0 0) (kT r sgA sgC)))++(br.cells (br.mk false true ot (eC.mk 0 0 (bk.mk none 0 0)))))) U uS GS U U U U (by simp [Value.cells,br.aO]) U U fun G=>cH (xs:=[.tmp 48]) (cs:=[(vS (some ⟨G,0,none⟩) 2 2)]) U sH No U U U U (by simp [Value.cells]) U U fun J=>rS (SX (aZ (xs:=[(0,.tmp 41),(1,.tmp 42),(2,.tmp 43),(4,.tmp 49)]) (cs:=(cw.cells (cw.mk (ko l kA kC cA cC bA bC) (bk.mk (some ⟨H,0,none⟩) 2 2) (bk.mk (some ⟨AB,0,none⟩) 2 2) 0 (bk.mk (some ⟨J,0,none⟩) 1 1)))) U U (bf AH U)) U U)<|AL U xb fun Ci=>?_
 refine dg (es:=((ew l r ot).aU.map iC)) (C':=[_,_,_,_,(own (some ⟨H,0,none⟩) 2 3 1 ((ew l r ot).aU.map iC)),_,_,_,_,_,_,_,_,_]) 4 U (j6 bu _) U (by show _≤maxLen; exact Nat.le_trans (m:=10) (show (2:Nat)≤10 by decide) dc) U ?_
 refine dg (es:=((ew l r ot).bV.map iC)) (C':=[_,_,_,(own (some ⟨AB,0,none⟩) 2 3 1 ((ew l r ot).bV.map iC)),_,_,_,_,_,_,_,_,_,_]) 3 U (j6 bu _) U (by show _≤maxLen; exact Nat.le_trans (m:=10) (show (2:Nat)≤10 by decide) dc) U ?_
 refine dg (es:=(List.zipWith aw.cells (BW r ot) [(sgA,sgC),(none,0)])) (C':=[_,_,(own (some ⟨G,0,none⟩) 2 62 7 (List.zipWith aw.cells (BW r ot) [(sgA,sgC),(none,0)])),_,_,_,_,_,_,_,_,_,_,_]) 2 U (kZ wP) U (by show _≤maxLen; exact Nat.le_trans (m:=10) (show (2:Nat)≤10 by decide) dc) U ?_
 refine dg (es:=(List.zipWith cR (ew l r ot).aB (px (some ⟨G,0,none⟩) 2 sgA sgC))) (C':=[_,(own (some ⟨J,0,none⟩) 1 56 1 (List.zipWith cR (ew l r ot).aB (px (some ⟨G,0,none⟩) 2 sgA sgC))),_,_,_,_,_,_,_,_,_,_,_,_]) 1 U (kZ yq) U (by show _≤maxLen; exact Nat.le_trans (m:=10) (show (1:Nat)≤10 by decide) dc) U ?_
 have M:eF (ew l r ot) az (px (some ⟨G,0,none⟩) 2 sgA sgC):=Hx L B7
 refine fG U pU U<|RK f<|WS fun _ g=>rP 2 [0,1] (mc 7 U (mc 6 U I)) ?_
 refine rS (CL (Kl l kA kC az cA cC bA bC r sgA sgC (by exact L) (by show r.aj.length≤1000000; omega)) (a_ [9,10,11,12,13]) U) ?_
 refine bh 3 U<|AL U dk fun Ck=>fG U cx U<|bh 1 U<|RK g<|WS fun _ j=>fr 1 [] (mc 1 U I) U<|rS (CL (FH 0 0 (ew l r ot) kA kC az cA cC bA bC (some ⟨H,0,none⟩) 2 (some ⟨AB,0,none⟩) 2 (px (some ⟨G,0,none⟩) 2 sgA sgC) (some ⟨J,0,none⟩) 1 (by exact M)) (kf [9,10,11,12,13]<|al (ag (n:=((ew l r ot).aU).length) 5 U (by rfl))<|al (ag (n:=((ew l r ot).bV).length) 4 U (by rfl))<|al (ag (n:=((ew l r ot).aB).length) 2 U (by rfl))<|al (re (wu (aJ 3 U) U) (aJ 14 U))<|aD) U)<|bh 3 U<|AL U dk fun Cp=>fG U cx U<|rP 1 [] I ?_
 refine RK j<|ah fun _ k=>ah fun _ o=>?_
 have F:=wT (x:=r) N K
 have C:db l r l.bS=0→_:=fun q=>z3 (x:=r) N K q
 have E:db l r l.bS=0→_:=fun q=>CZ (x:=r) N K q
 have A3:db l r l.bS=0→_:=fun q=>Dq (r:=r) q
 have X:db l r l.bS=0→_:=fun q=>wF (l:=l) (r:=r) q
 refine an<|rP 2 [] I ?_
 refine RK o<|cM U (bq fun A=>?_) (bp fun A=>?_)
 ·refine WS fun _ p=>rP 6 [] I ?_
  refine cb (t:=69) U (aR fun Z=>?_) (aQ fun Z=>?_)
  ·exact absurd ((lV (h:=0) (i:=0) (show ¬ cG (ew l r ot)=0 by rw [F,if_neg A]; decide)).trans (by rw [F,if_neg A])) Z
  refine fr 1 [] (mc 2 U I) U<|rS (CL (FK (ew l r ot) kA kC az cA cC bA bC (some ⟨H,0,none⟩) 2 (some ⟨AB,0,none⟩) 2 (px (some ⟨G,0,none⟩) 2 sgA sgC) (some ⟨J,0,none⟩) 1 (by exact M)) (kf [10,11,12,13,14]<|al (ag (n:=((ew l r ot).aU).length) 6 U (by rfl))<|al (ag (n:=((ew l r ot).bV).length) 5 U (by rfl))<|al (ag (n:=((ew l r ot).aB).length) 3 U (by rfl))<|al (re (wu (aJ 4 U) U) (aJ 15 U))<|aD) U)<|rP 3 [] I ?_
  refine RK p<|ao<|Q1 hQ U U U ?_
  first|rfl|exact cB (dB (by rw [F,if_neg A]))|exact cB (dB (by rw [(E A).2,← (C A).2]; rw [if_pos B]))|exact cB (dB (by rw [(E A).2,← (C A).2]; rw [if_neg B,if_pos D]))|exact cB (dB (by rw [(E A).2,← (C A).2]; rw [if_neg B,if_neg D]))
 refine WK k<|WS fun _ s=>rP 4 [0,1] (mc 9 U (mc 8 U I)) ?_
 refine rS (CL (zt l kA kC az cA cC bA bC r sgA sgC l.bS (by exact L) (by show r.aj.length≤1000000; omega)) (a_ [11,12,13,14,15]) U) ?_
 refine bh 3 U<|AL U dk fun Cu=>fG U cx U<|bh 1 U<|RK s<|WS fun _ u=>rP 2 [0,1] (mc 10 U (mc 9 U I)) ?_
 refine rS (CL (I8 l kA kC az cA cC bA bC r sgA sgC (by exact L) (by show r.aj.length≤1000000; omega)) (a_ [12,13,14,15,16]) U) ?_
 refine bh 5 U<|RK u<|WS fun _ v=>fr 1 [] (mc 3 U I) U<|rS (CL (yk 0 1 (ew l r ot) kA kC az cA cC bA bC (some ⟨H,0,none⟩) 2 (some ⟨AB,0,none⟩) 2 (px (some ⟨G,0,none⟩) 2 sgA sgC) (some ⟨J,0,none⟩) 1 (by exact M)) (kf [11,12,13,14,15]<|al (ag (n:=((ew l r ot).aU).length) 7 U (by rfl))<|al (ag (n:=((ew l r ot).bV).length) 6 U (by rfl))<|al (ag (n:=((ew l r ot).aB).length) 4 U (by rfl))<|al (re (wu (aJ 5 U) U) (aJ 16 U))<|aD) U)<|bh 5 U<|RK v<|ah fun _ w=>WS fun _ y=>rP 3 [] I ?_
 refine cK (t:=95) U (bq fun a=>?_) (bp fun a=>?_)
 ·exact absurd ((C A).1) a
 refine fr 2 [0,1] (mc 1 U (mc 2 U I)) U<|rS (BI U (Kc _ _ (fy (ew l r ot) 0 0) (qn l r)))<|rP 2 [] I ?_
 refine cK (t:=100) U (bq fun P=>?_) (bp fun P=>?_)
 ·exact absurd ((C A).2) P
 refine rP 4 [] I ?_
 refine cK (t:=104) U (bq fun R=>?_) (bp fun R=>?_)
 ·exact absurd (A) R
 refine rP 4 [0,1] (mc 0 U (mc 9 U I)) ?_
 have C0:=tS A
 have C1:=(oP A).time
 refine rP 6 [] (mc 1 U I) ?_
 refine cK (t:=114) U (bq fun S=>?_) (bp fun S=>?_)
 ·exact absurd (by rw [(C A).2,X A]) S
 refine rP 10 [0,1,2] (mc 0 U (mc 9 U (mc 1 U I))) ?_
 refine cK (t:=124) U (bq fun T=>?_) (bp fun T=>?_)
 ·exact absurd (by rw [(C A).2,X A]) T
 refine rP 4 [] I ?_
 refine cK (t:=128) U (bq fun AA=>?_) (bp fun AA=>?_)
 ·exact absurd ((A3 A).1) AA
 refine bh 1 U<|rS (BI U jX)<|rP 2 [] I ?_
 refine cK (t:=132) U (aQ fun V=>?_) (aR fun V=>?_)
 ·exact absurd V (A3 A).2
 refine rP 3 [] I ?_
 refine RK y<|cM U (bq fun W=>?_) (bp fun W=>?_)
 ·exact absurd (E A).1 W
 refine WK w<|ah fun _ z=>aA<|WS fun _ AC=>?_
 have B9:=(C A).2
 have Cx:=BU A
 have C2:0≤(fy (ew l r ot) 0 0).Lo∧(fy (ew l r ot) 0 0).Lo≤(fy (ew l r ot) 0 0).Hi∧(fy (ew l r ot) 0 0).Hi≤86400000:=by rw [B9,X A]; dsimp only; omega
 have B3:=K
 unfold fQ at B3
 refine fr 2 [] (mc 1 U I) U<|rS (BI U (pI om om om))<|fr 2 [] (mc 8 U I) U<|rS (BI U (pI om om om))<|rP 2 [] I ?_
 refine RK AC<|cM U (aQ fun B=>?_) (aR fun B=>?_)
 ·refine WS fun _ AO=>bh 3 U<|rS (BI U jX)<|rP 2 [] I ?_
  refine RK AO<|ao<|Q1 hQ U U U ?_
  first|rfl|exact cB (dB (by rw [F,if_neg A]))|exact cB (dB (by rw [(E A).2,← (C A).2]; rw [if_pos B]))|exact cB (dB (by rw [(E A).2,← (C A).2]; rw [if_neg B,if_pos D]))|exact cB (dB (by rw [(E A).2,← (C A).2]; rw [if_neg B,if_neg D]))
 refine WS fun _ A0=>fr 2 [] (mc 1 U I) U<|rS (BI U (pI om om om))<|fr 2 [] (mc 8 U I) U<|rS (BI U (pI om om om))<|rP 2 [] I ?_
 refine RK A0<|cM U (aQ fun D=>?_) (aR fun D=>?_)
 ·refine WS fun _ A1=>bh 3 U<|rS (BI U jX)<|rP 2 [] I ?_
  refine RK A1<|ao<|Q1 hQ U U U ?_
  first|rfl|exact cB (dB (by rw [F,if_neg A]))|exact cB (dB (by rw [(E A).2,← (C A).2]; rw [if_pos B]))|exact cB (dB (by rw [(E A).2,← (C A).2]; rw [if_neg B,if_pos D]))|exact cB (dB (by rw [(E A).2,← (C A).2]; rw [if_neg B,if_neg D]))
 refine cr<|aF<|KK z<|WS fun _ A2=>bh 3 U<|rS (BI U jX)<|rP 2 [] I ?_
 refine RK A2<|ao<|Q1 hQ U U U ?_
 first|rfl|exact cB (dB (by rw [F,if_neg A]))|exact cB (dB (by rw [(E A).2,← (C A).2]; rw [if_pos B]))|exact cB (dB (by rw [(E A).2,← (C A).2]; rw [if_neg B,if_pos D]))|exact cB (dB (by rw [(E A).2,← (C A).2]; rw [if_neg B,if_neg D]))
end
section
open Go.RowKit
def pk {α:Type} (cells:α→List Value) (sz:Nat) (R:World→α→Prop) (w:World) (s:bk):Prop:= ∃ l:List α,s.n=l.length∧(rd s.a l.length sz (l.map cells)).holds w∧(∀ x∈l,R w x)∧l.length≤maxLen∧s.n≤s.c
theorem sn {w:World} {R:World→cv→Prop}: ∀ {l:List dn},(∀ x∈l,pk cv.cells 3 R w x.bj)→ ∃ (ms:List av) (az:List RA),l.map dn.cells=List.zipWith av.cells ms az∧ms.length=l.length∧az.length=l.length∧(∀ X∈aX av.ja ms az,X.holds w)∧
 (∀ (k:Nat) m (a:RA),ms[k]? =some m→az[k]? =some a→m.bj.length≤a.2∧m.bj.length≤9223372036854775807)∧ms.map (fun m=>m.eh)=l.map (fun x=>x.eh)∧ ∀ (k:Nat) m y,ms[k]? =some m→y∈m.bj→R w y
 |[],_=>⟨[],[],rfl,rfl,rfl,(fun X hX=>by cases hX),(fun k m a h=>by simp at h),rfl,(fun k m y h=>by simp at h)⟩
 |x::l,h=>by
  obtain ⟨ms,az,E,F,G,H,AA,J,K⟩:=sn (fun y hy=>h y (df _ hy))
  obtain ⟨sy,A,B,C,D,L⟩:=h x sm
  have e4':sy.length≤9223372036854775807:=D
  refine ⟨⟨x.eh,sy⟩::ms,(x.bj.a,x.bj.c)::az,?_,by simp [F],by simp [G],fun X hX=>?_,fun k m a hm ha=>?_,by simp [J],fun k m y hm hy=>?_⟩
  ·obtain ⟨dr,⟨a,n,c⟩⟩:=x
   simp only at A
   subst A
   simp only [List.map_cons,List.zipWith_cons_cons,E]
   rfl
  ·rcases dM.1 hX with hX|hX
   ·simp only [av.ja,bJ] at hX
    subst hX; exact B
   ·exact H X hX
  ·cases k with
   |zero=>
    simp only [List.getElem?_cons_zero,Option.some.injEq] at hm ha
    subst hm ha
    exact ⟨by simp only; omega,e4'⟩
   |succ k=>exact AA k m a (by simpa using hm) (by simpa using ha)
  ·cases k with
   |zero=>
    simp only [List.getElem?_cons_zero,Option.some.injEq] at hm
    subst hm
    exact C y hy
   |succ k=>exact K k m y (by simpa using hm) hy
theorem CP {w:World} {s:cu} {R1:World→ai→Prop} {R2:World→dn→Prop} {R3:World→bM→Prop} {R4:World→cv→Prop} (h1:pk ai.cells 9 R1 w s.aN.kH) (hs: ∀ x,R1 w x→0≤x.ir∧x.ir≤255) (h2:pk dn.cells 2 R2 w s.ak) (hc: ∀ x,R2 w x→pk cv.cells 3 R4 w x.bj) (h3:pk bM.cells 4 R3 w s.ab):
 ∃ (l:bo) (az:List RA) (kA:OA) (kC:Nat) (cA:OA) (cC:Nat) (bA:OA) (bC:Nat),s=cu.mk (bD.mk (bk.mk kA l.aN.length kC)) l.gN (bk.mk cA l.ak.length cC) (bk.mk bA l.ab.length bC) l.bS l.e7 l.dZ∧lM l az∧
  ((rd kA l.aN.length 9 (l.aN.map ai.cells)).holds w∧(rd cA l.ak.length 2 (List.zipWith av.cells l.ak az)).holds w∧(eY (aX av.ja l.ak az)).holds w∧(rd bA l.ab.length 4 (l.ab.map bM.cells)).holds w)∧l.gN=s.gN∧l.bS=s.bS∧l.e7=s.e7∧l.dZ=s.dZ:=by
 obtain ⟨⟨⟨ka,kn,kc⟩⟩,fa,⟨ca,cn,cc⟩,⟨ba,bn,bc⟩,fi,fk,mi⟩:=s
 obtain ⟨ts,E,M,N,O,T⟩:=h1
 obtain ⟨cs,B,C,H,AA,R⟩:=h2
 obtain ⟨bs,A,F,P,G,Q⟩:=h3
 simp only at E B A
 subst E B A
 obtain ⟨ms,az,J,D,S,K,L,_⟩:=sn (fun x hx=>hc x (H x hx))
 have t4':ts.length≤9223372036854775807:=O
 have c4':cs.length≤9223372036854775807:=AA
 have b4':bs.length≤9223372036854775807:=G
 refine ⟨⟨ts,fa,ms,bs,fi,fk,mi⟩,az,ka,kc,ca,cc,ba,bc,by simp only [D],⟨t4',fun x hx=>hs x (N x hx),by simp only; omega,by simp only; omega,b4',L⟩,⟨M,?_,K,F⟩,U,U,U,U⟩
 simp only at C ⊢
 rw [D,← J]; exact C
end
section
open Go.RowKit
theorem D3 {w:World} {s:eC} {R:World→aH→Prop} (h:pk aH.cells 2 R w s.aj):
 ∃ (r:dw) (gA:OA) (gC:Nat),s=kT r gA gC∧r.aj.length≤9223372036854775807∧(rd gA r.aj.length 2 (r.aj.map aH.cells)).holds w:=by
 obtain ⟨st,nw,⟨a,n,c⟩⟩:=s
 obtain ⟨l,A,B,D,C,E⟩:=h
 simp only at A
 subst A
 exact ⟨⟨st,nw,l⟩,a,c,U,C,B⟩
end
section
open Go.ChangeShapes Go.WideShapes Go.ChangeAt Go.RowKit
theorem Pw:Tryz.prog.cellsOf 28=7:=by kernel_rfl
theorem Nj:Tryz.prog.cellsOf 24=1:=by kernel_rfl
theorem PA:Tryz.prog.cellsOf 22=1:=by kernel_rfl
theorem JT:Tryz.prog.cellsOf 153=9:=by kernel_rfl
theorem zF:Tryz.prog.cellsOf 3=1:=by kernel_rfl
def zg (w:World) (n:Int):Prop:=oZ n
theorem zG:tg Tryz.prog 3 Int iC zg:=Ln og
theorem Ee:Tryz.prog.cellsOf 45=2:=by kernel_rfl
structure CR (w:World) (s:aa):Prop where
 Lo:zg w s.Lo
 Hi:zg w s.Hi
theorem MO:fL Tryz.prog 45=some [(3,0),(3,1)]:=by kernel_rfl
theorem DY:tg Tryz.prog 45 aa aa.cells CR:=fun {H} enc w base sp A fuel cs x h=>by
 obtain ⟨hl,hp⟩:=jK MO h
 obtain ⟨M,O,F⟩:=hp 0 3 0 rfl
 obtain ⟨K,B,AA⟩:=zG _ _ _ _ _ _ _ _ F
 obtain ⟨N,P,G⟩:=hp 1 3 1 rfl
 obtain ⟨L,C,J⟩:=zG _ _ _ _ _ _ _ _ G
 refine ⟨⟨K,L⟩,?_,⟨AA,J⟩⟩
 have E:=g0 (hl.trans Ee) (by rw [zF]) C
 have D:=en B (m:=1) (by rw [zF]) E
 exact D
theorem Qc:Tryz.prog.cellsOf 5=1:=by kernel_rfl
def P5 (w:World) (n:Int):Prop:=0≤n∧n≤255
theorem Qf:tg Tryz.prog 5 Int Fg P5:=Om Oz
structure Hu (w:World) (s:ai):Prop where
 Id:zg w s.Id
 jH:CR w s.jH
 kx:CR w s.kx
 dU:CR w s.dU
 ir:P5 w s.ir
 xn:zg w s.xn
theorem Nc:fL Tryz.prog 153=some [(3,0),(45,1),(45,3),(45,5),(5,7),(3,8)]:=by kernel_rfl
theorem Ny:tg Tryz.prog 153 ai ai.cells Hu:=fun {H} enc w base sp A fuel cs x h=>by
 obtain ⟨hl,hp⟩:=jK Nc h
 obtain ⟨g,o,O⟩:=hp 0 3 0 rfl
 obtain ⟨a,B,AA⟩:=zG _ _ _ _ _ _ _ _ O
 obtain ⟨i,p,P⟩:=hp 1 45 1 rfl
 obtain ⟨b,C,V⟩:=DY _ _ _ _ _ _ _ _ P
 obtain ⟨j,q,Q⟩:=hp 2 45 3 rfl
 obtain ⟨c,D,W⟩:=DY _ _ _ _ _ _ _ _ Q
 obtain ⟨k,r,R⟩:=hp 3 45 5 rfl
 obtain ⟨d,E,X⟩:=DY _ _ _ _ _ _ _ _ R
 obtain ⟨l,s,S⟩:=hp 4 5 7 rfl
 obtain ⟨e,F,Y⟩:=Qf _ _ _ _ _ _ _ _ S
 obtain ⟨n,t,T⟩:=hp 5 3 8 rfl
 obtain ⟨f,G,Z⟩:=zG _ _ _ _ _ _ _ _ T
 refine ⟨⟨a,b,c,d,e,f⟩,?_,⟨AA,V,W,X,Y,Z⟩⟩
 have N:=g0 (hl.trans JT) (by rw [zF]) G
 have M:=en F (m:=8) (by rw [Qc]) N
 have L:=en E (m:=7) (by rw [Ee]) M
 have K:=en D (m:=5) (by rw [Ee]) L
 have J:=en C (m:=3) (by rw [Ee]) K
 have AB:=en B (m:=1) (by rw [zF]) J
 exact AB
def MZ (w:World) (s:bk):Prop:= ∃ l:List ai,s.n=l.length∧(rd s.a l.length 9 (l.map ai.cells)).holds w∧(∀ x∈l,Hu w x)∧l.length≤maxLen∧s.n≤s.c
theorem P0:tg Tryz.prog 22 bk (fun s=>[vS s.a s.n s.c]) MZ:=o3 LO JT Ny
structure NM (w:World) (s:bD):Prop where
 kH:MZ w s.kH
theorem Pt:fL Tryz.prog 24=some [(22,0)]:=by kernel_rfl
theorem OS:tg Tryz.prog 24 bD bD.cells NM:=fun {H} enc w base sp A fuel cs x h=>by
 obtain ⟨hl,hp⟩:=jK Pt h
 obtain ⟨G,AA,D⟩:=hp 0 22 0 rfl
 obtain ⟨F,B,E⟩:=P0 _ _ _ _ _ _ _ _ D
 refine ⟨⟨F⟩,?_,⟨E⟩⟩
 have C:=g0 (hl.trans Nj) (by rw [PA]) B
 exact C
theorem ON:Tryz.prog.cellsOf 25=1:=by kernel_rfl
theorem NR:Tryz.prog.cellsOf 53=2:=by kernel_rfl
theorem OD:Tryz.prog.cellsOf 51=1:=by kernel_rfl
theorem NF:Tryz.prog.cellsOf 55=3:=by kernel_rfl
structure KM (w:World) (s:cv):Prop where
 At:zg w s.At
 fE:CR w s.fE
theorem OW:fL Tryz.prog 55=some [(3,0),(45,1)]:=by kernel_rfl
theorem O6:tg Tryz.prog 55 cv cv.cells KM:=fun {H} enc w base sp A fuel cs x h=>by
 obtain ⟨hl,hp⟩:=jK OW h
 obtain ⟨M,O,F⟩:=hp 0 3 0 rfl
 obtain ⟨K,B,AA⟩:=zG _ _ _ _ _ _ _ _ F
 obtain ⟨N,P,G⟩:=hp 1 45 1 rfl
 obtain ⟨L,C,J⟩:=DY _ _ _ _ _ _ _ _ G
 refine ⟨⟨K,L⟩,?_,⟨AA,J⟩⟩
 have E:=g0 (hl.trans NF) (by rw [Ee]) C
 have D:=en B (m:=1) (by rw [zF]) E
 exact D
def MF (w:World) (s:bk):Prop:= ∃ l:List cv,s.n=l.length∧(rd s.a l.length 3 (l.map cv.cells)).holds w∧(∀ x∈l,KM w x)∧l.length≤maxLen∧s.n≤s.c
theorem PJ:tg Tryz.prog 51 bk (fun s=>[vS s.a s.n s.c]) MF:=o3 Ms NF O6
structure LL (w:World) (s:dn):Prop where
 eh:zg w s.eh
 bj:MF w s.bj
theorem OP:fL Tryz.prog 53=some [(3,0),(51,1)]:=by kernel_rfl
theorem Pa:tg Tryz.prog 53 dn dn.cells LL:=fun {H} enc w base sp A fuel cs x h=>by
 obtain ⟨hl,hp⟩:=jK OP h
 obtain ⟨M,O,F⟩:=hp 0 3 0 rfl
 obtain ⟨K,B,AA⟩:=zG _ _ _ _ _ _ _ _ F
 obtain ⟨N,P,G⟩:=hp 1 51 1 rfl
 obtain ⟨L,C,J⟩:=PJ _ _ _ _ _ _ _ _ G
 refine ⟨⟨K,L⟩,?_,⟨AA,J⟩⟩
 have E:=g0 (hl.trans NR) (by rw [OD]) C
 have D:=en B (m:=1) (by rw [zF]) E
 exact D
def Mz (w:World) (s:bk):Prop:= ∃ l:List dn,s.n=l.length∧(rd s.a l.length 2 (l.map dn.cells)).holds w∧(∀ x∈l,LL w x)∧l.length≤maxLen∧s.n≤s.c
theorem OR:tg Tryz.prog 25 bk (fun s=>[vS s.a s.n s.c]) Mz:=o3 Ni NR Pa
theorem PB:Tryz.prog.cellsOf 26=1:=by kernel_rfl
theorem J1:Tryz.prog.cellsOf 160=4:=by kernel_rfl
theorem Kv:Tryz.prog.cellsOf 158=3:=by kernel_rfl
structure JY (w:World) (s:ck):Prop where
 aP:zg w s.aP
 lp:CR w s.lp
theorem M4:fL Tryz.prog 158=some [(3,0),(45,1)]:=by kernel_rfl
theorem M3:tg Tryz.prog 158 ck ck.cells JY:=fun {H} enc w base sp A fuel cs x h=>by
 obtain ⟨hl,hp⟩:=jK M4 h
 obtain ⟨M,O,F⟩:=hp 0 3 0 rfl
 obtain ⟨K,B,AA⟩:=zG _ _ _ _ _ _ _ _ F
 obtain ⟨N,P,G⟩:=hp 1 45 1 rfl
 obtain ⟨L,C,J⟩:=DY _ _ _ _ _ _ _ _ G
 refine ⟨⟨K,L⟩,?_,⟨AA,J⟩⟩
 have E:=g0 (hl.trans Kv) (by rw [Ee]) C
 have D:=en B (m:=1) (by rw [zF]) E
 exact D
structure EB (w:World) (s:bM):Prop where
 lu:JY w s.lu
 kX:zg w s.kX
theorem N_:fL Tryz.prog 160=some [(158,0),(3,3)]:=by kernel_rfl
theorem N8:tg Tryz.prog 160 bM bM.cells EB:=fun {H} enc w base sp A fuel cs x h=>by
 obtain ⟨hl,hp⟩:=jK N_ h
 obtain ⟨M,O,F⟩:=hp 0 158 0 rfl
 obtain ⟨K,B,AA⟩:=M3 _ _ _ _ _ _ _ _ F
 obtain ⟨N,P,G⟩:=hp 1 3 3 rfl
 obtain ⟨L,C,J⟩:=zG _ _ _ _ _ _ _ _ G
 refine ⟨⟨K,L⟩,?_,⟨AA,J⟩⟩
 have E:=g0 (hl.trans J1) (by rw [zF]) C
 have D:=en B (m:=3) (by rw [Kv]) E
 exact D
def Nh (w:World) (s:bk):Prop:= ∃ l:List bM,s.n=l.length∧(rd s.a l.length 4 (l.map bM.cells)).holds w∧(∀ x∈l,EB w x)∧l.length≤maxLen∧s.n≤s.c
theorem Pr:tg Tryz.prog 26 bk (fun s=>[vS s.a s.n s.c]) Nh:=o3 IQ J1 N8
structure OJ (w:World) (s:cu):Prop where
 aN:NM w s.aN
 gN:zg w s.gN
 ak:Mz w s.ak
 ab:Nh w s.ab
 bS:zg w s.bS
 e7:zg w s.e7
 dZ:zg w s.dZ
theorem N6:fL Tryz.prog 28=some [(24,0),(3,1),(25,2),(26,3),(3,4),(3,5),(3,6)]:=by kernel_rfl
theorem O8:tg Tryz.prog 28 cu cu.cells OJ:=fun {H} enc w base sp A fuel cs x h=>by
 obtain ⟨hl,hp⟩:=jK N6 h
 obtain ⟨n,u,Q⟩:=hp 0 24 0 rfl
 obtain ⟨e,B,X⟩:=OS _ _ _ _ _ _ _ _ Q
 obtain ⟨o,v,R⟩:=hp 1 3 1 rfl
 obtain ⟨f,C,Y⟩:=zG _ _ _ _ _ _ _ _ R
 obtain ⟨p,y,S⟩:=hp 2 25 2 rfl
 obtain ⟨g,D,Z⟩:=OR _ _ _ _ _ _ _ _ S
 obtain ⟨q,z,T⟩:=hp 3 26 3 rfl
 obtain ⟨i,E,a⟩:=Pr _ _ _ _ _ _ _ _ T
 obtain ⟨r,y4,AA⟩:=hp 4 3 4 rfl
 obtain ⟨j,F,b⟩:=zG _ _ _ _ _ _ _ _ AA
 obtain ⟨s,y5,V⟩:=hp 5 3 5 rfl
 obtain ⟨k,G,c⟩:=zG _ _ _ _ _ _ _ _ V
 obtain ⟨t,y6,W⟩:=hp 6 3 6 rfl
 obtain ⟨l,AB,d⟩:=zG _ _ _ _ _ _ _ _ W
 refine ⟨⟨e,f,g,i,j,k,l⟩,?_,⟨X,Y,Z,a,b,c,d⟩⟩
 have P:=g0 (hl.trans Pw) (by rw [zF]) AB
 have O:=en G (m:=6) (by rw [zF]) P
 have N:=en F (m:=5) (by rw [zF]) O
 have M:=en E (m:=4) (by rw [PB]) N
 have L:=en D (m:=3) (by rw [ON]) M
 have K:=en C (m:=2) (by rw [zF]) L
 have J:=en B (m:=1) (by rw [Nj]) K
 exact J
theorem OT:Tryz.prog.cellsOf 60=3:=by kernel_rfl
theorem PD:Tryz.prog.cellsOf 58=1:=by kernel_rfl
theorem Ko:Tryz.prog.cellsOf 107=2:=by kernel_rfl
structure E2 (w:World) (s:aH):Prop where
 fD:zg w s.fD
 Read:zg w s.Read
theorem Mp:fL Tryz.prog 107=some [(3,0),(3,1)]:=by kernel_rfl
theorem N3:tg Tryz.prog 107 aH aH.cells E2:=fun {H} enc w base sp A fuel cs x h=>by
 obtain ⟨hl,hp⟩:=jK Mp h
 obtain ⟨M,O,F⟩:=hp 0 3 0 rfl
 obtain ⟨K,B,AA⟩:=zG _ _ _ _ _ _ _ _ F
 obtain ⟨N,P,G⟩:=hp 1 3 1 rfl
 obtain ⟨L,C,J⟩:=zG _ _ _ _ _ _ _ _ G
 refine ⟨⟨K,L⟩,?_,⟨AA,J⟩⟩
 have E:=g0 (hl.trans Ko) (by rw [zF]) C
 have D:=en B (m:=1) (by rw [zF]) E
 exact D
def Nm (w:World) (s:bk):Prop:= ∃ l:List aH,s.n=l.length∧(rd s.a l.length 2 (l.map aH.cells)).holds w∧(∀ x∈l,E2 w x)∧l.length≤maxLen∧s.n≤s.c
theorem PH:tg Tryz.prog 58 bk (fun s=>[vS s.a s.n s.c]) Nm:=o3 Ob Ko N3
structure Pf (w:World) (s:eC):Prop where
 Start:zg w s.Start
 iL:zg w s.iL
 aj:Nm w s.aj
theorem Ok:fL Tryz.prog 60=some [(3,0),(3,1),(58,2)]:=by kernel_rfl
theorem PZ:tg Tryz.prog 60 eC eC.cells Pf:=fun {H} enc w base sp A fuel cs x h=>by
 obtain ⟨hl,hp⟩:=jK Ok h
 obtain ⟨R,AA,AB⟩:=hp 0 3 0 rfl
 obtain ⟨O,B,L⟩:=zG _ _ _ _ _ _ _ _ AB
 obtain ⟨S,V,J⟩:=hp 1 3 1 rfl
 obtain ⟨P,C,M⟩:=zG _ _ _ _ _ _ _ _ J
 obtain ⟨T,W,K⟩:=hp 2 58 2 rfl
 obtain ⟨Q,D,N⟩:=PH _ _ _ _ _ _ _ _ K
 refine ⟨⟨O,P,Q⟩,?_,⟨L,M,N⟩⟩
 have G:=g0 (hl.trans OT) (by rw [PD]) D
 have F:=en C (m:=2) (by rw [zF]) G
 have E:=en B (m:=1) (by rw [zF]) F
 exact E
theorem wy:ownKnob Tryz.prog.godebug=none:=by kernel_rfl
theorem uZ:laidOutB Tryz.prog=true:=by kernel_rfl
theorem sG (os:Os) (started:os.Started) (H:Type) (enc:TypeId×Value→H):
 ReturnsInHanded {} Tryz.checked os 6 .any (fun w args=>(Rows.raceRideSpec.pre enc Tryz.prog Tryz.f6 [] false w args∧laidMetH Tryz.prog [("kreisel/race.table",Rows.laid_kreisel_race_table)] w)∧sizedMet enc Tryz.prog Tryz.f6 (OpenSpec.ofChange Rows.raceRideSpec) false w args) (Rows.raceRideSpec.post enc Tryz.prog Tryz.f6 false true false false):=by
 refine returnsInHanded_of_change_and (C:=Tryz.checked) (X:=(fun w _=>laidMetH Tryz.prog [("kreisel/race.table",Rows.laid_kreisel_race_table)] w)) (fun _ _ _ hh h=>h.of_heap hh) wy started kr Tryz.func6
  (ChangeSpec.witness_shaped (enc:=enc) (C:=Tryz.checked) (os:=os) (X:=(fun w _=>laidMetH Tryz.prog [("kreisel/race.table",Rows.laid_kreisel_race_table)] w)) false (World.doorLaid Tryz.prog 400 os) #[.agg #[(vS none 0 0),(vI 0),(vS none 0 0),(vS none 0 0),(vI 0),(vI 0),(vI 0)],.agg #[(vI 0),(vI 0),(vS none 0 0)],.agg #[(vI 0),(vI 0)]] 8 rfl (World.shaped_of_RefB kr kr) kr kr kr (Bf os _)) ?_
 intro W base args ds gs before E hW _ _ hL _
 have B: ∀ (j:Nat) t v,Tryz.f6.params[j]? =some t→args[j]? =some v→Value.okWide Tryz.prog W .any base t v:=E
 have hW':=hW
 obtain ⟨p,q,K,hV,rfl,a,b⟩:=hW
 have hA:DataW.TrodAll enc Tryz.prog W 0 (fun _=>true) true Tryz.f6.params.toList args.toList ds p:=K
 have F:=hA
 rw [Tryz.params6] at hA B
 obtain ⟨O,i,n,S,u,q0,L,rfl,rfl,V,c⟩:=trodAll_cons hA
 obtain ⟨P,k,o,T,y,q1,rfl,rfl,rfl,Y,d⟩:=trodAll_cons c
 obtain ⟨Q,m,s,AA,z,q2,rfl,rfl,rfl,Z,f⟩:=trodAll_cons d
 obtain ⟨rfl,rfl,rfl⟩:=trodAll_nil f
 obtain rfl:args= #[O,P,Q]:=by cases args; simp_all
 obtain ⟨rfl,rfl⟩:=trodVars_none hV
 obtain ⟨s0,rfl,R0⟩:=pL N6 O8 (B 0 28 O rfl rfl) V
 obtain ⟨s1,rfl,R1⟩:=pL Ok PZ (B 1 60 P rfl rfl) Y
 obtain ⟨g,rfl,R2⟩:=pL MO DY (B 2 45 Q rfl rfl) Z
 simp only [List.append_nil] at hW' F
 have J:=u0 hL
 obtain ⟨l,az,kA,kC,cA,cC,bA,bC,rfl,G,D,_⟩:=CP (R1:=Hu) (R2:=LL) (R3:=EB) (R4:=KM) R0.aN.kH (fun x hx=>hx.ir) R0.ak (fun x hx=>hx.bj) R0.ab
 obtain ⟨r,gA,gC,rfl,N,M⟩:=D3 (R:=E2) R1.aj
 have AB:=(As l kA kC az cA cC bA bC r gA gC g G N).run W (by intro A hA; simp only [bw,List.not_mem_nil,or_false] at hA; rcases hA with rfl|rfl|rfl|rfl|rfl|rfl; exact J; exact D.1; exact D.2.1; exact D.2.2.1; exact D.2.2.2; exact M)
 refine (AB).mono fun e W' ⟨he,hk⟩=>?_
 subst he
 exact ⟨_,U,Ew uZ hW' F U U kr hk.below kr Qa⟩
theorem ug:Rows.RaceRideSaid:=
 OpenClaim.holds_of_wide 6 Tryz.f6 rfl rfl rfl rfl rfl rfl rfl ⟨rfl,rfl,rfl,rfl,rfl⟩ rfl rfl rfl rfl rfl kr Tryz.func6 sx
  (of_decide_eq_true kr) (by unfold Func.isWrapper; first|(rw [if_pos (by decide+kernel)]; kernel_rfl)|(rw [if_neg (by decide+kernel)]; exact ⟨rfl,rfl⟩))
  (fun os started H enc _=>sG os started H enc)
/-- the statement -/
theorem raceRide_said:Rows.RaceRideCardSaid:=
 Claim7.holds_tied_plain_at .later [] [.funcsDeep] true (true,"128c7b92841058bed12da8afed87bbc4b0aaabe1f53fa26f3375c79494883c5c") true
  ug (fun _ h=>by cases h) kr (fun _ h=>by cases h) raceRide_row_tie rfl ⟨rfl,rfl⟩ kr rfl
  (fun f fn hf B=>by
   obtain rfl:f=6:=Option.some.inj ((show Tryz.prog.funcNamed "kreisel/kreisellaw06.RaceRide"=some 6 by kernel_rfl).symm.trans hf) |>.symm
   obtain rfl:fn=Tryz.f6:=(Option.some.inj (Tryz.func6.symm.trans B)).symm
   exact ⟨kr,fun j t ht=>by
    rw [Tryz.params6] at ht
    have hm:t∈([28,60,45]:List Nat):=by simpa using Array.mem_of_getElem? ht
    have A:(([28,60,45]:List Nat).all fun u=> !Tryz.prog.wantsStandIn u)=true:=by kernel_rfl
    exact (show Tryz.prog.wantsStandIn t=false by simpa using cN.1 A t hm)⟩)
  kr
#print axioms raceRide_said
end
end Go.Proofs.YtlajhejcfcoddaaGreatDoor
