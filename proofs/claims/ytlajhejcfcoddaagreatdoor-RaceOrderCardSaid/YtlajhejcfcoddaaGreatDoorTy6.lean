/-
 The statement raceOrder_said, part 6 of 8: V2, V1, V4, V3, V5, V6, V8, Wh2, Rc2, Rc3, Rc4, Rs1, S2, Rs2, Rs4, Rx1, Rx2, B10, WLe, Z1, Rx4, DrawB, Async, NJoin, Rs5, Rt3, RkS, RaS, RtS.
 Conditions: none.
-/
import Derived.Test.YtlajhejcfcoddaaGreatDoorTy1
import Derived.Test.YtlajhejcfcoddaaGreatDoorTy2
import Derived.Test.YtlajhejcfcoddaaGreatDoorTy3
import Derived.Test.YtlajhejcfcoddaaGreatDoorTy4
import Derived.Test.YtlajhejcfcoddaaGreatDoorTy5
import Derived.KernelRfl
namespace Go.Proofs.YtlajhejcfcoddaaGreatDoor
set_option maxRecDepth 100000
set_option maxHeartbeats 4000000
set_option linter.unusedVariables false
section
open Go.RowKit
theorem si (ln:bW) (ri:dY) (e:List Int) (tms:List TM) (e_A:OA) (e_C:Nat) (tb:List Nat) (t_A:OA) (t_C:Nat) (fA:OA) (fN fC:Nat) (bA:OA) (bN bC:Nat) (gw b:Nat) (g1 g2:Nat) (hb:b<tms.length) (htb:tb.length=tms.length):
 E2 Tryz.prog 141 [] [(vP g1),(vP g2)] [(rd e_A e.length 1 (e.map iC)),(rd t_A tms.length 1 (List.zipWith gN tms tb)),(fc (aU rK tms tb)),(cb gw 166 (ck.cells (ck.mk ln ri (bo.mk e_A e.length e_C) (bo.mk t_A tms.length t_C) (bo.mk fA fN fC) (bo.mk bA bN bC)))),(cb g1 121 [(vP gw)]),(cb g2 3 [(vI (b:Int))])] ([]:List (Int×aa)) (fun ys x ys'=> ∃ o,o∈iF (cP ln ri e tms) b∧x=Pa o∧ys'=ys++[o]) (fun ys=> ∀ o∈iF (cP ln ri e tms) b,o∈ys):=by
 refine uf kr Tryz.func141 U U fun l J Z A0 d Q hY V AA hQ hN=>?_
 try dsimp only
 refine aj fun _ X=>aj fun _ R=>dK cE 12 kr<|mT 2 [] (mr 5 U mn) U<|dS (SX (bO U U) U U)<|mT 4 [0,1] (mr 4 U (mr 5 U mn)) U<|dS (SX (bO U U) U U)<|dP 3 [] (mr 4 U mn) ?_
 refine dS (SX (bk (xs:=[(0,.tmp 11),(1,.tmp 16)]) (cs:=(aa.cells (aa.mk ri.Start ri.gk))) U U (bj gv U)) U U)<|cR<|kK (k:=([]:List (Int×aa))) (k':=(([]:List (Int×aa))++[((-1),(aa.mk ri.Start ri.gk))])) 0 (by first|exact hsz|exact Nat.le_refl _) hY V AA U U U (by exact ⟨(-1,⟨ri.Start,ri.gk⟩),cm ..,U,U⟩) U U (fun B3 N M=>?_) (fun B3 N M=>?_)
 rotate_left 1
 ·refine rP 1 [] mn ?_
  refine RK R<|aQ U<|aq ?_
  refine hQ _ _ _ (hE (vs:=[]) trivial fun w hs=>rT 0 U N M hs)
 refine bh 1 U<|RK R<|aW U<|WK X<|aj fun _ Y=>dK cE 7 kr<|mT 1 [] (mr 5 U mn) U<|dS (SX (bO U U) U U)<|dP 3 [0,1] (mr 4 U (mr 6 U mn)) ?_
 obtain ⟨x,hx⟩:=aJ tms b I
 obtain ⟨xa,L⟩:=aJ tb b I
 have a:(List.zipWith gN tms tb)[b]? =some (gN x xa):=dG hx L
 refine dS (IA b U (aA 2 U) Gi dc I I)<|dS (fT b 0 (Value.map (some xa)) U cd (aA 2 U) a U dc U)<|cR<|j3 (kV:=iV) (m:=bM dD x) 3 U U k8 U ⟨⟨(g_ iV xa (bM dD x)),(bV hx L (by simp [rK])),U⟩,fun h=>h⟩ (show jc _ (g_ iV xa (bM dD x)).holds from dk 3 U (bV hx L (by simp [rK]))) U fun j=>?_
 try dsimp only
 refine RK Y<|ax ?_
 have G:(∀ o∈x,o∈x∨o∈(([]:List (Int×aa))++[((-1),(aa.mk ri.Start ri.gk))]))∧(∀ o∈x,o∈x)∧(J (([]:List (Int×aa))++[((-1),(aa.mk ri.Start ri.gk))]) B3)∧(Fo A0 d B3)∧((-1,(⟨ri.Start,ri.gk⟩:aa))∈(([]:List (Int×aa))++[((-1),(aa.mk ri.Start ri.gk))])):=by exact ⟨fun o ho=> .inl ho,fun o ho=>ho,asm,asm,sm⟩
 refine bL (ι:={z:TM×(List (Int×aa))×au // (∀ o∈x,o∈z.1∨o∈z.2.1)∧(∀ o∈z.1,o∈x)∧(J z.2.1 z.2.2)∧(Fo A0 d z.2.2)∧((-1,(⟨ri.Start,ri.gk⟩:aa))∈z.2.1)}) [0,1,2,27] [2,3,4,6,7] U U (fun z=>[]) (fun z=>[(zT iV j xa (bM dD x) (bM dD z.1.1) none),z.1.2.2]) (fun _=>rfl) (fun _=>rfl) (fun z=>z.1.1.length) ⟨(x,(([]:List (Int×aa))++[((-1),(aa.mk ri.Start ri.gk))]),B3),G⟩ (du.nil _) (aH [2,3,4,6,7,0,1]) ?_
 clear G
 rintro ⟨⟨left,ys,A⟩,⟨B,C,D,E,F⟩⟩ J8 W
 try dsimp only at B C D E F
 try dsimp only
 refine WS fun _ S=>jr (db mY).inj (f:=dD) 5 U U U U (fun T=>?_) (fun i z hm hn=>?_)
 ·refine rP 1 [] mn ?_
  refine RK S<|aj fun _ c=>aW U<|bD<|ab<|ab<|ay ?_
  refine hN _ _ _ (hE (vs:=[]) trivial fun w hs=>IN 6 U (by exact Ij hx B T F) D E hs)
 try dsimp only
 refine bh 1 U<|RK S<|aj fun _ O=>aQ U<|WK O<|ax<|WS fun _ P=>rS (SX (jq 5 U U U) U U)<|bh 2 U<|AL U dp fun g=>bh 1 U<|fX U cx U<|RK P<|WS fun _ K=>rP 3 [] (mc 0 U mn) ?_
 refine kK (k:=ys) (k':=(ys++[(i,z)])) 7 (by first|exact hsz|exact Nat.le_refl _) hY D E U U U (by exact ⟨(i,z),(xQ hx).2 (.inr (C _ hm)),U,U⟩) U U (fun B15 AB H=>?_) (fun B15 AB H=>?_)
 rotate_left 1
 ·refine rP 1 [] mn ?_
  refine RK K<|aQ U<|aq ?_
  refine hQ _ _ _ (hE (vs:=[]) trivial fun w hs=>rT 7 U AB H hs)
 refine rP 1 [] mn ?_
 refine RK K<|aW U<|bZ<|aB<|g9 6 U fJ U ?_
 refine aR (W ⟨((cG left i),(ys++[(i,z)]),B15),⟨H7 hn hm B,mz C,asm,asm,by simp [F]⟩⟩ _ _ _ U (e7 hm) (aV U) (aH [1,2,3,4,5,6,7]))
theorem uA (gw b:Nat):
 ld Tryz.prog 102 [(vP gw),(vI (b:Int))] [] (fun (x:Nat×Nat)=>(Value.func (.func 141) [].toArray [(Value.pointer (some ⟨x.1,0,none⟩)),(Value.pointer (some ⟨x.2,0,none⟩))].toArray)) (fun (x:Nat×Nat)=>True) (fun (x:Nat×Nat)=>[(cb x.1 121 [(vP gw)]),(cb x.2 3 [(vI (b:Int))])]):=by
 refine dg kr Tryz.func102 U U fun E Q hQ hN=>?_
 try dsimp only
 refine WS fun _ A=>uC U U fun C=>uC U U fun D=>bh 1 U<|RK A<|WS fun _ B=>rS (FU U)<|rP 1 [] mn ?_
 refine RK B<|aq<|LX hQ (C,D) [1,0] [] mn U U U U ?_
 trivial
theorem Ld (gw b:Nat):
 ld Tryz.prog 61 [(vP gw),(vI (b:Int))] [] (fun (x:Nat×Nat)=>(Value.func (.func 101) [].toArray [(Value.pointer (some ⟨x.1,0,none⟩)),(Value.pointer (some ⟨x.2,0,none⟩))].toArray)) (fun (x:Nat×Nat)=>True) (fun (x:Nat×Nat)=>[(cb x.1 121 [(vP gw)]),(cb x.2 3 [(vI (b:Int))])]):=by
 refine dg kr Tryz.func61 U U fun E Q hQ hN=>?_
 try dsimp only
 refine WS fun _ A=>uC U U fun C=>uC U U fun D=>bh 1 U<|RK A<|WS fun _ B=>rS (FU U)<|rP 1 [] mn ?_
 refine RK B<|aq<|LX hQ (C,D) [1,0] [] mn U U U U ?_
 trivial
end
section
open Go.RowKit
theorem pf:uz Tryz.prog 172 eA:=N4 O7 (fun x y w=>PV 9998 x y w) (fun x y h=>by cases x; cases y; simp [aD.cells] at h; simp [h]) (fun x=>by simp [aD.cells,Instr.sameBits]) (fun x w=>⟨_,rfl,fun p hp=>by
 simp only [bx,List.not_mem_nil,or_false] at hp
 rcases hp with rfl|rfl
 ·exact ⟨⟨_,j9 cd U w⟩,_,mY⟩
 ·exact ⟨⟨_,j9 cd U w⟩,_,mY⟩⟩)
theorem JY (s:Int):
 ep Tryz.prog 105 [(vI s)] [] (vA (aD.cells (fr s))):=by
 refine bG kr Tryz.func105 U U fun H Q hQ hN=>?_
 try dsimp only
 refine WS fun _ B=>AL U tL fun G=>RK B<|aj fun _ C=>WS fun _ D=>rP 2 [] mn ?_
 refine RK D<|cH U (aN fun A=>?_) (aO fun A=>?_)
 ·refine WS fun _ E=>rS (SX (bk (xs:=[(1,.const (vI 1))]) (cs:=(aD.cells (aD.mk 0 1))) U U (bj CF U)) U U)<|fX U rW U<|RK E<|aq<|IC hQ [0] (mc 0 U mn) U ?_
  unfold fr; first|rw [if_pos A]|rw [if_neg A]
 refine WK C<|WS fun _ F=>rS (SX (bk (xs:=[(0,.const (vI 1))]) (cs:=(aD.cells (aD.mk 1 0))) U U (bj CF U)) U U)<|fX U rW U<|RK F<|aq<|IC hQ [0] (mc 0 U mn) U ?_
 unfold fr; first|rw [if_pos A]|rw [if_neg A]
theorem wc (x:aD) (y:aD) (hx:(0≤x.right∧x.right≤1000)∧0≤x.eX∧x.eX≤1000) (hy:(0≤y.right∧y.right≤1000)∧0≤y.eX∧y.eX≤1000):
 ep Tryz.prog 104 [(vA (aD.cells x)),(vA (aD.cells y))] [] (vA (aD.cells (dy x y))):=by
 refine bG kr Tryz.func104 U U fun F Q hQ hN=>?_
 try dsimp only
 refine WS fun _ A=>fQ U fun C=>fQ U fun D=>AL U tL fun E=>RK A<|WS fun _ B=>rP 10 [0,1,0,1] (mc 2 U (mc 1 U mn)) ?_
 refine rS (SX (bk (xs:=[(0,.tmp 9),(1,.tmp 14)]) (cs:=(aD.cells (aD.mk (x.right+y.right) (x.eX+y.eX)))) U U (bj CF U)) U U)<|fX U rW U<|RK B<|aq ?_
 exact IC hQ [0] (mc 0 U mn) U U
theorem PN (ln:bW) (ri:dY) (e:List Int) (tms:List TM) (e_A:OA) (e_C:Nat) (tb:List Nat) (t_A:OA) (t_C:Nat) (fs:List FM) (bs:List FM) (fb:List Nat) (f_A:OA) (f_C:Nat) (bb:List Nat) (b_A:OA) (b_C gw:Nat) (x:aD) (hx:(0≤x.right∧x.right≤1000)∧0≤x.eX∧x.eX≤1000) (hn:ri.ah.n≤1000):
 ep Tryz.prog 103 [(vP gw),(vA (aD.cells x))] [(rd e_A e.length 1 (e.map iC)),(rd t_A tms.length 1 (List.zipWith gN tms tb)),(fc (aU rK tms tb)),(rd f_A fs.length 1 (List.zipWith gN fs fb)),(fc (aU ob fs fb)),(rd b_A bs.length 1 (List.zipWith gN bs bb)),(fc (aU ob bs bb)),(cb gw 166 (ck.cells (ck.mk ln ri (bo.mk e_A e.length e_C) (bo.mk t_A tms.length t_C) (bo.mk f_A fs.length f_C) (bo.mk b_A bs.length b_C))))] (vB (kG (cP ln ri e tms) x)):=by
 refine bG kr Tryz.func103 U U fun E Q hQ hN=>?_
 try dsimp only
 refine WS fun _ C=>fQ U fun D=>bh 1 U<|RK C<|aj fun _ B=>dK cE 26 kr<|mT 3 [] (mc 0 U mn) U<|dS (SX (bO U U) U U)<|dP 5 [] (mr 8 U mn) ?_
 refine jy (t:=13) U (aO fun A=>?_) (aN fun A=>?_)
 ·refine dP 17 [] mn ?_
  refine cR<|RK B<|aq<|Q1 hQ U U U ?_
  exact cB (cq (fun h=>A h.1)).symm
 refine l5 1 U<|dS (SX (bO U U) U U)<|mT 8 [0,1] (mr 8 U (mc 0 U mn)) U<|dS (SX (bO U U) U U)<|dP 6 [] (mr 8 U mn) ?_
 refine cR<|RK B<|aq<|Q1 hQ U U U ?_
 exact cB (gi.2 ⟨fun h=>⟨A,h⟩,fun h=>h.2⟩)
end
section
open Go.RowKit
theorem HE (ln:bW) (ri:dY) (e:List Int) (tms:List TM) (e_A:OA) (e_C:Nat) (tb:List Nat) (t_A:OA) (t_C:Nat) (fs:List FM) (bs:List FM) (fb:List Nat) (f_A:OA) (f_C:Nat) (bb:List Nat) (b_A:OA) (b_C gw:Nat) (b g1 g2:Nat) (mf:FM) (mb:FM) (hb:b<e.length) (hw:Il (cP ln ri e tms)) (htb:tb.length=tms.length) (hfw:xy (cP ln ri e tms) fs) (hfb:fb.length=fs.length) (hbw:uH (cP ln ri e tms) bs) (hbb:bb.length=bs.length) (hsg:ri.ah.n≤1000) (hm1:fs[b]? =some mf) (hm2:bs[b+1]? =some mb):
 E2 Tryz.prog 101 [] [(vP g1),(vP g2)] [(rd e_A e.length 1 (e.map iC)),(rd t_A tms.length 1 (List.zipWith gN tms tb)),(fc (aU rK tms tb)),(rd f_A fs.length 1 (List.zipWith gN fs fb)),(fc (aU ob fs fb)),(rd b_A bs.length 1 (List.zipWith gN bs bb)),(fc (aU ob bs bb)),(cb gw 166 (ck.cells (ck.mk ln ri (bo.mk e_A e.length e_C) (bo.mk t_A tms.length t_C) (bo.mk f_A fs.length f_C) (bo.mk b_A bs.length b_C)))),(cb g1 121 [(vP gw)]),(cb g2 3 [(vI (b:Int))])] ([]:List (Int×aa)) (fun ys x ys'=> ∃ q,q∈p5 (cP ln ri e tms) b mf mb∧x=Pa q∧ys'=ys++[q]) (fun ys=> ∀ q∈p5 (cP ln ri e tms) b mf mb,q∈ys):=by
 have Kj:e.length≤6:=hw.n
 have K0:tms.length=e.length:=hw.times
 have J5:fs.length=e.length+1:=hfw.len
 have J4:bs.length=e.length+1:=hbw.len
 refine uf kr Tryz.func101 U U fun l J Z A0 w0 Q hY FS Eq hQ hN=>?_
 try dsimp only
 refine WS fun _ Fd=>uC U U fun b2=>RK Fd<|WS fun _ Fm=>rP 2 [0,1] (mr 10 U (mr 11 U mn)) ?_
 refine cX (uA gw b) (aI) U fun y4 K4=>?_
 obtain ⟨C3,Di⟩:=y4
 try dsimp only
 refine RK Fm<|ax<|kF 4 U (by exact fun _ h=>h)<|kF 6 U (by exact fun _ h=>h)<|kF 8 U (by exact fun _ h=>h)<|kF 14 U (by exact fun _ h=>h) ?_
 refine nz (L0:=[(0,(Value.func (.yield l) #[] #[])),(1,(vP g1)),(2,(vP g2)),(3,(vP b2))]) (F:=[(rd e_A e.length 1 (e.map iC)).ro,(rd t_A tms.length 1 (List.zipWith gN tms tb)).ro,(fc (aU rK tms tb)).ro,(cb gw 166 (ck.cells (ck.mk ln ri (bo.mk e_A e.length e_C) (bo.mk t_A tms.length t_C) (bo.mk f_A fs.length f_C) (bo.mk b_A bs.length b_C)))).ro,(cb C3 121 [(vP gw)]),(cb Di 3 [(vI (b:Int))])]) (fun k (y:(List (Int×aa))×au)=>(lK (cP ln ri e tms) b mf mb k y.1)∧(J y.1 y.2)∧(Fo A0 w0 y.2)) (fun k y=>[(cb b2 169 [(Value.func (.yield l) #[] #[])]),y.2,(rd e_A e.length 1 (e.map iC)).ro,(rd t_A tms.length 1 (List.zipWith gN tms tb)).ro,(fc (aU rK tms tb)).ro,(rd f_A fs.length 1 (List.zipWith gN fs fb)).ro,(fc (aU ob fs fb)).ro,(rd b_A bs.length 1 (List.zipWith gN bs bb)).ro,(fc (aU ob bs bb)).ro,(cb gw 166 (ck.cells (ck.mk ln ri (bo.mk e_A e.length e_C) (bo.mk t_A tms.length t_C) (bo.mk f_A fs.length f_C) (bo.mk b_A bs.length b_C)))).ro,(cb g1 121 [(vP gw)]).ro,(cb g2 3 [(vI (b:Int))]).ro]) (fun c (z:au)=>(c= .ret∧(Z z)∧(Fo A0 w0 z))) (fun _ z=>[(cb b2 169 [(Value.func (.yield l) #[] #[])]),z,(rd e_A e.length 1 (e.map iC)).ro,(rd t_A tms.length 1 (List.zipWith gN tms tb)).ro,(fc (aU rK tms tb)).ro,(rd f_A fs.length 1 (List.zipWith gN fs fb)).ro,(fc (aU ob fs fb)).ro,(rd b_A bs.length 1 (List.zipWith gN bs bb)).ro,(fc (aU ob bs bb)).ro,(cb gw 166 (ck.cells (ck.mk ln ri (bo.mk e_A e.length e_C) (bo.mk t_A tms.length t_C) (bo.mk f_A fs.length f_C) (bo.mk b_A bs.length b_C)))).ro,(cb g1 121 [(vP gw)]).ro,(cb g2 3 [(vI (b:Int))]).ro]) [6,7,8,9,10,11,12,13,14,15,16,17] [3,2,1,0,4,5] (([]:List (Int×aa)),A0) rfl rfl (si ln ri e tms e_A e_C tb t_A t_C f_A fs.length f_C b_A bs.length b_C gw b C3 Di I I) rfl rfl rfl (by exact ⟨lK.nil,FS,Eq⟩) (by simp only [List.forall_mem_cons,List.not_mem_nil,false_imp_iff,implies_true,and_true]; exact ⟨⟨_,aT (i:=0) rfl,(dQ (bS _))⟩,⟨_,aT (i:=1) rfl,(dQ (bS _))⟩,⟨_,aT (i:=2) rfl,(dQ (bS _))⟩,⟨_,aT (i:=3) rfl,(dQ (bS _))⟩,⟨_,aT (i:=4) rfl,(bS _)⟩,⟨_,aT (i:=5) rfl,(bS _)⟩⟩) (by rintro k x k2 ⟨o,_,rfl,_⟩; rfl) rfl (aV rfl) ?_ ?_ ?_ ?_
 rotate_left 1
 ·rintro LA k ⟨ys,A⟩ Cp Ai
  obtain ⟨X,Y,a⟩:=Ai
  try dsimp only at X Y a
  try dsimp only
  refine aB ?_
  refine hN _ _ _ (oN 0 U U<|hE (vs:=[]) trivial fun w hs=>IN 8 U (by exact lK.fin X Cp) Y a hs)
 ·rintro LD id A C1
  simp at C1
 ·rintro LE A C2
  obtain ⟨hc,GT,Go⟩:=C2
  try dsimp only
  refine hQ _ _ _ (oN 0 U U<|hE (vs:=[]) trivial fun w hs=>rT 8 U GT Go hs)
 rintro k x k2 ⟨ys,A⟩ lr ra rb S w1 K8 Qr9 Hb hx AO Fn B9 In Dk
 obtain ⟨o,ho,rfl,rfl⟩:=hx
 obtain ⟨X,Y,a⟩:=AO
 try dsimp only at X Y a
 try dsimp only
 refine WS fun _ A4=>rP 1 [] mn ?_
 refine RK A4<|ak<|AL U dp fun JM=>fX U cx U<|aC<|jT (fun _ _ h=>h) (aH [1,0,2,3,4,5,6,7,8,9,10,11,12,13])<|aR (Fn _ _ ?_)
 refine ax<|aj fun _ A5=>dK cE 7 kr<|mT 1 [] (mr 12 U mn) U<|dS (SX (bO U U) U U)<|dP 3 [0,1] (mr 11 U (mr 13 U mn)) ?_
 obtain ⟨ga,s⟩:=aJ fb b I
 have Cx:(List.zipWith gN fs fb)[b]? =some (gN mf ga):=dG hm1 s
 refine dS (IA b U (aA 7 U) oI dc I I)<|dS (fT b 0 (Value.map (some ga)) U cd (aA 7 U) Cx U dc U)<|cR<|j3 (kV:=eA) (m:=bM iV mf) 8 U U o1 U ⟨⟨(g_ eA ga (bM iV mf)),(bV hm1 s (by simp [ob])),U⟩,fun h=>h⟩ (show jc _ (g_ eA ga (bM iV mf)).holds from dk 8 U (bV hm1 s (by simp [ob]))) U fun IR=>?_
 try dsimp only
 refine RK A5<|ax ?_
 have C:(∀ p∈mf,p∈mf)∧(nG (cP ln ri e tms) b mf mb o mf ys)∧(lK (cP ln ri e tms) b mf mb k ys)∧(J ys A)∧(Fo A0 w0 A):=by exact ⟨fun p hp=>hp,nG.start,X,Y,a⟩
 refine bL (ι:={z:FM×(List (Int×aa))×au // (∀ p∈z.1,p∈mf)∧(nG (cP ln ri e tms) b mf mb o z.1 z.2.1)∧(lK (cP ln ri e tms) b mf mb k z.2.1)∧(J z.2.1 z.2.2)∧(Fo A0 w0 z.2.2)}) [0,1,2,3,4,5,23] [1,2,3,5,6,7,8,9,10,11,12,13,14] U U (fun z=>[]) (fun z=>[(zT eA IR ga (bM iV mf) (bM iV z.1.1) none),z.1.2.2]) (fun _=>rfl) (fun _=>rfl) (fun z=>z.1.1.length) ⟨(mf,ys,A),C⟩ (du.nil _) (aH [1,2,3,5,6,7,8,9,10,11,12,13,14,0,4]) ?_
 clear C
 rintro ⟨⟨left,ys,A⟩,⟨K,M,N,O,P⟩⟩ J15 A3
 try dsimp only at K M N O P
 try dsimp only
 refine WS fun _ j=>jr pf.inj (f:=iV) 13 U U U U (fun Dz=>?_) (fun t v hm hn=>?_)
 ·refine rP 1 [] mn ?_
  refine RK j<|aj fun _ Id=>aW U<|bD<|ab<|ab<|ay<|aB ?_
  exact B9 (ys,A) _ _ (by exact ⟨lK.next N M Dz,O,P⟩) (aH [0,2,14,3,4,5,6,7,8,9,10,11,12])
 try dsimp only
 refine bh 1 U<|RK j<|aj fun _ A6=>aQ U<|WK A6<|ax<|WS fun _ A7=>rS (SX (jq 13 U U U) U U)<|bh 2 U<|AL U tL fun JQ=>fX U rW U<|bh 1 U<|RK A7<|aj fun _ A8=>dK cE 8 kr<|mT 1 [] (mr 12 U mn) U<|dS (SX (bO U U) U U)<|dP 4 [0,1] (mr 11 U (mr 13 U mn)) ?_
 obtain ⟨gb,AC⟩:=aJ bb (b+1) I
 have C0:(List.zipWith gN bs bb)[(b+1)]? =some (gN mb gb):=dG hm2 AC
 refine dS (IA (b+1) U (aA 9 U) oI dc I I)<|dS (fT (b+1) 0 (Value.map (some gb)) U cd (aA 9 U) C0 U dc U)<|cR<|j3 (kV:=eA) (m:=bM iV mb) 10 U U o1 U ⟨⟨(g_ eA gb (bM iV mb)),(bV hm2 AC (by simp [ob])),U⟩,fun h=>h⟩ (show jc _ (g_ eA gb (bM iV mb)).holds from dk 10 U (bV hm2 AC (by simp [ob]))) U fun IW=>?_
 try dsimp only
 refine RK A8<|ax ?_
 have C:(∀ p∈mb,p∈mb)∧(n8 (cP ln ri e tms) b mb o (t,v) mb ys)∧(nG (cP ln ri e tms) b mf mb o left ys)∧(lK (cP ln ri e tms) b mf mb k ys)∧(J ys A)∧(Fo A0 w0 A):=by exact ⟨fun p hp=>hp,n8.start,M,N,O,P⟩
 refine bL (ι:={z:FM×(List (Int×aa))×au // (∀ p∈z.1,p∈mb)∧(n8 (cP ln ri e tms) b mb o (t,v) z.1 z.2.1)∧(nG (cP ln ri e tms) b mf mb o left z.2.1)∧(lK (cP ln ri e tms) b mf mb k z.2.1)∧(J z.2.1 z.2.2)∧(Fo A0 w0 z.2.2)}) [0,1,2,3,4,5,6,7,23,37] [1,2,3,4,5,6,7,8,9,10,11,12,13,14,15] U U (fun z=>[]) (fun z=>[(zT eA IW gb (bM iV mb) (bM iV z.1.1) none),z.1.2.2]) (fun _=>rfl) (fun _=>rfl) (fun z=>z.1.1.length) ⟨(mb,ys,A),C⟩ (du.nil _) (aH [1,2,3,4,5,6,7,8,9,10,11,12,13,14,15,0,16]) ?_
 clear C
 rintro ⟨⟨l2,T,A2⟩,⟨B,D,E,G,H,AB⟩⟩ J23 V
 try dsimp only at B D E G H AB
 try dsimp only
 refine WS fun _ r=>jr pf.inj (f:=iV) 15 U U U U (fun EQ=>?_) (fun u z L As=>?_)
 ·refine rP 1 [] mn ?_
  refine RK r<|aj fun _ If=>aW U<|bD<|ab<|ab<|ay<|aB<|g9 14 U fJ U ?_
  refine aR (A3 ⟨((cG left t),T,A2),⟨mz K,nG.next hn hm E D EQ,G,H,AB⟩⟩ _ _ _ U (e7 hm) (aV U) (aH [1,2,3,4,5,6,7,8,9,10,11,12,13,14,16]))
 try dsimp only
 refine bh 1 U<|RK r<|aj fun _ A9=>aQ U<|WK A9<|ax<|WS fun _ B3=>rS (SX (jq 15 U U U) U U)<|bh 2 U<|AL U tL fun J2=>fX U rW U<|rP 1 [] mn ?_
 refine RK B3<|aj fun _ B7=>dF cE [17,18] [] [] [0,1,2,3,4,5,6,7,8,9,10,11,12,13,14,15,16,17] [] U U U U U<|eS U (MV U)<|eS U (UF 13 U cd U)<|eS U (SX (bO U U) U U)<|eS U (FA 10 U fp U)<|eS U (IB (vS e_A e.length e_C) 12 U cd U U)<|eS U (UF 14 U cd U) ?_
 obtain ⟨y,hy⟩:=aJ e b I
 have H1:=bK iC hy
 refine eS U (IA b U (aA 5 U) cw dc I I)<|eS U (fT b 0 (vI y) U cd (aA 5 U) H1 U dc U) ?_
 have J6:=hw.least y (aT hy)
 have GE:=I1 hw _ _ (hfw.mem hm1 (K _ hm))
 have F5:=Lc hw (hbw.mem hm2 (B _ L))
 have J7:=uN o.1
 have J8:=hw.opt ho
 dsimp only at GE F5
 refine eS U (BI U (iD ⟨I,I⟩))<|eS U (FA 0 U fp U)<|eS U (L1 (vI o.2.Lo) 3 U cd U U)<|eS U (MX U)<|eS U (MV U)<|eS U (FA 1 U fp U)<|eS U (L1 (vI o.2.Hi) 3 U cd U U)<|eS U (MN U)<|eS U (SX (bk (xs:=[(0,.tmp 54),(1,.tmp 58)]) (cs:=(aa.cells (aa.mk (max (v+y) o.2.Lo) (min z o.2.Hi)))) U U (bj gv U)) U U)<|eT U<|cf U fun T30 Ci=>AL U dp fun J3=>aC (Ci _ _ (aH [1,2,3,4,5,6,7,8,9,10,11,12,13,14,15,16,17,18]) ?_)
 refine cf U fun T32 Ck=>fX U cx U<|aC (Ck _ _ (aH [1,2,3,4,5,6,7,8,9,10,11,12,13,14,15,16,17,18]) ?_)
 refine fF U<|KK B7<|aj fun _ R=>dK cE 19 kr<|dP 6 [] (mc 0 U mn) ?_
 refine jy (t:=65) U (aO fun d=>?_) (aN fun d=>?_)
 ·refine l5 3 U<|l5 10 U<|cR<|rP 3 [] mn ?_
  refine RK R<|aW U<|bZ<|aB<|g9 17 U fJ U ?_
  refine aR (V ⟨((cG l2 u),T,A2),⟨mz B,n8.skip As L D (by exact Ik hy d),E,G,H,AB⟩⟩ _ _ _ U (e7 L) (aV U) (aH [2,3,4,5,6,7,8,9,10,11,12,13,14,15,16,17,18]))
 refine dP 3 [0,1,2] (mr 14 U (mc 2 U (mc 1 U mn))) ?_
 have KM:(0≤(dy t u).right∧(dy t u).right≤1000)∧0≤(dy t u).eX∧(dy t u).eX≤1000:=by simp only [dy]; omega
 have J9:(0≤(dy (dy t u) (fr o.1)).right∧(dy (dy t u) (fr o.1)).right≤1000)∧0≤(dy (dy t u) (fr o.1)).eX∧(dy (dy t u) (fr o.1)).eX≤1000:=by simp only [dy]; omega
 refine dS (CL (wc t u I I) (aI) U)<|l5 1 U<|dS (CL (JY o.1) (aI) U)<|dS (CL (wc (dy t u) (fr o.1) asm I) (aI) U)<|dS (CL (PN ln ri e tms e_A e_C tb t_A t_C fs bs fb f_A f_C bb b_A b_C gw (dy (dy t u) (fr o.1)) asm hsg) (bg [6,7,8,9,10,11,12,13]) U)<|dP 2 [] mn ?_
 refine jy (t:=75) U (fun g=>?_) (fun g=>?_)
 ·refine l5 3 U<|cR<|rP 3 [] mn ?_
  refine RK R<|aW U<|bZ<|aB<|g9 17 U fJ U ?_
  refine aR (V ⟨((cG l2 u),T,A2),⟨mz B,n8.skip As L D (by exact H2 g),E,G,H,AB⟩⟩ _ _ _ U (e7 L) (aV U) (aH [2,3,4,5,6,7,8,9,10,11,12,13,14,15,16,17,18]))
 refine dP 3 [0,1] (mc 5 U (mc 0 U mn)) ?_
 refine cR<|kK (k:=T) (k':=(T++[(o.1,(aa.mk (max (v+y) o.2.Lo) (min z o.2.Hi)))])) 18 (by first|exact Hb|exact Nat.le_refl _) hY H AB U U U (by exact ⟨(o.1,_),ij.2 ⟨o,ho,(t,v),K _ hm,(u,z),B _ L,(B8 hy d g)⟩,U,U⟩) U U (fun B34 W AA=>?_) (fun B34 W AA=>?_)
 rotate_left 1
 ·refine rP 2 [] mn ?_
  refine RK R<|aQ U<|aq ?_
  exact Dk B34 _ _ (by exact ⟨U,W,AA⟩) (aH [3,5,18,6,7,8,9,10,11,12,13,14,15])
 refine rP 2 [] mn ?_
 refine RK R<|aW U<|bZ<|aB<|g9 17 U fJ U ?_
 refine aR (V ⟨((cG l2 u),(T++[(o.1,(aa.mk (max (v+y) o.2.Lo) (min z o.2.Hi)))]),B34),⟨mz B,n8.UZ As L D (B8 hy d g),E.app,G.app,W,AA⟩⟩ _ _ _ U (e7 L) (aV U) (aH [2,3,4,5,6,7,8,9,10,11,12,13,14,15,16,17,18]))
end
section
open Go.RowKit
theorem HZ (ln:bW) (ri:dY) (e:List Int) (tms:List TM) (e_A:OA) (e_C:Nat) (tb:List Nat) (t_A:OA) (t_C:Nat) (fs:List FM) (bs:List FM) (fb:List Nat) (f_A:OA) (f_C:Nat) (bb:List Nat) (b_A:OA) (b_C gw:Nat) (hw:Il (cP ln ri e tms)) (hsg:ri.ah.n≤1000) (hn:ln.ae.n=e.length) (hfw:xy (cP ln ri e tms) fs) (hfb:fb.length=fs.length):
 ld Tryz.prog 99 [(vP gw)] [(rd e_A e.length 1 (e.map iC)),(rd t_A tms.length 1 (List.zipWith gN tms tb)),(fc (aU rK tms tb)),(rd f_A fs.length 1 (List.zipWith gN fs fb)),(fc (aU ob fs fb)),(rd b_A bs.length 1 (List.zipWith gN bs bb)),(fc (aU ob bs bb)),(cb gw 166 (ck.cells (ck.mk ln ri (bo.mk e_A e.length e_C) (bo.mk t_A tms.length t_C) (bo.mk f_A fs.length f_C) (bo.mk b_A bs.length b_C))))] (fun (x:(OA)×Nat)=>(vS x.1 ((jP (cP ln ri e tms)).length) x.2)) (fun (x:(OA)×Nat)=>True) (fun (x:(OA)×Nat)=>[(own x.1 x.2 3 1 ((jP (cP ln ri e tms)).map iC))]):=by
 have y:e.length≤6:=hw.n
 have u:fs.length=e.length+1:=hfw.len
 refine dg kr Tryz.func99 U U fun w0 Q hQ hN=>?_
 try dsimp only
 refine WS fun _ X=>bh 1 U<|RK X<|WS fun _ Y=>bh 1 U<|RK Y<|aj fun _ Z=>WS fun _ b=>bh 1 U<|rS (SX (bO U U) U U)<|rP 6 [] (mr 7 U mn) ?_
 refine RK b<|ax<|fZ 3 1 ?_
 have A:(0≤e.length+1):=by exact Nat.zero_le _
 refine bL (ι:={z:Nat×(OA)×Nat // (z.1≤e.length+1)}) [0,12] [1,2,3,4,5,6,7,8] U U (fun z=>[(3,(vS z.1.2.1 ((ku (cP ln ri e tms) z.1.1).length) z.1.2.2)),(13,(vI (z.1.1:Int)))]) (fun z=>[(own z.1.2.1 z.1.2.2 3 1 ((ku (cP ln ri e tms) z.1.1).map iC))]) (fun _=>rfl) (fun _=>rfl) (fun z=>e.length+1-z.1.1) ⟨(0,none,0),A⟩ (aV U) (aH [1,2,3,4,5,6,7,8,0]) ?_
 clear A
 rintro ⟨⟨n,a,c⟩,G⟩ J5 AB
 try dsimp only at G
 try dsimp only
 refine WS fun _ d=>rP 1 [] mn ?_
 refine RK d<|aj fun _ g=>bQ U (aO fun s=>?_) (aN fun s=>?_)
 ·refine bD<|ab<|ab<|ay<|KK Z<|WS fun _ P=>?_
  rw [show ku (cP ln ri e tms) n=jP (cP ln ri e tms) by (obtain rfl:n=e.length+1:=by omega); rfl]
  refine rP 2 [] mn ?_
  refine RK P<|aq<|LX hQ (a,c) [8] [] mn U U U U ?_
  trivial
 refine WK g<|aj fun _ R=>ax<|WS fun _ J=>bh 2 U<|RK J<|WS fun _ K=>bh 1 U<|rS (SX (bO U U) U U)<|rP 3 [] (mr 7 U mn) ?_
 obtain ⟨m,B⟩:=aJ fs n I
 obtain ⟨ma,hm0a⟩:=aJ fb n I
 have hm0m:(List.zipWith gN fs fb)[n]? =some (gN m ma):=dG B hm0a
 refine rS (IA n U (aA 3 U) oI dc I I)<|rS (fT n 0 (Value.map (some ma)) U cd (aA 3 U) hm0m U dc U)<|j3 (kV:=eA) (m:=bM iV m) 4 U U o1 U ⟨⟨(g_ eA ma (bM iV m)),(bV B hm0a (by simp [ob])),U⟩,fun h=>h⟩ (show jc _ (g_ eA ma (bM iV m)).holds from dk 4 U (bV B hm0a (by simp [ob]))) U fun l=>?_
 try dsimp only
 refine RK K<|ax ?_
 have A:(∀ p∈m,p∈m)∧(∀ p∈m,p∈m∨kG (cP ln ri e tms) p.1=false):=by exact ⟨fun p hp=>hp,fun p hp=> .inl hp⟩
 refine bL (ι:={z:FM // (∀ p∈z,p∈m)∧(∀ p∈m,p∈z∨kG (cP ln ri e tms) p.1=false)}) [0,3,4,12,13,23] [1,2,3,4,5,6,7,8,9] U U (fun z=>[]) (fun z=>[(zT eA l ma (bM iV m) (bM iV z.1) none)]) (fun _=>rfl) (fun _=>rfl) (fun z=>z.1.length) ⟨m,A⟩ (du.nil _) (aH [1,2,3,4,5,6,7,8,9,0]) ?_
 clear A
 rintro ⟨left,⟨C,D⟩⟩ J13 H
 try dsimp only
 refine WS fun _ F=>jr pf.inj (f:=iV) 9 U U U U (fun W=>?_) (fun t v hm i=>?_)
 ·refine bh 1 U<|RK F<|aj fun _ o=>aW U<|bD<|ab<|ab<|ay<|aB<|KK R<|ak<|rP 2 [] mn ?_
  refine aC ?_
  rw [← H_ (w:=(cP ln ri e tms)) (k:=n) ((CA (hfw.min _ _ B) (hfw.keys _ _ B)).symm.trans (KI D W))]
  have S:(vI (((n+1):Nat):Int))=(vI ((n:Int)+1)):=by exact cI I
  refine aR (AB ⟨((n+1),a,c),(by first|omega|(simp only []; omega))⟩ _ _ _ U os (cK 3<|aY U S<|du.nil _) (aH [0,1,2,3,4,5,6,7,8]))
 try dsimp only
 refine bh 1 U<|RK F<|aj fun _ L=>aQ U<|WK L<|ax<|WS fun _ M=>rS (SX (jq 9 U U U) U U)<|bh 1 U<|AL U tL fun q=>fX U rW U<|RK M<|WS fun _ N=>rP 2 [] (mc 0 U mn) ?_
 have j:=I1 hw _ _ (hfw.mem B (C _ hm))
 dsimp only at j
 refine rS (CL (PN ln ri e tms e_A e_C tb t_A t_C fs bs fb f_A f_C bb b_A b_C gw t I hsg) (bg [1,2,3,4,5,6,7,8]) U)<|RK N<|bQ U (fun E=>?_) (fun E=>?_)
 ·refine bZ<|aB<|g9 10 U fJ U ?_
  refine aR (H ⟨(cG left t),⟨mz C,Ka i hm D (by first|exact E|simpa using E)⟩⟩ _ _ _ U (e7 hm) (aV U) (aH [1,2,3,4,5,6,7,8,9,10]))
 refine WS fun _ O=>rP 2 [] mn ?_
 refine df (xs:=[.tmp 32]) (cs:=[(vI (n:Int))]) U cw js U U U U (by simp [Value.cells]) U U fun r=>?_
 have hy:jB (cP ln ri e tms) (fwd (cP ln ri e tms) n)=true:=(CA (hfw.min _ _ B) (hfw.keys _ _ B)).symm.trans (NI (C _ hm) E)
 refine cL (es2:=(List.map iC (ku (cP ln ri e tms) (n+1)))) (m':=(ku (cP ln ri e tms) (n+1)).length) 10 U U U o2 U U sm (bf (es:=List.map iC [(n:Int)]) 0 U U (by simp [bI]) U) (jM _) (by have:=xH (w:=(cP ln ri e tms)) (k:=n); first|omega|(simp; omega)) (by have:=xH (w:=(cP ln ri e tms)) (k:=n); simp only [maxLen]; omega) (by rw [DQ hy]; simp) sm U fun AA V=>?_
 try dsimp only
 refine bh 1 U<|RK O<|bD<|iU U<|ab<|ay<|aB<|KK R<|ak<|rP 2 [] mn ?_
 refine aC ?_
 have T:(vI (((n+1):Nat):Int))=(vI ((n:Int)+1)):=by exact cI I
 refine aR (AB ⟨((n+1),AA,V),(by first|omega|(simp only []; omega))⟩ _ _ _ U os (cK 3<|aY U T<|du.nil _) (aH [2,3,4,5,6,7,8,9,10]))
end
section
open Go.RowKit
theorem Ml (ln:bW) (ri:dY) (e:List Int) (tms:List TM) (e_A:OA) (e_C:Nat) (tb:List Nat) (t_A:OA) (t_C gw:Nat) (hw:Il (cP ln ri e tms)) (hn:ln.ae.n=e.length) (htb:tb.length=tms.length):
 Dx Tryz.prog 98 [(vP gw)] [(rd e_A e.length 1 (e.map iC)),(rd t_A tms.length 1 (List.zipWith gN tms tb)),(fc (aU rK tms tb))] (cb gw 166 (ck.cells (ck.mk ln ri (bo.mk e_A e.length e_C) (bo.mk t_A tms.length t_C) (bo.mk none 0 0) (bo.mk none 0 0)))) (fun (x:(List FM)×(List Nat)×(OA)×Nat×(List FM)×(List Nat)×(OA)×Nat)=>(vT [])) (fun (x:(List FM)×(List Nat)×(OA)×Nat×(List FM)×(List Nat)×(OA)×Nat)=>xy (cP ln ri e tms) x.1∧uH (cP ln ri e tms) x.2.2.2.2.1∧x.2.1.length=x.1.length∧x.2.2.2.2.2.1.length=x.2.2.2.2.1.length) (fun (x:(List FM)×(List Nat)×(OA)×Nat×(List FM)×(List Nat)×(OA)×Nat)=>(bw [(cb gw 166 (ck.cells (ck.mk ln ri (bo.mk e_A e.length e_C) (bo.mk t_A tms.length t_C) (bo.mk x.2.2.1 x.1.length x.2.2.2.1) (bo.mk x.2.2.2.2.2.2.1 x.2.2.2.2.1.length x.2.2.2.2.2.2.2)))),(own x.2.2.1 x.2.2.2.1 170 1 (List.zipWith gN x.1 x.2.1)),(bw (aU ob x.1 x.2.1)),(own x.2.2.2.2.2.2.1 x.2.2.2.2.2.2.2 170 1 (List.zipWith gN x.2.2.2.2.1 x.2.2.2.2.2.1)),(bw (aU ob x.2.2.2.2.1 x.2.2.2.2.2.1))])):=by
 have Wo:e.length≤6:=hw.n
 have Wp:tms.length=e.length:=hw.times
 refine mO kr Tryz.func98 U U fun w0 Q hQ hN=>?_
 try dsimp only
 refine WS fun _ Dk=>uC U U fun W=>RK Dk<|WS fun _ EQ=>fu 1 [] (mc 0 U mn) U<|rS (SX (bO U U) U U)<|rP 5 [] (mc 1 U mn) ?_
 refine RK EQ ?_
 refine oJ (ι:={z:(OA)×(OA) // True}) [0,1,2] [0,2,3,4] U U (fun z=>[]) (fun z=>[(own z.1.1 (ln.ae.n+1) 170 1 (List.map oC (List.replicate (ln.ae.n+1) (none:Option Nat)))),(own z.1.2 (ln.ae.n+1) 170 1 (List.map oC (List.replicate (ln.ae.n+1) (none:Option Nat)))),(cb gw 166 (ck.cells (ck.mk ln ri (bo.mk e_A e.length e_C) (bo.mk t_A tms.length t_C) (bo.mk z.1.1 (ln.ae.n+1) (ln.ae.n+1)) (bo.mk z.1.2 (ln.ae.n+1) (ln.ae.n+1)))))]) (fun _=>rfl) (fun _=>rfl) ?_ fun K4 Eq=>?_
 ·rintro ⟨⟨fA,bA⟩,_⟩
  try dsimp only
  refine BL 6 U U fun wz Sz hz=>?_
  have Wl:(List.replicate (ln.ae.n+1) (none:Option Nat)).length=(ln.ae.n+1):=List.length_replicate
  try dsimp only
  refine oJ (ι:={z:Nat // True}) [0,1,2] [0,1,2,3,4,6] U U (fun z=>[]) (fun z=>[(bw (aU ob [[((aD.mk 0 0),ri.Start)]] [z.1])),(own fA (ln.ae.n+1) 170 1 (List.map oC (eG [z.1] (ln.ae.n+1))))]) (fun _=>rfl) (fun _=>rfl) ?_ fun K5 UV=>?_
  ·rintro ⟨ga,_⟩
   try dsimp only
   refine aj fun _ FS=>WS fun _ Fd=>rP 2 [] mn ?_
   refine RK Fd<|ax<|lX ?_
   have C:(0≤ln.ae.n)∧(([[((aD.mk 0 0),ri.Start)]]).length=0+1)∧(([ga]).length=0+1)∧(qe (cP ln ri e tms) ([[((aD.mk 0 0),ri.Start)]])):=by exact ⟨Nat.zero_le _,rfl,rfl,qe.first⟩
   refine wa (ι:={z:Nat×(List FM)×(List Nat)×(List Nat) // (z.1≤ln.ae.n)∧(z.2.1.length=z.1+1)∧(z.2.2.1.length=z.1+1)∧(qe (cP ln ri e tms) z.2.1)}) (fun z=>z.1.2.2.2.map lI) (fun z=>[(0,(vP gw)),(1,(vP W)),(2,(vI (ln.ae.n:Int))),(52,(vI (ln.ae.n:Int))),(53,(vI (z.1.1:Int)))]) (fun z=>[(bw (z.1.2.2.2.map lR)),(cb gw 166 (ck.cells (ck.mk ln ri (bo.mk e_A e.length e_C) (bo.mk t_A tms.length t_C) (bo.mk fA (ln.ae.n+1) (ln.ae.n+1)) (bo.mk bA (ln.ae.n+1) (ln.ae.n+1))))).ro,(cb W 121 [(vP gw)]),(rd e_A e.length 1 (e.map iC)).ro,(rd t_A tms.length 1 (List.zipWith gN tms tb)).ro,(fc (aU rK tms tb)).ro,(own bA (ln.ae.n+1) 170 1 (List.map oC (List.replicate (ln.ae.n+1) (none:Option Nat)))),(bw (aU ob z.1.2.1 z.1.2.2.1)),(own fA (ln.ae.n+1) 170 1 (List.map oC (eG z.1.2.2.1 (ln.ae.n+1))))]) (fun z=>ln.ae.n-z.1.1) ⟨(0,[[((aD.mk 0 0),ri.Start)]],[ga],([]:List Nat)),C⟩ U (aV U) (aH [0,1,2,3,4,5,6,7,8]) ?_
   clear C
   rintro ⟨⟨b,fs,fb,S2⟩,⟨If,A4,In,M⟩⟩ J8 T6
   try dsimp only at If A4 In M
   try dsimp only
   have Wm:(eG fb (ln.ae.n+1)).length=(ln.ae.n+1):=q_ I
   refine WS fun _ Fm=>rP 1 [] mn ?_
   refine RK Fm<|aj fun _ AO=>cH U (aN fun T2=>?_) (aO fun T2=>?_)
   ·refine WK AO<|aj fun _ LA=>ax<|WS fun _ LD=>rP 1 [] mn ?_
    refine AL U js fun s=>D7 U Cw U U<|RK LD<|aj fun _ LE=>dF cE [6,8] [6] [0] [0,1,2,3,4,5,6,7,8] [0,1,2,3,4,5,6,7,8,9] U U U U U<|eS U (Er 3 U cd U)<|eS U (SX (bO U U) U U)<|eS U (FA 12 U fp U)<|eS U (IB (vS fA (ln.ae.n+1) (ln.ae.n+1)) 2 U cd U U)<|eS U (Er 0 U cd U)<|eS U (BI U (iD ⟨I,I⟩)) ?_
    obtain ⟨WG,Sb⟩:=aJ (eG fb (ln.ae.n+1)) (b+1) I
    have hx17m:(List.map oC (eG fb (ln.ae.n+1)))[(b+1)]? =some (oC WG):=by rw [fH,Sb]; rfl
    refine fS U (IA (b+1) U (ag (n:=(ln.ae.n+1)) 9 U sq) oI dc I I) ?_
    refine eT U<|gM U fun T18 Ql=>lx (kV:=eA) U U fun B=>?_
    try dsimp only
    refine aC (Ql _ _ (aH [1,2,3,4,5,6,7,8,9]) (aH [1,2,3,4,5,6,7,8,9,10]) ?_)
    refine cf U fun T20 Qn=>?_
    have R2:((eG fb (ln.ae.n+1)).set (b+1) (some B))=(eG (fb++[B]) (ln.ae.n+1)):=by exact uK I I
    refine dM (k:=(b+1)) (o:=0) (vs:=[(Value.map (some B))]) (es':=(List.map oC (eG (fb++[B]) (ln.ae.n+1)))) (C':=[_,_,_,_,_,_,_,_,_,_,(own fA (ln.ae.n+1) 170 1 (List.map oC (eG (fb++[B]) (ln.ae.n+1))))]) 10 U U U Mb U U U U hx17m U dc (by exact (List.map_set (f:=oC) (l:=(eG fb (ln.ae.n+1))) (i:=(b+1)) (a:=(some B))).symm.trans (congrArg _ R2)) U<|aC (Qn _ _ (aH [1,2,3,4,5,6,7,8,9]) ?_)
    refine fF U<|KK LE<|aj fun _ LT=>?_
    have VW:(eG (fb++[B]) (ln.ae.n+1)).length=(ln.ae.n+1):=q_ (by simp; omega)
    obtain ⟨mb,N⟩:=aJ fs b I
    obtain ⟨ga,Z⟩:=aJ fb b I
    refine Gh 9 N Z U U U ?_
    try dsimp only
    refine dK cE 7 kr<|mT 1 [] (mc 6 U mn) U<|dS (SX (bO U U) U U)<|dP 3 [0,1] (mr 5 U (mc 3 U mn)) ?_
    have R6:(List.map oC (eG (fb++[B]) (ln.ae.n+1)))[b]? =some (oC (some ga)):=rZ (o3 (Ji Z))
    refine dS (IA b U (ag (n:=(ln.ae.n+1)) 11 U sq) oI dc I I) ?_
    refine dS (fT b 0 (Value.map (some ga)) U cd (ag (n:=(eG (fb++[B]) (ln.ae.n+1)).length) 11 U sm) R6 U dc U)<|cR<|ur 0 U U o1 U U fun B7=>?_
    try dsimp only
    refine RK LT<|ax ?_
    have C:(∀ p∈mb,p∈mb)∧(xh (cP ln ri e tms) b ([]:FM))∧(jY (cP ln ri e tms) b mb ([]:FM) mb):=by exact ⟨fun p hp=>hp,xh.start,jY.start⟩
    refine wa (ι:={z:FM×FM×(List Nat) // (∀ p∈z.1,p∈mb)∧(xh (cP ln ri e tms) b z.2.1)∧(jY (cP ln ri e tms) b mb z.2.1 z.1)}) (fun z=>z.1.2.2.map lI) (fun z=>[(0,(vP gw)),(1,(vP W)),(2,(vI (ln.ae.n:Int))),(3,(vP s)),(52,(vI (ln.ae.n:Int))),(53,(vI (b:Int))),(71,(vP B7))]) (fun z=>[(yF eA B7 ga (bM iV mb) (bM iV z.1.1) none),(bw (fE ob fs fb b)),(g_ eA B (bM iV z.1.2.1)),(cb s 3 [(vI (b:Int))]),(bw (z.1.2.2.map lR)),(cb gw 166 (ck.cells (ck.mk ln ri (bo.mk e_A e.length e_C) (bo.mk t_A tms.length t_C) (bo.mk fA (ln.ae.n+1) (ln.ae.n+1)) (bo.mk bA (ln.ae.n+1) (ln.ae.n+1))))).ro,(cb W 121 [(vP gw)]),(rd e_A e.length 1 (e.map iC)).ro,(rd t_A tms.length 1 (List.zipWith gN tms tb)).ro,(fc (aU rK tms tb)).ro,(own bA (ln.ae.n+1) 170 1 (List.map oC (List.replicate (ln.ae.n+1) (none:Option Nat)))),(own fA (ln.ae.n+1) 170 1 (List.map oC (eG (fb++[B]) (ln.ae.n+1))))]) (fun z=>z.1.1.length) ⟨(mb,([]:FM),S2),C⟩ U (aV U) (aH [0,1,2,3,4,5,6,7,8,9,10,11]) ?_
    clear C
    rintro ⟨⟨left,m,A5⟩,⟨c,d,g⟩⟩ J26 K0
    try dsimp only at c d g
    try dsimp only
    refine WS fun _ Ck=>sR pf.inj (f:=iV) 0 U U U U (fun T4=>?_) (fun t v hm JM=>?_)
    ·refine bh 1 U<|RK Ck<|aj fun _ WR=>aW U<|bD<|ab<|ab<|ay<|aB<|KK LA<|ak<|rP 2 [] mn ?_
     refine aC<|I2 (C':=[(g_ eA ga (bM iV mb)),(bw (fE ob fs fb b)),(g_ eA B (bM iV m)),(cb s 3 [(vI (b:Int))]),(bw (A5.map lR)),(cb gw 166 (ck.cells (ck.mk ln ri (bo.mk e_A e.length e_C) (bo.mk t_A tms.length t_C) (bo.mk fA (ln.ae.n+1) (ln.ae.n+1)) (bo.mk bA (ln.ae.n+1) (ln.ae.n+1))))).ro,(cb W 121 [(vP gw)]),(rd e_A e.length 1 (e.map iC)).ro,(rd t_A tms.length 1 (List.zipWith gN tms tb)).ro,(fc (aU rK tms tb)).ro,(own bA (ln.ae.n+1) 170 1 (List.map oC (List.replicate (ln.ae.n+1) (none:Option Nat)))),(own fA (ln.ae.n+1) 170 1 (List.map oC (eG (fb++[B]) (ln.ae.n+1))))]) 0 U IM U<|KD 1 0 N Z U U U ?_
     try dsimp only
     refine zk (X':=aU ob (fs++[m]) (fb++[B])) 0 1 U U (zo I U) ?_
     try dsimp only
     have R3:(vI (((b+1):Nat):Int))=(vI ((b:Int)+1)):=by exact cI I
     refine aR (T6 ⟨((b+1),(fs++[m]),(fb++[B]),A5),⟨I,by simp; omega,by simp; omega,M.add A4 N d g T4⟩⟩ _ _ _ U os (cK 4<|aY U R3<|du.nil _) (aH [2,3,4,5,6,7,8,0,9]))
    try dsimp only
    refine bh 1 U<|RK Ck<|aj fun _ La=>aQ U<|WK La<|ax<|WS fun _ Li=>rS (SX (sE 0 U U U) U U)<|bh 2 U<|AL U tL fun J3=>AL U js fun J4=>sT U rW U<|D7 U Cw U U<|RK Li<|WS fun _ Lk=>rP 2 [0,1] (mc 8 U (mc 5 U mn)) ?_
    refine cX (uA gw b) (aI) U fun WM WV=>?_
    obtain ⟨C0,C3⟩:=WM
    try dsimp only
    refine RK Lk<|ax<|kF 11 U (by exact fun _ h=>h)<|kF 13 U (by exact fun _ h=>h)<|kF 15 U (by exact fun _ h=>h)<|kF 12 U (by exact fun _ h=>h) ?_
    refine nz (L0:=[(0,(vP gw)),(1,(vP W)),(2,(vI (ln.ae.n:Int))),(3,(vP s)),(4,(vP J3)),(5,(vP J4)),(52,(vI (ln.ae.n:Int))),(53,(vI (b:Int))),(71,(vP B7))]) (F:=[(rd e_A e.length 1 (e.map iC)).ro,(rd t_A tms.length 1 (List.zipWith gN tms tb)).ro,(fc (aU rK tms tb)).ro,(cb gw 166 (ck.cells (ck.mk ln ri (bo.mk e_A e.length e_C) (bo.mk t_A tms.length t_C) (bo.mk fA (ln.ae.n+1) (ln.ae.n+1)) (bo.mk bA (ln.ae.n+1) (ln.ae.n+1))))).ro,(cb C0 121 [(vP gw)]),(cb C3 3 [(vI (b:Int))])]) (fun k (y:FM)=>(nB (cP ln ri e tms) b mb left y (t,v) k)) (fun k y=>[(cb J4 3 [(vI v)]),(cb J3 172 (aD.cells t)),(yF eA B7 ga (bM iV mb) (bM iV (cG left t)) (some (t,(vI v)))),(bw (fE ob fs fb b)),(g_ eA B (bM iV y)),(cb s 3 [(vI (b:Int))]),(bw (A5.map lR)),(cb gw 166 (ck.cells (ck.mk ln ri (bo.mk e_A e.length e_C) (bo.mk t_A tms.length t_C) (bo.mk fA (ln.ae.n+1) (ln.ae.n+1)) (bo.mk bA (ln.ae.n+1) (ln.ae.n+1))))).ro,(cb W 121 [(vP gw)]),(rd e_A e.length 1 (e.map iC)).ro,(rd t_A tms.length 1 (List.zipWith gN tms tb)).ro,(fc (aU rK tms tb)).ro,(own bA (ln.ae.n+1) 170 1 (List.map oC (List.replicate (ln.ae.n+1) (none:Option Nat)))),(own fA (ln.ae.n+1) 170 1 (List.map oC (eG (fb++[B]) (ln.ae.n+1))))]) (fun _ (_:Unit)=>False) (fun _ _=>[]) [6,7,8,9,10,11,12,13,14,15,16,17,18,19] [3,2,1,0,4,5] m rfl rfl (si ln ri e tms e_A e_C tb t_A t_C fA (ln.ae.n+1) (ln.ae.n+1) bA (ln.ae.n+1) (ln.ae.n+1) gw b C0 C3 I I) rfl rfl rfl (by exact nB.start d g) (by simp only [List.forall_mem_cons,List.not_mem_nil,false_imp_iff,implies_true,and_true]; exact ⟨⟨_,aT (i:=0) rfl,(dQ (bS _))⟩,⟨_,aT (i:=1) rfl,(dQ (bS _))⟩,⟨_,aT (i:=2) rfl,(dQ (bS _))⟩,⟨_,aT (i:=3) rfl,(dQ (bS _))⟩,⟨_,aT (i:=4) rfl,(bS _)⟩,⟨_,aT (i:=5) rfl,(bS _)⟩⟩) (by rintro k x k2 ⟨o,_,rfl,_⟩; rfl) rfl (aV rfl) ?_ ?_ (fun _ _ _ h=>h.elim) (fun _ _ h=>h.elim)
    rotate_left 1
    ·rintro WF k O A3 H1
     have D:=H1
     try dsimp only
     refine aB<|aB<|Kd (X:=A5.map lR) 13 0 U U ?_
     try dsimp only
     refine g9 9 U xR U ?_
     refine aR (K0 ⟨((cG left t),O,(WF::A5)),⟨mz c,D.on,D.next JM hm A3⟩⟩ _ _ _ U (e7 hm) (aV U) (aH [9,10,11,12,0,4,14,1,2,3,18,19]))
    rintro k x k2 O l ra rb S w1 K39 Qr40 WC hx Hb L2 H WI WO
    obtain ⟨o,ho,rfl,rfl⟩:=hx
    have D:=Hb
    try dsimp only
    refine WS fun _ L3=>rP 1 [] mn ?_
    refine RK L3<|ak<|AL U dp fun WX=>fX U cx U<|aC<|jT (fun _ _ h=>h) (aH [1,0,2,3,4,5,6,7,8,9,10,11,12,13,14,15])<|aR (L2 _ _ ?_)
    refine ax<|aj fun _ Mo=>dF cE [16,18] [] [] [0,1,2,3,4,5,6,7,8,9,10,11,12,13,14,15] [] U U U U U<|eS U (Er 2 U cd U)<|eS U (Er 10 U cd U)<|eS U (SX (bO U U) U U)<|eS U (FA 10 U fp U)<|eS U (IB (vS e_A e.length e_C) 9 U cd U U)<|eS U (Er 7 U cd U) ?_
    obtain ⟨y,hy⟩:=aJ e b I
    have JQ:=bK iC hy
    refine eS U (IA b U (aA 11 U) cw dc I I)<|eS U (fT b 0 (vI y) U cd (aA 11 U) JQ U dc U) ?_
    have VV:=hw.least y (aT hy)
    have hp:=M.mem N (c _ hm)
    have VO:=I1 hw _ _ hp
    have V7:=uN o.1
    have WB:=hw.opt ho
    have Wn:=hw.now
    dsimp only at VO
    refine eS U (BI U (iD ⟨I,I⟩))<|eS U (FA 0 U fp U)<|eS U (L1 (vI o.2.Lo) 1 U cd U U)<|eS U (MX U)<|eS U (LW 3 U cd U U)<|eS U (MV U)<|eS U (CL (JY o.1) (aI) U)<|eS U (CL (wc t (fr o.1) I I) (aI) U)<|eS U (AG U)<|eT U<|cf U fun T45 Qr=>AL U tL fun WY=>aC (Qr _ _ (aH [1,2,3,4,5,6,7,8,9,10,11,12,13,14,15,16]) ?_)
    refine cf U fun T47 RE=>fX U rW U<|aC (RE _ _ (aH [1,2,3,4,5,6,7,8,9,10,11,12,13,14,15,16]) ?_)
    refine fF U<|KK Mo<|aj fun _ M2=>dK cE 15 kr<|mT 1 [] (mc 11 U mn) U<|dS (SX (bO U U) U U)<|dP 4 [0,1] (mr 10 U (mc 8 U mn)) ?_
    have R7:(List.map oC (eG (fb++[B]) (ln.ae.n+1)))[(b+1)]? =some (oC (some B)):=rZ (o3 (Bc I))
    refine dS (IA (b+1) U (ag (n:=(ln.ae.n+1)) 16 U sq) oI dc I I) ?_
    refine dS (fT (b+1) 0 (Value.map (some B)) U cd (ag (n:=(eG (fb++[B]) (ln.ae.n+1)).length) 16 U sm) R7 U dc U)<|mT 1 [] (mc 0 U mn) U<|dS (SX (j_ (kV:=eA) (x:=(dy t (fr o.1))) (l:=O) (f:=iV) (z:=0) U U U o1 pf UD (by exact aA 7 U)) U U)<|l5 5 U<|cR<|RK M2<|aj fun _ Ai=>dK cE 19 kr<|mT 4 [0,1] (mc 2 U (mc 11 U mn)) U<|dS (SX (bO U U) U U)<|mT 3 [] (mr 10 U mn) U<|dS (MN U)<|dP 2 [] mn ?_
    refine jy (t:=121) U (aO fun P=>?_) (aN fun P=>?_)
    ·refine dP 8 [] mn ?_
     refine cR<|RK Ai<|aW U<|bZ<|aB ?_
     exact H O _ _ (by exact D.skip (Jj hy P)) (aH [1,3,4,5,6,7,8,9,10,11,12,13,14,15,16])
    refine dP 3 [] mn ?_
    refine jf (t:=124) U (fun R=>?_) (fun R=>?_)
    ·rw [Bool.not_eq_true'] at R
     refine l5 5 U<|cR<|RK Ai<|aQ U<|dK cE 10 kr<|mT 1 [] (mc 11 U mn) U<|dS (SX (bO U U) U U)<|dP 4 [0,1] (mr 10 U (mc 8 U mn)) ?_
     have R8:(List.map oC (eG (fb++[B]) (ln.ae.n+1)))[(b+1)]? =some (oC (some B)):=rZ (o3 (Bc I))
     refine dS (IA (b+1) U (ag (n:=(ln.ae.n+1)) 16 U sq) oI dc I I) ?_
     refine dS (fT (b+1) 0 (Value.map (some B)) U cd (ag (n:=(eG (fb++[B]) (ln.ae.n+1)).length) 16 U sm) R8 U dc U)<|dP 2 [] (mc 0 U mn) ?_
     refine cR<|ic (kV:=eA) (x:=(dy t (fr o.1))) (C':=[_,_,_,_,_,_,_,(g_ eA B (bM iV (dW O (dy t (fr o.1)) (max (v+y) o.2.Lo)))),_,_,_,_,_,_,_,_,_]) 7 U U U U o1 pf U (fW _ _ _ _).symm U<|aC<|aB ?_
     exact H (dW O (dy t (fr o.1)) (max (v+y) o.2.Lo)) _ _ (by exact D.set hp ho (AM hy P) (.inl (by simpa using R))) (aH [1,3,4,5,6,7,8,9,10,11,12,13,14,15,16])
    rw [Bool.not_eq_false'] at R
    refine dP 5 [] mn ?_
    refine cR<|RK Ai<|bQ U (aO fun u=>?_) (aN fun u=>?_)
    ·refine bZ<|aB ?_
     exact H O _ _ (by exact D.oM (AM hy P) (by simpa using R) u) (aH [1,3,4,5,6,7,8,9,10,11,12,13,14,15,16])
    refine dK cE 10 kr<|mT 1 [] (mc 11 U mn) U<|dS (SX (bO U U) U U)<|dP 4 [0,1] (mr 10 U (mc 8 U mn)) ?_
    have R9:(List.map oC (eG (fb++[B]) (ln.ae.n+1)))[(b+1)]? =some (oC (some B)):=rZ (o3 (Bc I))
    refine dS (IA (b+1) U (ag (n:=(ln.ae.n+1)) 16 U sq) oI dc I I) ?_
    refine dS (fT (b+1) 0 (Value.map (some B)) U cd (ag (n:=(eG (fb++[B]) (ln.ae.n+1)).length) 16 U sm) R9 U dc U)<|dP 2 [] (mc 0 U mn) ?_
    refine cR<|ic (kV:=eA) (x:=(dy t (fr o.1))) (C':=[_,_,_,_,_,_,_,(g_ eA B (bM iV (dW O (dy t (fr o.1)) (max (v+y) o.2.Lo)))),_,_,_,_,_,_,_,_,_]) 7 U U U U o1 pf U (fW _ _ _ _).symm U<|aC<|aB ?_
    exact H (dW O (dy t (fr o.1)) (max (v+y) o.2.Lo)) _ _ (by exact D.set hp ho (AM hy P) (.inr u)) (aH [1,3,4,5,6,7,8,9,10,11,12,13,14,15,16])
   refine bD<|ab<|ab<|ay<|KK FS<|WS fun _ As=>rP 1 [] mn ?_
   refine AL U js fun TV=>D7 U Cw U U<|RK As<|ax ?_
   rw [Hk]
   refine lX ?_
   have C:(0≤ln.ae.n+1)∧(([]:List FM).length=0)∧(([]:List Nat).length=0)∧(ia (cP ln ri e tms) (ln.ae.n+1-0) ([]:List FM)):=by exact ⟨Nat.zero_le _,rfl,rfl,ia.none_⟩
   refine wa (ι:={z:Nat×(List FM)×(List Nat)×Nat×(List Nat) // (z.1≤ln.ae.n+1)∧(z.2.1.length=z.1)∧(z.2.2.1.length=z.1)∧(ia (cP ln ri e tms) (ln.ae.n+1-z.1) z.2.1)}) (fun z=>z.1.2.2.2.2.map lI) (fun z=>[(0,(vP gw)),(1,(vP W)),(2,(vI (ln.ae.n:Int))),(12,(Value.pointer (some ⟨z.1.2.2.2.1,0,none⟩)))]) (fun z=>[(bw (aU ob z.1.2.1 z.1.2.2.1)),(cb z.1.2.2.2.1 3 [(vI ((ln.ae.n:Int)-(z.1.1:Int)))]),(bw (z.1.2.2.2.2.map lR)),(cb gw 166 (ck.cells (ck.mk ln ri (bo.mk e_A e.length e_C) (bo.mk t_A tms.length t_C) (bo.mk fA (ln.ae.n+1) (ln.ae.n+1)) (bo.mk bA (ln.ae.n+1) (ln.ae.n+1))))).ro,(cb W 121 [(vP gw)]),(rd e_A e.length 1 (e.map iC)).ro,(rd t_A tms.length 1 (List.zipWith gN tms tb)).ro,(fc (aU rK tms tb)).ro,(own bA (ln.ae.n+1) 170 1 (List.map oC (hP z.1.2.2.1 (ln.ae.n+1)))),(bw (aU ob fs fb)),(own fA (ln.ae.n+1) 170 1 (List.map oC (eG fb (ln.ae.n+1))))]) (fun z=>ln.ae.n+1-z.1.1) ⟨(0,([]:List FM),([]:List Nat),TV,S2),C⟩ U (aV U) (aH [0,1,2,3,4,5,6,7,8,9,10]) ?_
   clear C
   rintro ⟨⟨j,bs,bb,gq,q⟩,⟨A8,A9,B3,E⟩⟩ J57 Ci
   try dsimp only at A8 A9 B3 E
   try dsimp only
   refine aj fun _ A0=>WS fun _ A1=>rP 2 [] (mc 1 U mn) ?_
   refine RK A1<|bQ U (aO fun J9=>?_) (aN fun J9=>?_)
   ·refine bD<|ab<|ab<|ay ?_
    rw [show (List.map oC (eG fb (ln.ae.n+1)))=(List.zipWith gN fs fb) from by rw [zG I]; exact (AB I).symm]
    rw [show (List.map oC (hP bb (ln.ae.n+1)))=(List.zipWith gN bs bb) from by rw [HY I]; exact (AB I).symm]
    refine Af (C1:=[(own fA (ln.ae.n+1) 170 1 (List.zipWith gN fs fb)),(bw (aU ob fs fb)),(own bA (ln.ae.n+1) 170 1 (List.zipWith gN bs bb)),(bw (aU ob bs bb)),(bw (q.map lR))]) hz [10,9,8,0,2] U U (by simp only [fw,List.all_nil,IX,Nq,Bool.and_true]; rfl) ?_
    rw [show (cb gw 166 (ck.cells (ck.mk ln ri (bo.mk e_A e.length e_C) (bo.mk t_A tms.length t_C) (bo.mk fA (ln.ae.n+1) (ln.ae.n+1)) (bo.mk bA (ln.ae.n+1) (ln.ae.n+1)))))=(cb gw 166 (ck.cells (ck.mk ln ri (bo.mk e_A e.length e_C) (bo.mk t_A tms.length t_C) (bo.mk fA fs.length (ln.ae.n+1)) (bo.mk bA bs.length (ln.ae.n+1))))) from by rw [show fs.length=(ln.ae.n+1) from by omega,show bs.length=(ln.ae.n+1) from by omega]]
    refine PX [(cb gw 166 (ck.cells (ck.mk ln ri (bo.mk e_A e.length e_C) (bo.mk t_A tms.length t_C) (bo.mk fA fs.length (ln.ae.n+1)) (bo.mk bA bs.length (ln.ae.n+1))))),(own fA (ln.ae.n+1) 170 1 (List.zipWith gN fs fb)),(bw (aU ob fs fb)),(own bA (ln.ae.n+1) 170 1 (List.zipWith gN bs bb)),(bw (aU ob bs bb))] [(bw (q.map lR))] ?_
    refine hN _ _ _ (LF 1 U U<|hE (vs:=[]) trivial fun w hs=>SO (fs,fb,fA,(ln.ae.n+1),bs,bb,bA,(ln.ae.n+1)) 0 ?_ ?_ U (by show List.all _ _=true; simp only [fw,List.all_nil,IX,Bool.and_true]; rfl) hs)
    ·clear hs w hQ hN A1 A0 As AO Fm Fd FS EQ Dk; rfl
    ·clear hs w hQ hN A1 A0 As AO Fm Fd FS EQ Dk; exact ⟨M.ok (by show fs.length=e.length+1; omega),ia.ok (by have:=E; rwa [show ln.ae.n+1-j=0 by omega] at this) (by show bs.length=e.length+1; omega),dso,dso⟩
   refine WK A0<|aj fun _ Cp=>ax<|aj fun _ NE=>?_
   obtain ⟨b,Wk⟩: ∃ b:Nat,b+j=ln.ae.n:=⟨ln.ae.n-j,I⟩
   rw [show (ln.ae.n:Int)-(j:Int)=(b:Int) from by omega]
   have WU:(hP bb (ln.ae.n+1)).length=(ln.ae.n+1):=zF I
   refine dF cE [5,12,13,15] [11] [0,1,2] [0,1,2,3,4,5,6,7,9,10] [0,1,2,3,4,5,6,7,8,9,10] U U U U U<|eS U (Er 4 U cd U)<|eS U (SX (bO U U) U U)<|eS U (FA 13 U fp U)<|eS U (IB (vS bA (ln.ae.n+1) (ln.ae.n+1)) 3 U cd U U)<|eS U (Er 1 U cd U)<|eS U (SX (bk (xs:=[]) (cs:=(aD.cells (aD.mk 0 0))) U U (bj CF U)) U U)<|eS U (Er 4 U cd U)<|eS U (SX (bO U U) U U)<|eS U (FA 7 U fp U)<|eS U (FA 8 U fp U)<|eS U (IB (vI ri.gk) 3 U cd U U) ?_
   obtain ⟨WH,Sh⟩:=aJ (hP bb (ln.ae.n+1)) b I
   have hx63m:(List.map oC (hP bb (ln.ae.n+1)))[b]? =some (oC WH):=by rw [fH,Sh]; rfl
   refine fS U (IA b U (ag (n:=(ln.ae.n+1)) 8 U sq) oI dc I I) ?_
   refine eT U<|gM U fun T64 Rn=>lx (kV:=eA) U U fun A=>?_
   try dsimp only
   refine aC (Rn _ _ (aH [1,2,3,4,5,6,7,8,10,11]) (aH [1,2,3,4,5,6,7,8,9,10,11]) ?_)
   refine gM U fun T66 Rq=>?_
   have R4:(dW ([]:List (aD×Int)) (aD.mk 0 0) ri.gk)=[((aD.mk 0 0),ri.gk)]:=by rfl
   refine yL (kV:=eA) (x:=(aD.mk 0 0)) (C':=[(g_ eA A (bM iV ([((aD.mk 0 0),ri.gk)]))),_,_,_,_,_,_,_,_,_,_,_]) 0 U U U U o1 pf U ((fW _ _ _ _).symm.trans (congrArg _ R4)) U<|aC (Rq _ _ (aH [1,2,3,4,5,6,7,8,10,11]) (aH [1,2,3,4,5,6,7,8,9,10,11]) ?_)
   refine gM U fun T68 Rt=>rS (MV U)<|aC (Rt _ _ (aH [1,2,3,4,5,6,7,8,10,11]) (aH [1,2,3,4,5,6,7,8,9,10,11]) ?_)
   refine cf U fun T69 Ry=>?_
   have R5:((hP bb (ln.ae.n+1)).set b (some A))=(hP (A::bb) (ln.ae.n+1)):=by exact H5 I
   refine dM (k:=b) (o:=0) (vs:=[(Value.map (some A))]) (es':=(List.map oC (hP (A::bb) (ln.ae.n+1)))) (C':=[_,_,_,_,_,_,_,_,_,(own bA (ln.ae.n+1) 170 1 (List.map oC (hP (A::bb) (ln.ae.n+1)))),_,_]) 9 U U U Mb U U U U hx63m U dc (by exact (List.map_set (f:=oC) (l:=(hP bb (ln.ae.n+1))) (i:=b) (a:=(some A))).symm.trans (congrArg _ R5)) U<|aC (Ry _ _ (aH [1,2,3,4,5,6,7,8,10,11]) ?_)
   refine fF U<|KK NE<|aj fun _ Na=>WS fun _ Ne=>rP 3 [] (mc 2 U mn) ?_
   refine RK Ne<|cH U (aN fun KM=>?_) (aO fun KM=>?_)
   ·refine bD<|ab<|ay<|KK Cp<|aj fun _ Nr=>WS fun _ Op=>fu 1 [] (mc 2 U mn) U<|RK Op<|ak<|AL U js fun T0=>D7 U Cw U U<|RK Nr<|ak<|rP 2 [] (mc 0 U mn) ?_
    refine D7 U Cw U U<|aC ?_
    rw [show (b:Int)-1=(ln.ae.n:Int)-(((j+1):Nat):Int) from by omega]
    refine zp (ms:=bs) (m:=[((aD.mk 0 0),ri.gk)]) (a:=A) 2 1 U U U ?_
    try dsimp only
    refine aR (Ci ⟨((j+1),([((aD.mk 0 0),ri.gk)]::bs),(A::bb),T0,q),⟨I,by simp; omega,by simp; omega,by exact ia.end_ (b:=b) E I I (by show e.length≤b; omega)⟩⟩ _ _ _ U os (aV U) (aH [0,1,3,4,5,6,7,8,9,10,11]))
   refine WK Na<|aj fun _ Or=>?_
   have V5:(hP (A::bb) (ln.ae.n+1)).length=(ln.ae.n+1):=zF (by simp; omega)
   obtain ⟨mb,N⟩:=aJ bs 0 I
   obtain ⟨ga,Z⟩:=aJ bb 0 I
   refine Gh 1 N Z U U U ?_
   try dsimp only
   refine dK cE 8 kr<|mT 1 [] (mc 6 U mn) U<|dS (SX (bO U U) U U)<|dP 4 [0,1] (mr 5 U (mc 3 U mn)) ?_
   have ST:(List.map oC (hP (A::bb) (ln.ae.n+1)))[(b+1)]? =some (oC (some ga)):=rZ (tg (i:=1) (by simpa using Z) (by simp; omega))
   refine dS (IA (b+1) U (ag (n:=(ln.ae.n+1)) 10 U sq) oI dc I I) ?_
   refine dS (fT (b+1) 0 (Value.map (some ga)) U cd (ag (n:=(hP (A::bb) (ln.ae.n+1)).length) 10 U sm) ST U dc U)<|cR<|ur 0 U U o1 U U fun B9=>?_
   try dsimp only
   refine RK Or<|ax ?_
   have C:(∀ p∈mb,p∈mb)∧(vH (cP ln ri e tms) b ([((aD.mk 0 0),ri.gk)]))∧(jK (cP ln ri e tms) b mb ([((aD.mk 0 0),ri.gk)]) mb):=by exact ⟨fun p hp=>hp,vH.start (by show b<e.length; omega),jK.start⟩
   refine wa (ι:={z:FM×FM×(List Nat) // (∀ p∈z.1,p∈mb)∧(vH (cP ln ri e tms) b z.2.1)∧(jK (cP ln ri e tms) b mb z.2.1 z.1)}) (fun z=>z.1.2.2.map lI) (fun z=>[(0,(vP gw)),(1,(vP W)),(2,(vI (ln.ae.n:Int))),(12,(vP gq)),(171,(vP B9))]) (fun z=>[(yF eA B9 ga (bM iV mb) (bM iV z.1.1) none),(bw (fE ob bs bb 0)),(g_ eA A (bM iV z.1.2.1)),(cb gq 3 [(vI (b:Int))]),(bw (z.1.2.2.map lR)),(cb gw 166 (ck.cells (ck.mk ln ri (bo.mk e_A e.length e_C) (bo.mk t_A tms.length t_C) (bo.mk fA (ln.ae.n+1) (ln.ae.n+1)) (bo.mk bA (ln.ae.n+1) (ln.ae.n+1))))).ro,(cb W 121 [(vP gw)]),(rd e_A e.length 1 (e.map iC)).ro,(rd t_A tms.length 1 (List.zipWith gN tms tb)).ro,(fc (aU rK tms tb)).ro,(own bA (ln.ae.n+1) 170 1 (List.map oC (hP (A::bb) (ln.ae.n+1)))),(bw (aU ob fs fb)),(own fA (ln.ae.n+1) 170 1 (List.map oC (eG fb (ln.ae.n+1))))]) (fun z=>z.1.1.length) ⟨(mb,[((aD.mk 0 0),ri.gk)],q),C⟩ U (aV U) (aH [0,1,2,3,4,5,6,7,8,9,10,11,12]) ?_
   clear C
   rintro ⟨⟨left,m,V⟩,⟨J,K,L⟩⟩ J80 K8
   try dsimp only at J K L
   try dsimp only
   refine WS fun _ Cx=>sR pf.inj (f:=iV) 0 U U U U (fun Kj=>?_) (fun t v hm JM=>?_)
   ·refine bh 1 U<|RK Cx<|aj fun _ WT=>aW U<|bD<|ab<|ab<|ay<|aB<|KK Cp<|aj fun _ Os=>WS fun _ PP=>fu 1 [] (mc 3 U mn) U<|RK PP<|ak<|AL U js fun J5=>D7 U Cw U U<|RK Os<|ak<|rP 2 [] (mc 0 U mn) ?_
    refine D7 U Cw U U<|aC<|I2 (C':=[(cb J5 3 [(vI ((b:Int)-1))]),(g_ eA ga (bM iV mb)),(bw (fE ob bs bb 0)),(g_ eA A (bM iV m)),(cb gq 3 [(vI (b:Int))]),(bw (V.map lR)),(cb gw 166 (ck.cells (ck.mk ln ri (bo.mk e_A e.length e_C) (bo.mk t_A tms.length t_C) (bo.mk fA (ln.ae.n+1) (ln.ae.n+1)) (bo.mk bA (ln.ae.n+1) (ln.ae.n+1))))).ro,(cb W 121 [(vP gw)]),(rd e_A e.length 1 (e.map iC)).ro,(rd t_A tms.length 1 (List.zipWith gN tms tb)).ro,(fc (aU rK tms tb)).ro,(own bA (ln.ae.n+1) 170 1 (List.map oC (hP (A::bb) (ln.ae.n+1)))),(bw (aU ob fs fb)),(own fA (ln.ae.n+1) 170 1 (List.map oC (eG fb (ln.ae.n+1))))]) 1 U IM U<|KD 2 1 N Z U U U ?_
    try dsimp only
    rw [show (b:Int)-1=(ln.ae.n:Int)-(((j+1):Nat):Int) from by omega]
    refine zp (ms:=bs) (m:=m) (a:=A) 0 2 U U U ?_
    try dsimp only
    refine aR (Ci ⟨((j+1),(m::bs),(A::bb),J5,V),⟨I,by simp; omega,by simp; omega,by exact ia.more (b:=b) E I I (by show b<e.length; omega) N K L Kj⟩⟩ _ _ _ U os (aV U) (aH [0,1,3,4,5,6,7,8,9,10,11]))
   try dsimp only
   refine bh 1 U<|RK Cx<|aj fun _ PW=>aQ U<|WK PW<|ax<|WS fun _ Pi=>rS (SX (sE 0 U U U) U U)<|bh 2 U<|AL U tL fun J6=>AL U js fun J7=>sT U rW U<|D7 U Cw U U<|RK Pi<|WS fun _ Pl=>rP 2 [0,1] (mc 8 U (mc 5 U mn)) ?_
   refine cX (uA gw b) (aI) U fun WN WW=>?_
   obtain ⟨C2,Di⟩:=WN
   try dsimp only
   refine RK Pl<|ax<|kF 11 U (by exact fun _ h=>h)<|kF 13 U (by exact fun _ h=>h)<|kF 15 U (by exact fun _ h=>h)<|kF 12 U (by exact fun _ h=>h) ?_
   refine nz (L0:=[(0,(vP gw)),(1,(vP W)),(2,(vI (ln.ae.n:Int))),(12,(vP gq)),(13,(vP J6)),(14,(vP J7)),(171,(vP B9))]) (F:=[(rd e_A e.length 1 (e.map iC)).ro,(rd t_A tms.length 1 (List.zipWith gN tms tb)).ro,(fc (aU rK tms tb)).ro,(cb gw 166 (ck.cells (ck.mk ln ri (bo.mk e_A e.length e_C) (bo.mk t_A tms.length t_C) (bo.mk fA (ln.ae.n+1) (ln.ae.n+1)) (bo.mk bA (ln.ae.n+1) (ln.ae.n+1))))).ro,(cb C2 121 [(vP gw)]),(cb Di 3 [(vI (b:Int))])]) (fun k (y:FM)=>(nO (cP ln ri e tms) b mb left y (t,v) k)) (fun k y=>[(cb J7 3 [(vI v)]),(cb J6 172 (aD.cells t)),(yF eA B9 ga (bM iV mb) (bM iV (cG left t)) (some (t,(vI v)))),(bw (fE ob bs bb 0)),(g_ eA A (bM iV y)),(cb gq 3 [(vI (b:Int))]),(bw (V.map lR)),(cb gw 166 (ck.cells (ck.mk ln ri (bo.mk e_A e.length e_C) (bo.mk t_A tms.length t_C) (bo.mk fA (ln.ae.n+1) (ln.ae.n+1)) (bo.mk bA (ln.ae.n+1) (ln.ae.n+1))))).ro,(cb W 121 [(vP gw)]),(rd e_A e.length 1 (e.map iC)).ro,(rd t_A tms.length 1 (List.zipWith gN tms tb)).ro,(fc (aU rK tms tb)).ro,(own bA (ln.ae.n+1) 170 1 (List.map oC (hP (A::bb) (ln.ae.n+1)))),(bw (aU ob fs fb)),(own fA (ln.ae.n+1) 170 1 (List.map oC (eG fb (ln.ae.n+1))))]) (fun _ (_:Unit)=>False) (fun _ _=>[]) [6,7,8,9,10,11,12,13,14,15,16,17,18,19,20] [3,2,1,0,4,5] m rfl rfl (si ln ri e tms e_A e_C tb t_A t_C fA (ln.ae.n+1) (ln.ae.n+1) bA (ln.ae.n+1) (ln.ae.n+1) gw b C2 Di I I) rfl rfl rfl (by exact nO.start K L) (by simp only [List.forall_mem_cons,List.not_mem_nil,false_imp_iff,implies_true,and_true]; exact ⟨⟨_,aT (i:=0) rfl,(dQ (bS _))⟩,⟨_,aT (i:=1) rfl,(dQ (bS _))⟩,⟨_,aT (i:=2) rfl,(dQ (bS _))⟩,⟨_,aT (i:=3) rfl,(dQ (bS _))⟩,⟨_,aT (i:=4) rfl,(bS _)⟩,⟨_,aT (i:=5) rfl,(bS _)⟩⟩) (by rintro k x k2 ⟨o,_,rfl,_⟩; rfl) rfl (aV rfl) ?_ ?_ (fun _ _ _ h=>h.elim) (fun _ _ h=>h.elim)
   rotate_left 1
   ·rintro S1 k O A3 A7
    have D:=A7
    try dsimp only
    refine aB<|aB<|Kd (X:=V.map lR) 13 0 U U ?_
    try dsimp only
    refine g9 9 U xR U ?_
    refine aR (K8 ⟨((cG left t),O,(S1::V)),⟨mz J,D.on,D.next JM hm A3⟩⟩ _ _ _ U (e7 hm) (aV U) (aH [9,10,11,12,0,4,14,1,2,3,18,19,20]))
   rintro k x k2 O l ra rb S w1 K95 Qr96 WC hx IO Pt AD WL WP
   obtain ⟨o,ho,rfl,rfl⟩:=hx
   have D:=IO
   try dsimp only
   refine WS fun _ P8=>rP 1 [] mn ?_
   refine RK P8<|ak<|AL U dp fun WZ=>fX U cx U<|aC<|jT (fun _ _ h=>h) (aH [1,0,2,3,4,5,6,7,8,9,10,11,12,13,14,15,16])<|aR (Pt _ _ ?_)
   refine ax<|aj fun _ Do=>dF cE [16,18] [] [] [0,1,2,3,4,5,6,7,8,9,10,11,12,13,14,15,16] [] U U U U U<|eS U (Er 2 U cd U)<|eS U (FA 1 U fp U)<|eS U (L1 (vI o.2.Hi) 1 U cd U U) ?_
   have hp:=E.UX (b:=b) I N (J _ hm)
   have UZ:=Lc hw hp
   have V7:=uN o.1
   have WB:=hw.opt ho
   dsimp only at UZ
   refine eS U (MN U)<|eS U (Er 10 U cd U)<|eS U (SX (bO U U) U U)<|eS U (FA 10 U fp U)<|eS U (IB (vS e_A e.length e_C) 9 U cd U U)<|eS U (Er 7 U cd U) ?_
   obtain ⟨y,hy⟩:=aJ e b I
   have JQ:=bK iC hy
   refine eS U (IA b U (aA 11 U) cw dc I I)<|eS U (fT b 0 (vI y) U cd (aA 11 U) JQ U dc U) ?_
   have VV:=hw.least y (aT hy)
   refine eS U (BI U (r_ ⟨I,I⟩))<|eS U (LW 3 U cd U U)<|eS U (MV U)<|eS U (CL (JY o.1) (aI) U)<|eS U (CL (wc t (fr o.1) I I) (aI) U)<|eS U (AG U)<|eT U<|cf U fun T101 Fn=>AL U tL fun WQ=>aC (Fn _ _ (aH [1,2,3,4,5,6,7,8,9,10,11,12,13,14,15,16,17]) ?_)
   refine cf U fun T103 F5=>fX U rW U<|aC (F5 _ _ (aH [1,2,3,4,5,6,7,8,9,10,11,12,13,14,15,16,17]) ?_)
   refine fF U<|KK Do<|aj fun _ Dz=>dK cE 14 kr<|mT 1 [] (mc 11 U mn) U<|dS (SX (bO U U) U U)<|dP 3 [0,1] (mr 10 U (mc 8 U mn)) ?_
   have IR:(List.map oC (hP (A::bb) (ln.ae.n+1)))[b]? =some (oC (some A)):=rZ (tg (i:=0) rfl (by simp; omega))
   refine dS (IA b U (ag (n:=(ln.ae.n+1)) 15 U sq) oI dc I I) ?_
   refine dS (fT b 0 (Value.map (some A)) U cd (ag (n:=(hP (A::bb) (ln.ae.n+1)).length) 15 U sm) IR U dc U)<|mT 1 [] (mc 0 U mn) U<|dS (SX (j_ (kV:=eA) (x:=(dy t (fr o.1))) (l:=O) (f:=iV) (z:=0) U U U o1 pf UD (by exact aA 7 U)) U U)<|l5 5 U<|cR<|RK Dz<|WS fun _ Y=>fu 3 [0,1] (mc 3 U (mc 2 U mn)) U<|rS (MN U)<|rP 4 [] (mc 2 U mn) ?_
   refine bY (t:=217) U (aO fun T=>?_) (aN fun T=>?_)
   ·refine rP 8 [] mn ?_
    refine RK Y<|aW U<|bZ<|aB ?_
    exact AD O _ _ (by exact D.skip (Ox T)) (aH [1,3,4,5,6,7,8,9,10,11,12,13,14,15,16,17])
   refine rP 3 [] mn ?_
   refine dh (t:=220) U (fun AA=>?_) (fun AA=>?_)
   ·rw [Bool.not_eq_true'] at AA
    refine bh 5 U<|RK Y<|aQ U<|dK cE 9 kr<|mT 1 [] (mc 11 U mn) U<|dS (SX (bO U U) U U)<|dP 3 [0,1] (mr 10 U (mc 8 U mn)) ?_
    have IW:(List.map oC (hP (A::bb) (ln.ae.n+1)))[b]? =some (oC (some A)):=rZ (tg (i:=0) rfl (by simp; omega))
    refine dS (IA b U (ag (n:=(ln.ae.n+1)) 15 U sq) oI dc I I) ?_
    refine dS (fT b 0 (Value.map (some A)) U cd (ag (n:=(hP (A::bb) (ln.ae.n+1)).length) 15 U sm) IW U dc U)<|dP 2 [] (mc 0 U mn) ?_
    refine cR<|ic (kV:=eA) (x:=(dy t (fr o.1))) (C':=[_,_,_,_,_,_,_,(g_ eA A (bM iV (dW O (dy t (fr o.1)) ((min v o.2.Hi)-y)))),_,_,_,_,_,_,_,_,_,_]) 7 U U U U o1 pf U (fW _ _ _ _).symm U<|aC<|aB ?_
    exact AD (dW O (dy t (fr o.1)) ((min v o.2.Hi)-y)) _ _ (by exact D.set (by show b<e.length; omega) hp ho (AT hy T) (.inl (by simpa using AA))) (aH [1,3,4,5,6,7,8,9,10,11,12,13,14,15,16,17])
   rw [Bool.not_eq_false'] at AA
   refine rP 5 [] mn ?_
   refine RK Y<|bQ U (aO fun AC=>?_) (aN fun AC=>?_)
   ·refine bZ<|aB ?_
    exact AD O _ _ (by exact D.oM (AT hy T) (by simpa using AA) AC) (aH [1,3,4,5,6,7,8,9,10,11,12,13,14,15,16,17])
   refine dK cE 9 kr<|mT 1 [] (mc 11 U mn) U<|dS (SX (bO U U) U U)<|dP 3 [0,1] (mr 10 U (mc 8 U mn)) ?_
   have Id:(List.map oC (hP (A::bb) (ln.ae.n+1)))[b]? =some (oC (some A)):=rZ (tg (i:=0) rfl (by simp; omega))
   refine dS (IA b U (ag (n:=(ln.ae.n+1)) 15 U sq) oI dc I I) ?_
   refine dS (fT b 0 (Value.map (some A)) U cd (ag (n:=(hP (A::bb) (ln.ae.n+1)).length) 15 U sm) Id U dc U)<|dP 2 [] (mc 0 U mn) ?_
   refine cR<|ic (kV:=eA) (x:=(dy t (fr o.1))) (C':=[_,_,_,_,_,_,_,(g_ eA A (bM iV (dW O (dy t (fr o.1)) ((min v o.2.Hi)-y)))),_,_,_,_,_,_,_,_,_,_]) 7 U U U U o1 pf U (fW _ _ _ _).symm U<|aC<|aB ?_
   exact AD (dW O (dy t (fr o.1)) ((min v o.2.Hi)-y)) _ _ (by exact D.set (by show b<e.length; omega) hp ho (AT hy T) (.inr AC)) (aH [1,3,4,5,6,7,8,9,10,11,12,13,14,15,16,17])
  refine dF cE [4,11,12,14] [10] [0,1,2] [0,1,2,3,4,6] [0,1,2,3,4,5,6] U U U U U<|eS U (Er 1 U cd U)<|eS U (SX (bO U U) U U)<|eS U (FA 12 U fp U)<|eS U (IB (vS fA (ln.ae.n+1) (ln.ae.n+1)) 0 U cd U U)<|eS U (SX (bk (xs:=[]) (cs:=(aD.cells (aD.mk 0 0))) U U (bj CF U)) U U)<|eS U (Er 1 U cd U)<|eS U (SX (bO U U) U U)<|eS U (FA 7 U fp U)<|eS U (FA 7 U fp U)<|eS U (IB (vI ri.Start) 0 U cd U U) ?_
  obtain ⟨x6,WD⟩:=aJ (List.replicate (ln.ae.n+1) (none:Option Nat)) 0 I
  have hx7m:(List.map oC (List.replicate (ln.ae.n+1) (none:Option Nat)))[0]? =some (oC x6):=by rw [fH,WD]; rfl
  refine fS U (IA 0 U (ag (n:=(ln.ae.n+1)) 5 U sq) oI dc U I) ?_
  refine eT U<|gM U fun T8 GT=>lx (kV:=eA) U U fun r=>?_
  try dsimp only
  refine aC (GT _ _ (aH [1,2,3,4,5,7]) (aH [1,2,3,4,5,6,7]) ?_)
  refine gM U fun T10 G=>?_
  have R0:(dW ([]:List (aD×Int)) (aD.mk 0 0) ri.Start)=[((aD.mk 0 0),ri.Start)]:=by rfl
  refine yL (kV:=eA) (x:=(aD.mk 0 0)) (C':=[(g_ eA r (bM iV ([((aD.mk 0 0),ri.Start)]))),_,_,_,_,_,_,_]) 0 U U U U o1 pf U ((fW _ _ _ _).symm.trans (congrArg _ R0)) U<|aC (G _ _ (aH [1,2,3,4,5,7]) (aH [1,2,3,4,5,6,7]) ?_)
  refine gM U fun T12 P_=>rS (MV U)<|aC (P_ _ _ (aH [1,2,3,4,5,7]) (aH [1,2,3,4,5,6,7]) ?_)
  refine cf U fun T13 Qg=>?_
  have R1:((List.replicate (ln.ae.n+1) (none:Option Nat)).set 0 (some r))=(eG [r] (ln.ae.n+1)):=by rw [zg]; exact uK rfl sm
  refine dM (k:=0) (o:=0) (vs:=[(Value.map (some r))]) (es':=(List.map oC (eG [r] (ln.ae.n+1)))) (C':=[_,_,_,_,_,_,(own fA (ln.ae.n+1) 170 1 (List.map oC (eG [r] (ln.ae.n+1)))),_]) 6 U U U Mb U U U U hx7m U dc (by exact (List.map_set (f:=oC) (l:=(List.replicate (ln.ae.n+1) (none:Option Nat))) (i:=0) (a:=(some r))).symm.trans (congrArg _ R1)) U<|aC (Qg _ _ (aH [1,2,3,4,5,7]) ?_)
  refine fF U<|Eu<|zk (X:=[]) (X':=aU ob [[((aD.mk 0 0),ri.Start)]] [r]) 0 1 U U U ?_
  try dsimp only
  refine aR (jT (aV U) (aH [1,2,3,4,5,7,0,6]) (UV ⟨r,trivial⟩))
 refine pw cE [0,1,2,3,5,6,8,9,11,12] [4,7,10,13] [false,false,false,false,false,false,false,false,false,false] [] [(cb W 121 [(vP gw)]),(rd e_A e.length 1 (e.map iC)).ro,(rd t_A tms.length 1 (List.zipWith gN tms tb)).ro,(fc (aU rK tms tb)).ro] [] kr (aH [0,2,3,4]) (aH [])<|eS U (Er 0 U cd U)<|eS U (Er 0 U cd U)<|eS U (MV U)<|eS U (BI U (iD ⟨I,I⟩))<|eS U (MV U)<|eS U (BI U (iD ⟨I,I⟩))<|eS U (SX (bO U U) U U)<|eS U (FA 12 U fp U)<|eS U (SX (bO U U) U U)<|eS U (FA 13 U fp U)<|eT U<|iX [4,7] kr (eN ?_<|eN ?_<|kB)
 rotate_left 1
 ·refine NO U U [4,10,13] fun T5 GE=>?_
  refine wG (n:=(ln.ae.n+1)) (es:=(List.map oC (List.replicate (ln.ae.n+1) (none:Option Nat)))) U U U Dj I I (by simp only [maxLen]; omega) (by rw [List.map_replicate]; rfl) U fun b6=>?_
  try dsimp only
  refine aC (GE _ _ (aH [1,3,4,5]) ?_)
  refine N1 4<|NO U U [10,13] fun T7 A2=>?_
  refine wG (n:=(ln.ae.n+1)) (es:=(List.map oC (List.replicate (ln.ae.n+1) (none:Option Nat)))) U U U Dj I I (by simp only [maxLen]; omega) (by rw [List.map_replicate]; rfl) U fun b8=>?_
  try dsimp only
  refine aC (A2 _ _ (aH [2,4,5,6]) ?_)
  refine N1 10<|NO U U [13] fun T9 Go=>Qm (ck.cells (ck.mk ln ri (bo.mk e_A e.length e_C) (bo.mk t_A tms.length t_C) (bo.mk (some ⟨b8,0,none⟩) (ln.ae.n+1) (ln.ae.n+1)) (bo.mk none 0 0))) U yU U U<|aC (Go _ _ (aH [2,4,5,6]) ?_)
  refine N1 13<|NO U U [] fun T10 G=>Qm (ck.cells (ck.mk ln ri (bo.mk e_A e.length e_C) (bo.mk t_A tms.length t_C) (bo.mk (some ⟨b8,0,none⟩) (ln.ae.n+1) (ln.ae.n+1)) (bo.mk (some ⟨b6,0,none⟩) (ln.ae.n+1) (ln.ae.n+1)))) U yU U U<|aC (G _ _ (aH [2,4,5,6]) ?_)
  refine p_ ?_
  refine aR (jT (aV U) (aH [2,4,5,6,0,1,3]) (Eq ⟨((some ⟨b8,0,none⟩),(some ⟨b6,0,none⟩)),trivial⟩))
 refine NO U U [7,10,13] fun T5 GE=>?_
 refine wG (n:=(ln.ae.n+1)) (es:=(List.map oC (List.replicate (ln.ae.n+1) (none:Option Nat)))) U U U Dj I I (by simp only [maxLen]; omega) (by rw [List.map_replicate]; rfl) U fun b6=>?_
 try dsimp only
 refine aC (GE _ _ (aH [1,3,4,5]) ?_)
 refine iX [7,10] kr (eN ?_<|eN ?_<|kB)
 rotate_left 1
 ·refine NO U U [7,13] fun T7 A2=>VB (ck.cells (ck.mk ln ri (bo.mk e_A e.length e_C) (bo.mk t_A tms.length t_C) (bo.mk (some ⟨b6,0,none⟩) (ln.ae.n+1) (ln.ae.n+1)) (bo.mk none 0 0))) U yU U U<|aC (A2 _ _ (aH [1,3,4,5]) ?_)
  refine N1 7<|NO U U [13] fun T8 GT=>?_
  refine wG (n:=(ln.ae.n+1)) (es:=(List.map oC (List.replicate (ln.ae.n+1) (none:Option Nat)))) U U U Dj I I (by simp only [maxLen]; omega) (by rw [List.map_replicate]; rfl) U fun r=>?_
  try dsimp only
  refine aC (GT _ _ (aH [2,4,5,6]) ?_)
  refine N1 13<|NO U U [] fun T10 G=>Qm (ck.cells (ck.mk ln ri (bo.mk e_A e.length e_C) (bo.mk t_A tms.length t_C) (bo.mk (some ⟨b6,0,none⟩) (ln.ae.n+1) (ln.ae.n+1)) (bo.mk (some ⟨r,0,none⟩) (ln.ae.n+1) (ln.ae.n+1)))) U yU U U<|aC (G _ _ (aH [2,4,5,6]) ?_)
  refine p_ ?_
  refine aR (jT (aV U) (aH [2,4,5,6,1,0,3]) (Eq ⟨((some ⟨b6,0,none⟩),(some ⟨r,0,none⟩)),trivial⟩))
 refine NO U U [10,13] fun T7 A2=>?_
 refine wG (n:=(ln.ae.n+1)) (es:=(List.map oC (List.replicate (ln.ae.n+1) (none:Option Nat)))) U U U Dj I I (by simp only [maxLen]; omega) (by rw [List.map_replicate]; rfl) U fun b8=>?_
 try dsimp only
 refine aC (A2 _ _ (aH [2,4,5,6]) ?_)
 refine N1 10<|NO U U [13] fun T9 Go=>Qm (ck.cells (ck.mk ln ri (bo.mk e_A e.length e_C) (bo.mk t_A tms.length t_C) (bo.mk (some ⟨b6,0,none⟩) (ln.ae.n+1) (ln.ae.n+1)) (bo.mk none 0 0))) U yU U U<|aC (Go _ _ (aH [2,4,5,6]) ?_)
 refine N1 13<|NO U U [] fun T10 G=>Qm (ck.cells (ck.mk ln ri (bo.mk e_A e.length e_C) (bo.mk t_A tms.length t_C) (bo.mk (some ⟨b6,0,none⟩) (ln.ae.n+1) (ln.ae.n+1)) (bo.mk (some ⟨b8,0,none⟩) (ln.ae.n+1) (ln.ae.n+1)))) U yU U U<|aC (G _ _ (aH [2,4,5,6]) ?_)
 refine p_ ?_
 refine aR (jT (aV U) (aH [2,4,5,6,1,0,3]) (Eq ⟨((some ⟨b6,0,none⟩),(some ⟨b8,0,none⟩)),trivial⟩))
end
section
open Go.RowKit
theorem EM (l:aZ) (kA:OA) (kC:Nat) (az:List RA) (cA:OA) (cC:Nat) (bA:OA) (bC g1:Nat) (bm:Int) (g2:Nat) (hin:er l az):
 ep Tryz.prog 59 [(vP g1),(vP g2)] [(rd kA l.aM.length 9 (l.aM.map al.cells)),(rd cA l.ai.length 2 (List.zipWith ar.cells l.ai az)),(fc (aU ar.g4 l.ai az)),(rd bA l.ae.length 4 (l.ae.map bH.cells)),(cb g1 28 (bW.cells (lh l kA kC cA cC bA bC))),(cb g2 3 [(vI bm)])] (vI (jO l bm)):=by
 have K:=hin.sQ
 have J:=hin.sr
 have H:=hin.od
 have AA:=hin.sj
 refine bG kr Tryz.func59 U U fun L Q hQ hN=>?_
 try dsimp only
 refine WS fun _ B=>bh 1 U<|RK B<|aj fun _ C=>WS fun _ D=>rP 5 [0,1] (mr 4 U (mr 5 U mn)) ?_
 refine df (xs:=[.tmp 7]) (cs:=[(vI bm)]) U cw js U U U U (by simp [Value.cells]) U U fun G=>?_
 refine rS (CL (ep.eq (je 0 ((l.ae.length:Int)-1) ([bm]) (some ⟨G,0,none⟩) 1 (by (simp; done))) cY) (av (bf 0 U U (by simp [bI]) U)<|aI) U) ?_
 refine rP 1 [] mn ?_
 refine RK D<|cH U (bu fun A=>?_) (br fun A=>?_)
 ·refine WS fun _ E=>rP 1 [] mn ?_
  refine RK E<|aq<|Q1 hQ U U U ?_
  exact cI (if_neg I).symm
 refine WK C<|WS fun _ F=>rP 1 [] mn ?_
 refine RK F<|aq<|Q1 hQ U U U ?_
 exact cI (if_pos I).symm
end
section
open Go.RowKit
theorem Ot (l:aZ) (kA:OA) (kC:Nat) (az:List RA) (cA:OA) (cC:Nat) (bA:OA) (bC:Nat) (r:cJ) (sgA:OA) (sgC:Nat) (f:Value) (X:au) (me:Int) (gm:Nat) (hf:DO Tryz.prog f [] [X] (.int .i64 me)) (hin:er l az) (hsl:r.ah.length≤1000000):
 ld Tryz.prog 58 [(vA (bW.cells (lh l kA kC cA cC bA bC))),(vA (dY.cells (lQ r sgA sgC))),(vS (some ⟨gm,0,none⟩) 1 1)] [(rd kA l.aM.length 9 (l.aM.map al.cells)),(rd cA l.ai.length 2 (List.zipWith ar.cells l.ai az)),(fc (aU ar.g4 l.ai az)),(rd bA l.ae.length 4 (l.ae.map bH.cells)),(rd sgA r.ah.length 2 (r.ah.map aK.cells)),X,(cb gm 124 [f])] (fun (x:Bool×Int×Nat×(OA)×Nat×(OA)×Nat×(List Nat)×(List FM)×(List Nat)×(OA)×Nat×(List FM)×(List Nat)×(OA)×Nat)=>bif x.1 then (vT [(Value.pointer (some ⟨x.2.2.1,0,none⟩)),(vI 0)]) else (vT [(Value.pointer none),(vI x.2.1)])) (fun (x:Bool×Int×Nat×(OA)×Nat×(OA)×Nat×(List Nat)×(List FM)×(List Nat)×(OA)×Nat×(List FM)×(List Nat)×(OA)×Nat)=>(x.1=true→(eJ l r me=0∧xy (cu l r) x.2.2.2.2.2.2.2.2.1∧uH (cu l r) x.2.2.2.2.2.2.2.2.2.2.2.2.1∧x.2.2.2.2.2.2.2.2.2.1.length=x.2.2.2.2.2.2.2.2.1.length∧x.2.2.2.2.2.2.2.2.2.2.2.2.2.1.length=x.2.2.2.2.2.2.2.2.2.2.2.2.1.length∧x.2.2.2.2.2.2.2.1.length=(eo l r.ah r.ah.length).length))∧(x.1=false→(x.2.1=eJ l r me∧ ¬ eJ l r me=0))) (fun (x:Bool×Int×Nat×(OA)×Nat×(OA)×Nat×(List Nat)×(List FM)×(List Nat)×(OA)×Nat×(List FM)×(List Nat)×(OA)×Nat)=>bif x.1 then [(cb x.2.2.1 166 (ck.cells (ck.mk (lh l kA kC cA cC bA bC) (lQ r sgA sgC) (bo.mk x.2.2.2.1 ((cQ l l.ae.length).length) x.2.2.2.2.1) (bo.mk x.2.2.2.2.2.1 ((eo l r.ah r.ah.length).length) x.2.2.2.2.2.2.1) (bo.mk x.2.2.2.2.2.2.2.2.2.2.1 x.2.2.2.2.2.2.2.2.1.length x.2.2.2.2.2.2.2.2.2.2.2.1) (bo.mk x.2.2.2.2.2.2.2.2.2.2.2.2.2.2.1 x.2.2.2.2.2.2.2.2.2.2.2.2.1.length x.2.2.2.2.2.2.2.2.2.2.2.2.2.2.2)))),(own x.2.2.2.1 x.2.2.2.2.1 3 1 ((cQ l l.ae.length).map iC)),(own x.2.2.2.2.2.1 x.2.2.2.2.2.2.1 40 1 (List.zipWith gN (eo l r.ah r.ah.length) x.2.2.2.2.2.2.2.1)),(bw (aU rK (eo l r.ah r.ah.length) x.2.2.2.2.2.2.2.1)),(own x.2.2.2.2.2.2.2.2.2.2.1 x.2.2.2.2.2.2.2.2.2.2.2.1 170 1 (List.zipWith gN x.2.2.2.2.2.2.2.2.1 x.2.2.2.2.2.2.2.2.2.1)),(bw (aU ob x.2.2.2.2.2.2.2.2.1 x.2.2.2.2.2.2.2.2.2.1)),(own x.2.2.2.2.2.2.2.2.2.2.2.2.2.2.1 x.2.2.2.2.2.2.2.2.2.2.2.2.2.2.2 170 1 (List.zipWith gN x.2.2.2.2.2.2.2.2.2.2.2.2.1 x.2.2.2.2.2.2.2.2.2.2.2.2.2.1)),(bw (aU ob x.2.2.2.2.2.2.2.2.2.2.2.2.1 x.2.2.2.2.2.2.2.2.2.2.2.2.2.1))] else []):=by
 have S1:=hin.sQ
 have Sh:=hin.sr
 have ST:=hin.od
 have Sb:=hin.sj
 have Sz:=hin.side
 refine dg kr Tryz.func58 U U fun w0 Q hQ hN=>?_
 try dsimp only
 refine WS fun _ PW=>fQ U fun b2=>fQ U fun b3=>bh 2 U<|RK PW<|aj fun _ Pi=>WS fun _ Pl=>fu 1 [] (mc 1 U mn) U<|rS (CL (BR l kA kC az cA cC bA bC hin) (bg [2,3,4,5]) U)<|bh 1 U<|RK Pl<|WS fun _ Pt=>rP 2 [] mn ?_
 refine RK Pt<|cH U (bu fun h=>?_) (br fun h=>?_)
 ·refine WS fun _ P8=>rP 3 [] mn ?_
  refine RK P8<|aq<|LX hQ (false,(dC l),0,none,0,none,0,[],[],[],none,0,[],[],none,0) [] [] mn U (by rfl) U U ?_
  exact rL<|LI (ox (r:=r) (me:=me) h) h
 refine WK Pi<|aj fun _ P_=>WS fun _ AO=>?_
 have C:dC l=0:=h
 obtain ⟨Li,d⟩:=gR C
 have Ql:=d.head
 unfold gE at Ql
 refine rP 2 [] (mc 0 U mn) ?_
 refine df (xs:=[.tmp 24]) (cs:=[(vI r.Start)]) U cw js U U U U (by simp [Value.cells]) U U fun Mo=>?_
 refine rS (CL (ep.eq (je 0 86400000 ([r.Start]) (some ⟨Mo,0,none⟩) 1 (by (simp; done))) cY) (av (bf 0 U U (by simp [bI]) U)<|aI) U) ?_
 refine rP 2 [] mn ?_
 refine dh (t:=28) U (bu fun Ne=>?_) (br fun Ne=>?_)
 ·refine bh 14 U<|RK AO<|aQ U<|WS fun _ A6=>rP 2 [] mn ?_
  refine RK A6<|aq<|LX hQ (false,51,0,none,0,none,0,[],[],[],none,0,[],[],none,0) [] [] mn U (by rfl) U U ?_
  exact rL<|qf (jt (me:=me) C (fun q:fm l r=>by have q1:=q.time; have q2:=q.len; omega))
 refine rP 4 [] (mc 1 U mn) ?_
 refine df (xs:=[.tmp 32]) (cs:=[(vI r.gk)]) U cw js U U U U (by simp [Value.cells]) U U fun M2=>?_
 refine rS (CL (ep.eq (je r.Start 86400000 ([r.gk]) (some ⟨M2,0,none⟩) 1 (by (simp; done))) cY) (av (bf 0 U U (by simp [bI]) U)<|aI) U) ?_
 refine rP 3 [] mn ?_
 refine dh (t:=37) U (bu fun Op=>?_) (br fun Op=>?_)
 ·refine bh 5 U<|RK AO<|aQ U<|WS fun _ A7=>rP 2 [] mn ?_
  refine RK A7<|aq<|LX hQ (false,51,0,none,0,none,0,[],[],[],none,0,[],[],none,0) [] [] mn U (by rfl) U U ?_
  exact rL<|qf (jt (me:=me) C (fun q:fm l r=>by have q1:=q.time; have q2:=q.len; omega))
 refine rP 5 [] (mc 2 U mn) ?_
 refine RK AO<|cH U (aN fun Or=>?_) (aO fun Or=>?_)
 ·refine WS fun _ A8=>rP 2 [] mn ?_
  refine RK A8<|aq<|LX hQ (false,51,0,none,0,none,0,[],[],[],none,0,[],[],none,0) [] [] mn U (by rfl) U U ?_
  exact rL<|qf (jt (me:=me) C (fun q:fm l r=>by have q1:=q.time; have q2:=q.len; omega))
 refine WK P_<|WS fun _ A9=>rS (SX (bk (xs:=[(0,.const (vI (-1)))]) (cs:=(aK.cells (aK.mk (-1) 0))) U U (bj Fv U)) U U)<|AL U Gj fun V=>fX U wV U<|RK A9<|aj fun _ B3=>dF cE [5,6,7,8] [] [] [0,1,2,3,4,5,6,7,8,9,10,11] [] U U U U U<|eS U (LW 4 U cd U U)<|eS U (LW 3 U cd U U)<|eS U (FA 3 U fp U)<|eS U (L1 (vS bA l.ae.length bC) 4 U cd U U)<|eS U (LN U PZ)<|eT U<|cf U fun T18 In=>?_
 refine wG (n:=l.ae.length) (es:=(List.map oC (List.replicate l.ae.length (none:Option Nat)))) U U U Ur I I (by simp only [maxLen]; omega) (by rw [List.map_replicate]; rfl) U fun B=>?_
 try dsimp only
 refine aC (In _ _ (aH [1,2,3,4,5,6,7,8,9,10,11,12]) ?_)
 refine cf U fun T20 JM=>rS (SX (bk (xs:=[(0,.tmp 44),(1,.tmp 45),(3,.tmp 49)]) (cs:=(ck.cells (ck.mk (lh l kA kC cA cC bA bC) (lQ r sgA sgC) (bo.mk none 0 0) (bo.mk (some ⟨B,0,none⟩) l.ae.length l.ae.length) (bo.mk none 0 0) (bo.mk none 0 0)))) U U (bj RP U)) U U)<|aC (JM _ _ (aH [1,2,3,4,5,6,7,8,9,10,11,12]) ?_)
 refine cf U fun T21 JQ=>fQ U fun AB=>aC (JQ _ _ (aH [2,3,4,5,6,7,8,9,10,11,12,13]) ?_)
 refine cf U fun T23 J2=>rS (AG U)<|aC (J2 _ _ (aH [2,3,4,5,6,7,8,9,10,11,12,13]) ?_)
 refine fF U<|KK B3<|aj fun _ B7=>WS fun _ B9=>rP 4 [] (mc 6 U mn) ?_
 refine RK B9<|ax ?_
 rw [zg]
 refine fZ 3 1<|lX ?_
 have E:(0≤l.ae.length)∧(([]:List Nat).length=0):=by exact ⟨Nat.zero_le _,rfl⟩
 refine bL (ι:={z:Nat×(OA)×Nat×(List Nat) // (z.1≤l.ae.length)∧(z.2.2.2.length=z.1)}) [2,3,4,6,7,9,10,54] [4,7,8,9,10,11,12,13,14,15] U U (fun z=>[(55,(vI (z.1.1:Int)))]) (fun z=>[(bw (aU rK (List.replicate z.1.1 ([]:TM)) z.1.2.2.2)),(own z.1.2.1 z.1.2.2.1 3 1 ((cQ l z.1.1).map iC)),(cb AB 166 (ck.cells (ck.mk (lh l kA kC cA cC bA bC) (lQ r sgA sgC) (bo.mk z.1.2.1 ((cQ l z.1.1).length) z.1.2.2.1) (bo.mk (some ⟨B,0,none⟩) l.ae.length l.ae.length) (bo.mk none 0 0) (bo.mk none 0 0)))),(own (some ⟨B,0,none⟩) l.ae.length 40 1 (List.map oC (eG z.1.2.2.2 l.ae.length)))]) (fun _=>rfl) (fun _=>rfl) (fun z=>l.ae.length-z.1.1) ⟨(0,none,0,([]:List Nat)),E⟩ (aV U) (aH [4,7,8,9,10,11,12,13,14,15,0,1,2,3]) ?_
 clear E
 rintro ⟨⟨b,a,c,fb⟩,⟨Ai,Y⟩⟩ J26 A5
 try dsimp only at Ai Y
 try dsimp only
 have Qn:(eG fb l.ae.length).length=l.ae.length:=q_ I
 refine WS fun _ Ci=>rP 1 [] mn ?_
 refine RK Ci<|aj fun _ Ck=>cH U (aN fun Nr=>?_) (aO fun Nr=>?_)
 ·refine WK Ck<|aj fun _ Cp=>ax<|WS fun _ Cx=>rP 2 [] mn ?_
  refine RK Cx<|aj fun _ C0=>dF cE [12,13,16] [4] [0] [0,1,2,3,4,5,6,7,8,9,10,13] [0,1,2,3,4,5,6,7,8,9,10,11,12,13] U U U U U<|eS U (MV U)<|eS U (MV U)<|eS U (SX (bO U U) U U)<|eS U (FA 10 U fp U)<|fS U (L1 (vS a ((cQ l b).length) c) 12 U cd U U)<|eS U (LW 2 U cd U U)<|eS U (MV U)<|eS U (CL (Pp l kA kC az cA cC bA bC (b:Int) hin asm (by exact d.vK) I) (bg [3,4,5,6]) U) ?_
  have S2:=FF Li d.vK b
  have TV:=d.Ry b I
  simp only [Int.toNat_natCast]
  refine eS U (BI U (Gu ⟨I,I⟩))<|eS U (FA 1 U fp U)<|eS U (L1 (vI l.gH) 2 U cd U U) ?_
  refine eS U (CL (Pu (1000*(mg l (b:Int).toNat)) l.gH I (by (simp; omega))) (aI) U) ?_
  refine eS U (SX (bO U U) U U)<|eS U (FA 10 U fp U)<|eT U<|gM U fun T33 J3=>df (xs:=[.tmp 69]) (cs:=[(vI (pk (1000*(mg l (b:Int).toNat)) l.gH))]) U cw js U U U U (by simp [Value.cells]) U U fun R6=>aC (J3 _ _ (aH [1,2,3,4,5,6,7,8,9,10,11,14]) (aH [1,2,3,4,5,6,7,8,9,10,11,12,13,14]) ?_)
  refine cf U fun T35 J4=>?_
  refine cL (es2:=(List.map iC (cQ l (b+1)))) (m':=(cQ l (b+1)).length) 12 U U U o2 U U (by simp [eC]) (bf (es:=List.map iC [(pk (1000*(mg l (b:Int).toNat)) l.gH)]) 0 U U (by simp [bI]) U) (jM _) (by have:=eC (l:=l) (n:=b); first|omega|(simp; omega)) (by simp only [maxLen,eC]; omega) (by rw [vj]; simp [ej]) (by simp [eC]) U fun e g=>?_
  try dsimp only
  refine aC (J4 _ _ (aH [1,2,3,4,5,6,7,8,9,10,11,14]) ?_)
  refine cf U fun T38 J5=>jC (vs:=[(vS e ((cQ l (b+1)).length) g)]) (cs':=(ck.cells (ck.mk (lh l kA kC cA cC bA bC) (lQ r sgA sgC) (bo.mk e ((cQ l (b+1)).length) g) (bo.mk (some ⟨B,0,none⟩) l.ae.length l.ae.length) (bo.mk none 0 0) (bo.mk none 0 0)))) (C':=[_,_,_,_,_,_,_,_,_,_,_,_,_,(cb AB 166 (ck.cells (ck.mk (lh l kA kC cA cC bA bC) (lQ r sgA sgC) (bo.mk e ((cQ l (b+1)).length) g) (bo.mk (some ⟨B,0,none⟩) l.ae.length l.ae.length) (bo.mk none 0 0) (bo.mk none 0 0)))),_]) 13 U U U xn U U U U U U U<|aC (J5 _ _ (aH [1,2,3,4,5,6,7,8,9,10,11,14]) ?_)
  refine fF U<|KK C0<|ak<|bh 1 U<|rS (SX (bO U U) U U)<|rP 3 [] (mc 13 U mn) ?_
  refine lx (kV:=iV) U U fun J=>?_
  try dsimp only
  obtain ⟨Rq,Lo⟩:=aJ (eG fb l.ae.length) b I
  have hx41m:(List.map oC (eG fb l.ae.length))[b]? =some (oC Rq):=by rw [fH,Lo]; rfl
  refine rS (IA b U (ag (n:=l.ae.length) 15 U sq) Gi dc I I) ?_
  have J6:((eG fb l.ae.length).set b (some J))=(eG (fb++[J]) l.ae.length):=by exact uK I I
  refine dM (k:=b) (o:=0) (vs:=[(Value.map (some J))]) (es':=(List.map oC (eG (fb++[J]) l.ae.length))) (C':=[_,_,_,_,_,_,_,_,_,_,_,_,_,_,_,(own (some ⟨B,0,none⟩) l.ae.length 40 1 (List.map oC (eG (fb++[J]) l.ae.length)))]) 15 U U U Jg U U U U hx41m U dc (by exact (List.map_set (f:=oC) (l:=(eG fb l.ae.length)) (i:=b) (a:=(some J))).symm.trans (congrArg _ J6)) U<|aC<|aB<|KK Cp<|ak<|rP 2 [] mn ?_
  refine aC<|zk (X':=aU rK (List.replicate (b+1) ([]:TM)) (fb++[J])) 12 0 U U (OZ Y) ?_
  try dsimp only
  have J7:(vI (((b+1):Nat):Int))=(vI ((b:Int)+1)):=by exact cI I
  refine aR (A5 ⟨((b+1),e,g,(fb++[J])),⟨I,by simp; omega⟩⟩ _ _ _ U os (cK 8<|aY U J7<|du.nil _) (aH [2,3,4,5,6,7,8,9,10,11,0,12,13,14]))
 refine bD<|ab<|ab<|ay<|KK B7<|aj fun _ C1=>WS fun _ C2=>rP 4 [] (mc 1 U mn) ?_
 refine RK C2<|ax ?_
 rw [show (List.replicate b ([]:TM))=eo l r.ah 0 from by rw [ET,show b=l.ae.length by omega]]
 rw [show cQ l b=cQ l l.ae.length from by rw [show b=l.ae.length by omega]]
 have E:(0≤r.ah.length)∧(qJ l r.ah 0):=by exact ⟨Nat.zero_le _,zm⟩
 refine bL (ι:={z:Nat // (z≤r.ah.length)∧(qJ l r.ah z)}) [2,3,4,6,7,9,10,83,84] [1,2,3,4,5,6,7,8,9,11,12,13] U U (fun z=>[(85,(vI (z.1:Int)))]) (fun z=>[(cb V 107 (aK.cells (mU r.ah z.1))),(bw (aU rK (eo l r.ah z.1) fb))]) (fun _=>rfl) (fun _=>rfl) (fun z=>r.ah.length-z.1) ⟨0,E⟩ (aV U) (aH [1,2,3,4,5,6,7,8,9,11,12,13,0,10]) ?_
 clear E
 rintro ⟨i,⟨L3,A⟩⟩ J46 T
 try dsimp only
 have Qr:(eo l r.ah i).length=l.ae.length:=jD
 have Qn:(eG fb l.ae.length).length=l.ae.length:=q_ I
 refine WS fun _ C3=>rP 1 [] mn ?_
 refine RK C3<|aj fun _ Di=>bQ U (aO fun Os=>?_) (aN fun Os=>?_)
 ·refine bD<|ab<|ab<|ay<|KK C1<|aj fun _ F5=>aj fun _ GE=>?_
  have j:fm l r:=BC I I A I
  refine ak<|bh 3 U<|RK GE<|ax<|j5 2<|eD fun R81 If=>WS fun _ GT=>rS (SX (b_ (r:= .bool true) U U U g5) U U)<|RK GT<|aj fun _ Go=>aQ U<|WK Go<|aj fun _ Hb=>ax<|WS fun _ Hi=>rS (UB 0 0 U Pv U dc U)<|fu 2 [] (mr 8 U mn) U<|RK Hi<|WS fun _ H1=>bh 1 U<|rS (SX (sD U U U (hf) (bg [7])) U U)<|bh 1 U<|RK H1<|WS fun _ IO=>rP 2 [] mn ?_
  refine RK IO<|cH U (bu fun K=>?_) (br fun K=>?_)
  ·refine WS fun _ IR=>rP 3 [] mn ?_
   refine RK IR<|aq<|LX hQ (false,me,0,none,0,none,0,[],[],[],none,0,[],[],none,0) [] [] mn U (by rfl) U U ?_
   exact rL<|LI (qn C j K) K
  refine bZ<|aB<|KK Hb<|ak<|rS (SX (b_ (r:= .int .i64 1) U U U (iD ⟨dc,dc⟩)) U U)<|rP 1 [] mn ?_
  refine RK If<|eD fun R89 R2=>WS fun _ IW=>rS (SX (b_ (r:= .bool false) U U U g5) U U)<|RK IW<|aj fun _ R1=>aW U<|bD<|ab<|ab<|ay<|KK F5<|aj fun _ Id=>?_
  rw [show eo l r.ah i=eo l r.ah r.ah.length from by rw [show i=r.ah.length by omega]]
  have A0:(eo l r.ah r.ah.length).length=l.ae.length:=jD
  rw [show (List.map oC (eG fb l.ae.length))=(List.zipWith gN (eo l r.ah r.ah.length) fb) from U2 I A0]
  rw [show (cb AB 166 (ck.cells (ck.mk (lh l kA kC cA cC bA bC) (lQ r sgA sgC) (bo.mk a ((cQ l l.ae.length).length) c) (bo.mk (some ⟨B,0,none⟩) l.ae.length l.ae.length) (bo.mk none 0 0) (bo.mk none 0 0))))=(cb AB 166 (ck.cells (ck.mk (lh l kA kC cA cC bA bC) (lQ r sgA sgC) (bo.mk a ((cQ l l.ae.length).length) c) (bo.mk (some ⟨B,0,none⟩) ((eo l r.ah r.ah.length).length) l.ae.length) (bo.mk none 0 0) (bo.mk none 0 0)))) from by rw [A0]]
  have Lk:=pc Li d j
  have R3:(cQ l l.ae.length).length=l.ae.length:=eC
  refine ak<|rP 1 [] mn ?_
  refine jd 10 U U U U (Ml (lh l kA kC cA cC bA bC) (lQ r sgA sgC) (cQ l l.ae.length) (eo l r.ah r.ah.length) a c fb (some ⟨B,0,none⟩) l.ae.length AB (by exact Lk) (by exact eC.symm) (by rw [A0]; omega)) U (ei 9 U U (kl sm) (ei 11 U U (kl (by rw [List.length_zipWith]; omega)) (ei 13 U U tP ks))) U (fun L0 Qg=>?_)
  obtain ⟨G,S,P,R,F,O,N,H⟩:=L0
  refine M7 (X:=[(cb AB 166 (ck.cells (ck.mk (lh l kA kC cA cC bA bC) (lQ r sgA sgC) (bo.mk a ((cQ l l.ae.length).length) c) (bo.mk (some ⟨B,0,none⟩) ((eo l r.ah r.ah.length).length) l.ae.length) (bo.mk P G.length R) (bo.mk N F.length H)))),(own P R 170 1 (List.zipWith gN G S)),(bw (aU ob G S)),(own N H 170 1 (List.zipWith gN F O)),(bw (aU ob F O))]) 10 U U ?_
  try dsimp only
  obtain ⟨As,LE,LT,La⟩:=Qg
  dsimp only at As LE LT La
  refine RK Id<|aj fun _ v=>WS fun _ w=>rP 1 [] mn ?_
  refine cX (HZ (lh l kA kC cA cC bA bC) (lQ r sgA sgC) (cQ l l.ae.length) (eo l r.ah r.ah.length) a c fb (some ⟨B,0,none⟩) l.ae.length G F S P R O N H AB (by exact Lk) (by (simp; omega)) (by exact eC.symm) (by exact As) asm) (av (ag (n:=(cQ l l.ae.length).length) 14 U sm)<|av (ag (n:=(eo l r.ah r.ah.length).length) 15 U (by rw [List.length_zipWith]; omega))<|av (dL 17 U wm)<|av (ag (n:=G.length) 1 U (by rw [List.length_zipWith]; omega))<|av (dL 2 U wm)<|av (ag (n:=F.length) 3 U (by rw [List.length_zipWith]; omega))<|av (dL 4 U wm)<|fj 0 U U<|aI) U fun L2 Rn=>?_
  obtain ⟨Rt,R0⟩:=L2
  try dsimp only
  refine rP 2 [] mn ?_
  refine RK w<|bQ U (aO fun W=>?_) (aN fun W=>?_)
  ·refine WK v<|WS fun _ AC=>rP 3 [] mn ?_
   refine RK AC<|aq ?_
   refine LX hQ (true,0,AB,a,c,(some ⟨B,0,none⟩),l.ae.length,fb,G,S,P,R,F,O,N,H) [1,15,16,18,2,3,4,5] [] mn U (by (show List.all _ _=true; simp only [cond_true,fw,List.all_nil,IX,Sm,Bool.and_true]; rfl)) U U ?_
   exact ⟨fun _=>⟨l7 C j (by first|rfl|exact K) (fun q=>W (congrArg (fun z:List Int=>(z.length:Int)) q)),As,LE,LT,La,dso⟩,NW⟩
  refine WS fun _ y=>rP 2 [] mn ?_
  refine RK y<|aq<|LX hQ (false,8,0,none,0,none,0,[],[],[],none,0,[],[],none,0) [] [] mn U (by rfl) U U ?_
  exact rL<|qf (pI (me:=me) C j (by first|rfl|exact K) (show jP (cu l r)=[] from jR (Int.natCast_eq_zero.1 W)))
 refine WK Di<|aj fun _ AA=>ax<|WS fun _ Dk=>rP 1 [] mn ?_
 obtain ⟨x,hx⟩:=aJ r.ah i I
 have RE:=bK aK.cells hx
 refine rS (IA i U (aA 6 U) ym dc I I)<|rS (oT i 0 (aK.cells x) U cd (aA 6 U) RE U dc U U)<|AL U Gj fun R7=>bh 1 U<|fX U wV U<|RK Dk<|aj fun _ p=>WS fun _ L=>rP 6 [0,1] (mc 2 U (mc 0 U mn)) ?_
 refine df (xs:=[.tmp 95]) (cs:=[(vI x.gu)]) U cw js U U U U (by simp [Value.cells]) U U fun NE=>?_
 refine rS (CL (ep.eq (je 0 ((l.ae.length:Int)-1) ([x.gu]) (some ⟨NE,0,none⟩) 1 (by (simp; done))) cY) (av (bf 0 U U (by simp [bI]) U)<|aI) U) ?_
 refine rP 2 [] mn ?_
 refine dh (t:=99) U (bu fun PP=>?_) (br fun PP=>?_)
 ·refine bh 27 U<|RK L<|aQ U<|WS fun _ Do=>rP 2 [] mn ?_
  refine RK Do<|aq<|LX hQ (false,51,0,none,0,none,0,[],[],[],none,0,[],[],none,0) [] [] mn U (by rfl) U U ?_
  exact rL<|qf (jt (me:=me) C (v_ hx (by unfold ko lk; omega)))
 refine rP 2 [] (mc 1 U mn) ?_
 refine df (xs:=[.tmp 101]) (cs:=[(vI x.Read)]) U cw js U U U U (by simp [Value.cells]) U U fun Na=>?_
 refine rS (CL (ep.eq (je 0 86400000 ([x.Read]) (some ⟨Na,0,none⟩) 1 (by (simp; done))) cY) (av (bf 0 U U (by simp [bI]) U)<|aI) U) ?_
 refine rP 3 [] mn ?_
 refine dh (t:=106) U (bu fun A1=>?_) (br fun A1=>?_)
 ·refine bh 20 U<|RK L<|aQ U<|WS fun _ Dz=>rP 2 [] mn ?_
  refine RK Dz<|aq<|LX hQ (false,51,0,none,0,none,0,[],[],[],none,0,[],[],none,0) [] [] mn U (by rfl) U U ?_
  exact rL<|qf (jt (me:=me) C (v_ hx (by unfold ko lk; omega)))
 refine rP 7 [0,1] (mc 2 U (mc 15 U mn)) ?_
 refine dh (t:=113) U (aN fun A2=>?_) (aO fun A2=>?_)
 ·refine bh 13 U<|RK L<|aQ U<|WS fun _ EQ=>rP 2 [] mn ?_
  refine RK EQ<|aq<|LX hQ (false,51,0,none,0,none,0,[],[],[],none,0,[],[],none,0) [] [] mn U (by rfl) U U ?_
  exact rL<|qf (jt (me:=me) C (v_ hx (by unfold ko lk; omega)))
 refine rP 6 [0,1] (mc 2 U (mc 15 U mn)) ?_
 refine bY (t:=119) U (aO fun A3=>?_) (aN fun A3=>?_)
 ·refine bh 7 U<|RK L<|aW U<|WK p<|aj fun _ u=>WS fun _ Fm=>fu 2 [0,1] (mc 4 U (mc 2 U mn)) U<|rS (CL (Js l kA kC az cA cC bA bC x hin asm I) (bg [5,6,7,8]) U)<|AL U dp fun R9=>fX U cx U<|RK Fm<|WS fun _ Fn=>rP 5 [] (mc 0 U mn) ?_
  refine RK Fn<|bQ U (aO fun D=>?_) (aN fun D=>?_)
  ·refine WK u<|ak<|rP 1 [] (mc 3 U mn) ?_
   refine jC (vs:=(aK.cells x)) (cs':=(aK.cells x)) (C':=[_,_,_,_,_,_,_,_,_,_,_,_,_,_,_,_,(cb V 107 (aK.cells x)),_]) 16 U U U wV U U U U U U U<|aC<|aB<|KK AA ?_
   have K5:(aK.cells x)=(aK.cells (mU r.ah (i+1))):=by rw [pW hx]
   rw [K5]
   refine ak<|rP 2 [] mn ?_
   refine aC ?_
   rw [show (eo l r.ah i)=(eo l r.ah (i+1)) from (w9 hx D).symm]
   have K8:(vI (((i+1):Nat):Int))=(vI ((i:Int)+1)):=by exact cI I
   refine aR (T ⟨(i+1),⟨I,l_ A hx (by unfold ko lk; omega)⟩⟩ _ _ _ U os (cK 9<|aY U K8<|du.nil _) (aH [4,5,6,7,8,9,10,11,12,13,14,15,16,17]))
  obtain ⟨mb,Z⟩:=aJ (eo l r.ah i) ((x.gu).toNat) I
  obtain ⟨ga,M⟩:=aJ fb ((x.gu).toNat) I
  refine Gh 17 Z M U U U ?_
  try dsimp only
  refine dK cE 10 kr<|l5 1 U<|dS (SX (bO U U) U U)<|dP 4 [0,1] (mc 16 U (mc 5 U mn)) ?_
  have LD:(List.map oC (eG fb l.ae.length))[(x.gu).toNat]? =some (oC (some ga)):=rZ (o3 M)
  refine dS (IA ((x.gu).toNat) U (ag (n:=l.ae.length) 17 U sq) Gi dc I I) ?_
  refine dS (fT ((x.gu).toNat) 0 (Value.map (some ga)) U cd (ag (n:=(eG fb l.ae.length).length) 17 U sm) LD U dc U)<|mT 2 [] (mc 2 U mn) U<|cR<|ic (kV:=iV) (x:=(i:Int)) (C':=[(g_ iV ga (bM dD (dW mb (i:Int) (cN l x)))),_,_,_,_,_,_,_,_,_,_,_,_,_,_,_,_,_,_]) 0 U U U U k8 (db mY) U (fW _ _ _ _).symm U<|RK u<|ak<|rP 1 [] (mc 5 U mn) ?_
  refine jC (vs:=(aK.cells x)) (cs':=(aK.cells x)) (C':=[_,_,_,_,_,_,_,_,_,_,_,_,_,_,_,_,_,_,(cb V 107 (aK.cells x))]) 18 U U U wV U U U U U U U<|aC<|aB<|KK AA ?_
  have K0:(aK.cells x)=(aK.cells (mU r.ah (i+1))):=by rw [pW hx]
  rw [K0]
  refine ak<|rP 2 [] mn ?_
  refine aC ?_
  refine IP (f:=rK) (ms:=(eo l r.ah i)) (m:=(dW mb (i:Int) (cN l x))) 1 0 (by rw [jD]; omega) M U U U ?_
  rw [za hx I D Z]
  have K4:(vI (((i+1):Nat):Int))=(vI ((i:Int)+1)):=by exact cI I
  refine aR (T ⟨(i+1),⟨I,l_ A hx (by unfold ko lk; omega)⟩⟩ _ _ _ U os (cK 9<|aY U K4<|du.nil _) (aH [5,6,7,8,9,10,11,12,13,14,15,16,17,0]))
 refine rP 7 [0,1] (mc 2 U (mc 15 U mn)) ?_
 refine RK L<|cH U (aN fun A4=>?_) (aO fun A4=>?_)
 ·refine WS fun _ Eq=>rP 2 [] mn ?_
  refine RK Eq<|aq<|LX hQ (false,51,0,none,0,none,0,[],[],[],none,0,[],[],none,0) [] [] mn U (by rfl) U U ?_
  exact rL<|qf (jt (me:=me) C (v_ hx (by unfold ko lk; omega)))
 refine WK p<|aj fun _ s=>WS fun _ FS=>fu 2 [0,1] (mc 4 U (mc 2 U mn)) U<|rS (CL (Js l kA kC az cA cC bA bC x hin asm I) (bg [5,6,7,8]) U)<|AL U dp fun R8=>fX U cx U<|RK FS<|WS fun _ Fd=>rP 5 [] (mc 0 U mn) ?_
 refine RK Fd<|bQ U (aO fun D=>?_) (aN fun D=>?_)
 ·refine WK s<|ak<|rP 1 [] (mc 3 U mn) ?_
  refine jC (vs:=(aK.cells x)) (cs':=(aK.cells x)) (C':=[_,_,_,_,_,_,_,_,_,_,_,_,_,_,_,_,(cb V 107 (aK.cells x)),_]) 16 U U U wV U U U U U U U<|aC<|aB<|KK AA ?_
  have KM:(aK.cells x)=(aK.cells (mU r.ah (i+1))):=by rw [pW hx]
  rw [KM]
  refine ak<|rP 2 [] mn ?_
  refine aC ?_
  rw [show (eo l r.ah i)=(eo l r.ah (i+1)) from (w9 hx D).symm]
  have Kj:(vI (((i+1):Nat):Int))=(vI ((i:Int)+1)):=by exact cI I
  refine aR (T ⟨(i+1),⟨I,l_ A hx (by unfold ko lk; omega)⟩⟩ _ _ _ U os (cK 9<|aY U Kj<|du.nil _) (aH [4,5,6,7,8,9,10,11,12,13,14,15,16,17]))
 obtain ⟨mb,Z⟩:=aJ (eo l r.ah i) ((x.gu).toNat) I
 obtain ⟨ga,M⟩:=aJ fb ((x.gu).toNat) I
 refine Gh 17 Z M U U U ?_
 try dsimp only
 refine dK cE 10 kr<|l5 1 U<|dS (SX (bO U U) U U)<|dP 4 [0,1] (mc 16 U (mc 5 U mn)) ?_
 have LA:(List.map oC (eG fb l.ae.length))[(x.gu).toNat]? =some (oC (some ga)):=rZ (o3 M)
 refine dS (IA ((x.gu).toNat) U (ag (n:=l.ae.length) 17 U sq) Gi dc I I) ?_
 refine dS (fT ((x.gu).toNat) 0 (Value.map (some ga)) U cd (ag (n:=(eG fb l.ae.length).length) 17 U sm) LA U dc U)<|mT 2 [] (mc 2 U mn) U<|cR<|ic (kV:=iV) (x:=(i:Int)) (C':=[(g_ iV ga (bM dD (dW mb (i:Int) (cN l x)))),_,_,_,_,_,_,_,_,_,_,_,_,_,_,_,_,_,_]) 0 U U U U k8 (db mY) U (fW _ _ _ _).symm U<|RK s<|ak<|rP 1 [] (mc 5 U mn) ?_
 refine jC (vs:=(aK.cells x)) (cs':=(aK.cells x)) (C':=[_,_,_,_,_,_,_,_,_,_,_,_,_,_,_,_,_,_,(cb V 107 (aK.cells x))]) 18 U U U wV U U U U U U U<|aC<|aB<|KK AA ?_
 have J8:(aK.cells x)=(aK.cells (mU r.ah (i+1))):=by rw [pW hx]
 rw [J8]
 refine ak<|rP 2 [] mn ?_
 refine aC ?_
 refine IP (f:=rK) (ms:=(eo l r.ah i)) (m:=(dW mb (i:Int) (cN l x))) 1 0 (by rw [jD]; omega) M U U U ?_
 rw [za hx I D Z]
 have J9:(vI (((i+1):Nat):Int))=(vI ((i:Int)+1)):=by exact cI I
 refine aR (T ⟨(i+1),⟨I,l_ A hx (by unfold ko lk; omega)⟩⟩ _ _ _ U os (cK 9<|aY U J9<|du.nil _) (aH [5,6,7,8,9,10,11,12,13,14,15,16,17,0]))
end
section
open Go.RowKit
theorem Jb (l:aZ) (kA:OA) (kC:Nat) (az:List RA) (cA:OA) (cC:Nat) (bA:OA) (bC:Nat) (r:cJ) (sgA:OA) (sgC:Nat) (bq_:Int) (hin:er l az) (hsl:r.ah.length≤1000000):
 ep Tryz.prog 25 [(vA (bW.cells (lh l kA kC cA cC bA bC))),(vA (dY.cells (lQ r sgA sgC))),(vI bq_)] [(rd kA l.aM.length 9 (l.aM.map al.cells)),(rd cA l.ai.length 2 (List.zipWith ar.cells l.ai az)),(fc (aU ar.g4 l.ai az)),(rd bA l.ae.length 4 (l.ae.map bH.cells)),(rd sgA r.ah.length 2 (r.ah.map aK.cells))] (vT [(vA (aa.cells (e9 l r bq_))),(vI (eW l r bq_))]):=by
 have J6:=hin.sQ
 have In:=hin.sr
 have IO:=hin.od
 have Id:=hin.sj
 have J4:=hin.side
 refine bG kr Tryz.func25 U U fun w0 Q hQ hN=>?_
 try dsimp only
 refine WS fun _ A1=>fQ U fun b2=>fQ U fun b3=>uC U U fun b4=>AL U dp fun b5=>bh 1 U<|RK A1<|WS fun _ p=>rP 2 [0,1] (mc 3 U (mc 2 U mn)) ?_
 refine rS (FU U)<|df (xs:=[.tmp 17]) (cs:=[(Value.func (.func 59) [].toArray [(vP b2),(vP b4)].toArray)]) U Pv SR U U U U (by simp [Value.cells]) U U fun b7=>cX (Ot l kA kC az cA cC bA bC r sgA sgC (Value.func (.func 59) [].toArray [(vP b2),(vP b4)].toArray) (fc [(rd kA l.aM.length 9 (l.aM.map al.cells)),(rd cA l.ai.length 2 (List.zipWith ar.cells l.ai az)),(fc (aU ar.g4 l.ai az)),(rd bA l.ae.length 4 (l.ae.map bH.cells)),(cb b2 28 (bW.cells (lh l kA kC cA cC bA bC))),(cb b4 3 [(vI bq_)])]) (jO l bq_) b7 (by exact nZ (fi:=[]) (ca:=[(vP b2),(vP b4)]) (mm (EM l kA kC az cA cC bA bC b2 bq_ b4 (by first|assumption|omega)) (bg [0,1,2,3,4,5]))) hin hsl) (l8 [5,6,7,8,9]<|av (mh (bg [5,6,7,8,4,2]))<|fj 0 U U<|aI) U fun y8 C0=>?_
 obtain ⟨C1,GE,E,H,AB,g,j,m,B,L,J,K,A,G,d,f⟩:=y8
 cases C1
 ·obtain ⟨Ci,he⟩:=C0.2 rfl
  try dsimp only at Ci he
  subst Ci
  try dsimp only [cond_true,cond_false,List.cons_append,List.nil_append]
  refine bh 5 U<|RK p<|aj fun _ GT=>WS fun _ A9=>rP 2 [] mn ?_
  refine RK A9<|bQ U (br fun A8=>?_) (bu fun A8=>?_)
  ·exact absurd A8 he
  refine WS fun _ B3=>rS (SX (bk (xs:=[]) (cs:=(aa.cells (aa.mk 0 0))) U U (bj gv U)) U U)<|bh 1 U<|sT U cx U<|rP 1 [] mn ?_
  refine RK B3<|aq<|lG hQ [0] (mc 1 U mn) U ?_
  (have e:=nF (b:=bq_) he; rw [e.1,e.2]<;>rfl)
 obtain ⟨he,D,C,Dk,Di,EQ⟩:=C0.1 rfl
 try dsimp only [cond_true,cond_false,List.cons_append,List.nil_append]
 dsimp only at D C Dk Di EQ
 obtain ⟨C3,A5,Dz,JQ⟩:=kb he
 obtain ⟨Eq,Cp⟩:=gR C3
 have Do:=Cp.head
 unfold gE at Do
 have FS:=pc Eq Cp A5
 have J3:=A5.time
 have J2:=A5.len
 have Ck:(cQ l l.ae.length).length=l.ae.length:=eC
 have Cx:(eo l r.ah r.ah.length).length=l.ae.length:=jD
 have JM:B.length=l.ae.length+1:=by have:=D.len; rw [show (cu l r).n=l.ae.length from eC] at this; exact this
 have If:A.length=l.ae.length+1:=by have:=C.len; rw [show (cu l r).n=l.ae.length from eC] at this; exact this
 obtain ⟨IR,IW⟩:=DK Dz
 obtain ⟨b,A2⟩: ∃ b:Nat,bq_=(b:Int):=⟨bq_.toNat,I⟩
 rw [A2]
 refine bh 5 U<|RK p<|aj fun _ N=>WS fun _ O=>bh 1 U<|rS (SX (b_ (r:= .bool false) U U U nK) U U)<|RK O<|aW U<|WK N<|WS fun _ P=>rS (SX (bk (xs:=[(0,.const (vI 1))]) (cs:=(aa.cells (aa.mk 1 0))) U U (bj gv U)) U U)<|AL U dp fun A6=>fX U cx U<|RK P<|WS fun _ R=>fu 1 [] (mc 0 U mn) U<|AL U dp fun A7=>fX U cx U<|RK R<|aj fun _ T=>WS fun _ AA=>rP 2 [] (mc 12 U mn) ?_
 obtain ⟨mf,Y⟩:=aJ B b I
 obtain ⟨mb,Z⟩:=aJ A (b+1) I
 refine cX (Ld E b) (aI) U fun Fm Go=>?_
 obtain ⟨AC,AO⟩:=Fm
 try dsimp only
 refine RK AA<|ax ?_
 refine nz (L0:=[(3,(vP b2)),(4,(vP b3)),(5,(vP b4)),(6,(vP b5)),(7,(vI 0)),(10,(vP A6)),(11,(vP A7))]) (F:=[(own H AB 3 1 ((cQ l l.ae.length).map iC)),(own g j 40 1 (List.zipWith gN (eo l r.ah r.ah.length) m)),(bw (aU rK (eo l r.ah r.ah.length) m)),(own J K 170 1 (List.zipWith gN B L)),(bw (aU ob B L)),(own d f 170 1 (List.zipWith gN A G)),(bw (aU ob A G)),(cb E 166 (ck.cells (ck.mk (lh l kA kC cA cC bA bC) (lQ r sgA sgC) (bo.mk H ((cQ l l.ae.length).length) AB) (bo.mk g ((eo l r.ah r.ah.length).length) j) (bo.mk J B.length K) (bo.mk d A.length f)))),(cb AC 121 [(vP E)]),(cb AO 3 [(vI (b:Int))])]) (fun k (y:aa)=>(kv k y)∧(∀ q∈k,q∈p5 (cu l r) b mf mb)) (fun k y=>[(cb A7 45 (aa.cells y)),(cb A6 45 (aa.cells (aa.mk 1 0))),(cb b5 45 (aa.cells (aa.mk 0 0))),(cb b4 3 [(vI (b:Int))]),(cb b3 60 (dY.cells (lQ r sgA sgC))),(cb b2 28 (bW.cells (lh l kA kC cA cC bA bC))),(rd kA l.aM.length 9 (l.aM.map al.cells)).ro,(rd cA l.ai.length 2 (List.zipWith ar.cells l.ai az)).ro,(fc (aU ar.g4 l.ai az)).ro,(rd bA l.ae.length 4 (l.ae.map bH.cells)).ro,(rd sgA r.ah.length 2 (r.ah.map aK.cells)).ro]) (fun _ (_:Unit)=>False) (fun _ _=>[]) [2,3,13,14,15,16,17,18,19,20,21] [5,6,7,8,9,10,11,4,0,1] mM rfl rfl (HE (lh l kA kC cA cC bA bC) (lQ r sgA sgC) (cQ l l.ae.length) (eo l r.ah r.ah.length) H AB m g j B A L J K G d f E b AC AO mf mb (by rw [Ck]; omega) (by exact FS) (by rw [Cx]; omega) (by exact D) I (by exact C) I (by show r.ah.length≤1000; omega) (by exact Y) (by exact Z)) rfl rfl rfl (by exact ⟨CE,fun q hq=>by cases hq⟩) (by simp only [List.forall_mem_cons,List.not_mem_nil,false_imp_iff,implies_true,and_true]; exact ⟨⟨_,aT (i:=0) rfl,(kl sm)⟩,⟨_,aT (i:=1) rfl,(kl (by rw [List.length_zipWith]; omega))⟩,⟨_,aT (i:=2) rfl,tP⟩,⟨_,aT (i:=3) rfl,(kl (by rw [List.length_zipWith]; omega))⟩,⟨_,aT (i:=4) rfl,tP⟩,⟨_,aT (i:=5) rfl,(kl (by rw [List.length_zipWith]; omega))⟩,⟨_,aT (i:=6) rfl,tP⟩,⟨_,aT (i:=7) rfl,(bS _)⟩,⟨_,aT (i:=8) rfl,(bS _)⟩,⟨_,aT (i:=9) rfl,(bS _)⟩⟩) (by rintro k x k2 ⟨o,_,rfl,_⟩; rfl) rfl (aV rfl) ?_ ?_ (fun _ _ _ h=>h.elim) (fun _ _ h=>h.elim)
 ·rintro k x k2 h lr ra rb S w1 K41 Qr42 J5 hx A3 B7 X Fd Fn
  obtain ⟨q,hq,rfl,rfl⟩:=hx
  obtain ⟨a,c⟩:=A3
  try dsimp only
  refine ak<|AL U dp fun Hb=>fX U cx U<|aC<|jT (fun _ _ h=>h) (aH [1,0,2,3,4,5,6,7,8,9,10,11,12])<|aR (B7 _ _ ?_)
  refine ax<|aj fun _ s=>WS fun _ B9=>rP 2 [0,1] (mc 2 U (mc 3 U mn)) ?_
  refine rS (BI U (Sd _ _ h (aa.mk 1 0)))<|RK B9<|bQ U (br fun M=>?_) (bu fun M=>?_)
  ·refine WK s<|ak<|rP 1 [] (mc 1 U mn) ?_
   refine GG U cx U<|aC<|aB ?_
   exact X q.2 _ _ (by refine ⟨zi a (nc hq) ?_,fun z hz=>?_⟩; (first|exact if_neg M|exact if_pos M); (rcases dJ.1 hz with hz|hz; exact c z hz; (rw [bJ.1 hz]; exact hq))) (aH [0,2,3,4,5,6,7,8,9,10,11,12])
  refine ak<|fu 4 [0,1] (mc 1 U (mc 2 U mn)) U<|rS (MN U)<|fu 4 [0,1] (mc 1 U (mc 2 U mn)) U<|rS (MX U)<|rS (SX (bk (xs:=[(0,.tmp 40),(1,.tmp 45)]) (cs:=(aa.cells (aa.mk (min q.2.Lo h.Lo) (max q.2.Hi h.Hi)))) U U (bj gv U)) U U)<|sT U cx U<|RK s<|ak<|rP 1 [] (mc 1 U mn) ?_
  refine GG U cx U<|aC<|aB ?_
  exact X (aa.mk (min q.2.Lo h.Lo) (max q.2.Hi h.Hi)) _ _ (by refine ⟨zi a (nc hq) ?_,fun z hz=>?_⟩; (first|exact if_neg M|exact if_pos M); (rcases dJ.1 hz with hz|hz; exact c z hz; (rw [bJ.1 hz]; exact hq))) (aH [0,2,3,4,5,6,7,8,9,10,11,12])
 rintro J8 k h v A4
 obtain ⟨a,c⟩:=A4
 try dsimp only
 refine aB<|KK T<|aj fun _ V=>WS fun _ W=>rP 2 [0,1] (mc 11 U (mc 12 U mn)) ?_
 refine rS (BI U (ua _ _ h (aa.mk 1 0)))<|RK W<|bQ U (aO fun A0=>?_) (aN fun A0=>?_)
 ·refine WK V<|WS fun _ u=>fu 1 [] (mc 11 U mn) U<|jC (vs:=(aa.cells h)) (cs':=(aa.cells h)) (C':=[_,_,_,_,_,_,_,_,_,_,_,_,_,(cb b5 45 (aa.cells h)),_,_,_,_,_,_,_,_]) 13 U U U cx U U U U U U U<|rP 1 [] mn ?_
  refine RK u<|aq<|hQ _ _ _ (oN 0 U U<|hE (vs:=[(vA (aa.cells h)),(vI 0)]) ⟨⟨_,U,.inl ⟨_,_,cd,pE (vs:=(aa.cells h)) 13 U U,U,U⟩⟩,U,trivial⟩ fun w hs=>EU ?_ hs)
  show (vT [(vA (aa.cells h)),(vI 0)])=(vT [(vA (aa.cells (e9 l r bq_))),(vI (eW l r bq_))])
  clear hs w hQ hN u W V AA T R P O N p A1
  (rw [A2] at he ⊢; have hh:h=mG l r b:=zb (D.min _ _ Y) (C.max _ _ Z) (D.keys _ _ Y) (C.keys _ _ Z) c v a; (have e:=oF he (fun q=>A0 (hh.trans q)); rw [e.1,e.2,hh]<;>rfl))
 refine WS fun _ t=>rS (SX (bk (xs:=[]) (cs:=(aa.cells (aa.mk 0 0))) U U (bj gv U)) U U)<|jC (vs:=(aa.cells (aa.mk 0 0))) (cs':=(aa.cells (aa.mk 0 0))) (C':=[_,_,_,_,_,_,_,_,_,_,_,_,_,(cb b5 45 (aa.cells (aa.mk 0 0))),_,_,_,_,_,_,_,_]) 13 U U U cx U U U U U U U<|rP 1 [] mn ?_
 refine RK t<|aq<|hQ _ _ _ (oN 0 U U<|hE (vs:=[(vA (aa.cells (aa.mk 0 0))),(vI 6)]) ⟨⟨_,U,.inl ⟨_,_,cd,pE (vs:=(aa.cells (aa.mk 0 0))) 13 U U,U,U⟩⟩,U,trivial⟩ fun w hs=>EU ?_ hs)
 show (vT [(vA (aa.cells (aa.mk 0 0))),(vI 6)])=(vT [(vA (aa.cells (e9 l r bq_))),(vI (eW l r bq_))])
 clear hs w hQ hN t W V AA T R P O N p A1
 (rw [A2] at he ⊢; have hh:h=mG l r b:=zb (D.min _ _ Y) (C.max _ _ Z) (D.keys _ _ Y) (C.keys _ _ Z) c v a; (have e:=qy he (hh.symm.trans A0); rw [e.1,e.2]<;>rfl))
theorem SK (l:aZ) (kA:OA) (kC:Nat) (az:List RA) (cA:OA) (cC:Nat) (bA:OA) (bC:Nat) (r:cJ) (sgA:OA) (sgC:Nat) (hin:er l az) (hsl:r.ah.length≤1000000):
 ep Tryz.prog 23 [(vA (bW.cells (lh l kA kC cA cC bA bC))),(vA (dY.cells (lQ r sgA sgC)))] [(rd kA l.aM.length 9 (l.aM.map al.cells)),(rd cA l.ai.length 2 (List.zipWith ar.cells l.ai az)),(fc (aU ar.g4 l.ai az)),(rd bA l.ae.length 4 (l.ae.map bH.cells)),(rd sgA r.ah.length 2 (r.ah.map aK.cells))] (vT [(vA (aa.cells (Ax l r))),(vI (eW l r l.cr))]):=by
 have N:=hin.sQ
 have J:=hin.sr
 have H:=hin.od
 have AA:=hin.sj
 have M:=hin.side
 refine bG kr Tryz.func23 U U fun T Q hQ hN=>?_
 try dsimp only
 refine WS fun _ C=>fQ U fun O=>fQ U fun P=>AL U dp fun R=>bh 1 U<|RK C<|WS fun _ D=>fu 4 [0,1] (mc 2 U (mc 1 U mn)) U<|rS (CL (Jb l kA kC az cA cC bA bC r sgA sgC l.cr hin hsl) (bg [3,4,5,6,7]) U)<|bh 3 U<|AL U dp fun S=>fX U cx U<|bh 1 U<|RK D<|aj fun _ E=>WS fun _ F=>rP 2 [] mn ?_
 refine RK F<|cH U (bu fun A=>?_) (br fun A=>?_)
 ·refine WS fun _ G=>rS (SX (bk (xs:=[]) (cs:=(aa.cells (aa.mk 0 0))) U U (bj gv U)) U U)<|bh 1 U<|sT U cx U<|rP 1 [] mn ?_
  refine RK G<|aq<|lG hQ [0] (mc 1 U mn) U ?_
  (rw [Fb A]<;>rfl)
 refine WK E<|WS fun _ B=>rP 4 [0,1] (mc 0 U (mc 2 U mn)) ?_
 have K:=xB A
 have L:=(u_ A).time
 refine fu 6 [0,1] (mc 0 U (mc 2 U mn)) U<|rS (SX (bk (xs:=[(0,.tmp 24),(1,.tmp 29)]) (cs:=(aa.cells (aa.mk (((e9 l r l.cr).Lo)-r.Start) (((e9 l r l.cr).Hi)-r.Start)))) U U (bj gv U)) U U)<|sT U cx U<|rP 1 [] mn ?_
 refine RK B<|aq<|lG hQ [0] (mc 1 U mn) U ?_
 (rw [z5 A,A]<;>rfl)
end
section
open Go.RowKit
theorem O5 (l:aZ) (kA:OA) (kC:Nat) (az:List RA) (cA:OA) (cC:Nat) (bA:OA) (bC:Nat) (d:aw) (sgA:OA) (sgC:Nat) (hin:er l az):
 ep Tryz.prog 216 [(vA (bW.cells (lh l kA kC cA cC bA bC))),(vA (bp.cells (bp.mk d.Out d.eU d.Time (lQ d.cv sgA sgC))))] [(rd kA l.aM.length 9 (l.aM.map al.cells)),(rd cA l.ai.length 2 (List.zipWith ar.cells l.ai az)),(fc (aU ar.g4 l.ai az)),(rd bA l.ae.length 4 (l.ae.map bH.cells)),(rd sgA d.cv.ah.length 2 (d.cv.ah.map aK.cells))] (vT [(vA (aa.cells d.Time)),(vB (decide (d.eU=false∧d.Time=dH∧mB d.cv)))]):=by
 refine bG kr Tryz.func216 U U fun K Q hQ hN=>?_
 try dsimp only
 refine WS fun _ B=>fQ U fun H=>fQ U fun AA=>AL U dp fun J=>rP 1 [] mn ?_
 refine RK B<|aj fun _ A=>dF cE [15] [] [] [1,2,3,4,5,6,7] [] U U U U U<|eS U (FA 2 U fp U)<|eS U (LP (aa.cells d.Time) 0 U cd U U U)<|eS U (FA 1 U fp U)<|eS U (L1 (vB d.eU) 0 U cd U U)<|eS U (NT U)<|eS U (MV U)<|rl (t:=11) U (fun G=>?_) (fun G=>?_)
 rotate_left 1
 ·rw [Bool.not_eq_false'] at G
  refine eS U (OX U)<|eS U (OX U)<|eS U (OX U)<|eS U (OX U)<|eS U (PK U)<|eS U (MV U)<|eS U (OX U)<|eS U (OX U)<|eS U (PK U)<|eS U (AG U)<|eT U<|cf U fun T10 C=>fX U cx U<|aC (C _ _ (aH [1,2,3,4,5,6,7]) ?_)
  refine fF U<|KK A<|aq<|lG hQ [0] (mc 0 U mn) U ?_
  clear hQ hN C T10 A B
  refine congrArg (fun z=>Value.tuple #[_,vB z]) ?_
  first|rfl|(simp_all [dH]; done)
 rw [Bool.not_eq_true'] at G
 refine eS U (FA 2 U fp U)<|eS U (LP (aa.cells d.Time) 0 U cd U U U)<|eS U (SX (bk (xs:=[]) (cs:=(aa.cells (aa.mk 0 0))) U U (bj gv U)) U U)<|eS U (BI U (ua _ _ d.Time (aa.mk 0 0)))<|eS U (PK U)<|eS U (MV U)<|rl (t:=17) U (fun D=>?_) (fun D=>?_)
 rotate_left 1
 ·replace D:=DF D
  refine eS U (OX U)<|eS U (OX U)<|eS U (PK U)<|eS U (AG U)<|eT U<|cf U fun T9 F=>fX U cx U<|aC (F _ _ (aH [1,2,3,4,5,6,7]) ?_)
  refine fF U<|KK A<|aq<|lG hQ [0] (mc 0 U mn) U ?_
  clear hQ hN F T9 A B
  refine congrArg (fun z=>Value.tuple #[_,vB z]) ?_
  first|rfl|(simp_all [dH]; done)
 replace D:=DT D
 refine eS U (LW 0 U cd U U)<|eS U (CL (Kk d sgA sgC) (bg [6]) U)<|eS U (PK U)<|eS U (AG U)<|eT U<|cf U fun T8 E=>fX U cx U<|aC (E _ _ (aH [1,2,3,4,5,6,7]) ?_)
 refine fF U<|KK A<|aq<|lG hQ [0] (mc 0 U mn) U ?_
 clear hQ hN E T8 A B
 refine congrArg (fun z=>Value.tuple #[_,vB z]) ?_
 first|rfl|(simp_all [dH]; done)
theorem Oc (l:aZ) (kA:OA) (kC:Nat) (az:List RA) (cA:OA) (cC:Nat) (bA:OA) (bC:Nat) (d:aw) (sgA:OA) (sgC:Nat) (hin:er l az):
 ep Tryz.prog 219 [(vA (bW.cells (lh l kA kC cA cC bA bC))),(vA (bp.cells (bp.mk d.Out d.eU d.Time (lQ d.cv sgA sgC))))] [(rd kA l.aM.length 9 (l.aM.map al.cells)),(rd cA l.ai.length 2 (List.zipWith ar.cells l.ai az)),(fc (aU ar.g4 l.ai az)),(rd bA l.ae.length 4 (l.ae.map bH.cells)),(rd sgA d.cv.ah.length 2 (d.cv.ah.map aK.cells))] (vT [(vA (aa.cells d.Time)),(vB (decide (iW d.Time∧mB d.cv)))]):=by
 refine bG kr Tryz.func219 U U fun AA Q hQ hN=>?_
 try dsimp only
 refine WS fun _ B=>fQ U fun F=>fQ U fun G=>AL U dp fun H=>rP 1 [] mn ?_
 refine RK B<|aj fun _ A=>dF cE [9] [] [] [1,2,3,4,5,6,7] [] U U U U U<|eS U (FA 2 U fp U)<|eS U (LP (aa.cells d.Time) 0 U cd U U U)<|eS U (FA 2 U fp U)<|eS U (LP (aa.cells d.Time) 0 U cd U U U)<|eS U (CL (F7 d.Time) (aI) U)<|eS U (MV U)<|rl (t:=11) U (fun C=>?_) (fun C=>?_)
 rotate_left 1
 ·replace C:=DF C
  refine eS U (OX U)<|eS U (OX U)<|eS U (PK U)<|eS U (AG U)<|eT U<|cf U fun T8 E=>fX U cx U<|aC (E _ _ (aH [1,2,3,4,5,6,7]) ?_)
  refine fF U<|KK A<|aq<|lG hQ [0] (mc 0 U mn) U ?_
  clear hQ hN E T8 A B
  refine congrArg (fun z=>Value.tuple #[_,vB z]) ?_
  first|rfl|(simp_all; done)
 replace C:=DT C
 refine eS U (LW 0 U cd U U)<|eS U (CL (Kk d sgA sgC) (bg [6]) U)<|eS U (PK U)<|eS U (AG U)<|eT U<|cf U fun T7 D=>fX U cx U<|aC (D _ _ (aH [1,2,3,4,5,6,7]) ?_)
 refine fF U<|KK A<|aq<|lG hQ [0] (mc 0 U mn) U ?_
 clear hQ hN D T7 A B
 refine congrArg (fun z=>Value.tuple #[_,vB z]) ?_
 first|rfl|(simp_all; done)
theorem Og (l:aZ) (kA:OA) (kC:Nat) (az:List RA) (cA:OA) (cC:Nat) (bA:OA) (bC:Nat) (d:aw) (sgA:OA) (sgC:Nat) (hin:er l az) (hsl:d.cv.ah.length≤1000000):
 ep Tryz.prog 221 [(vA (bW.cells (lh l kA kC cA cC bA bC))),(vA (bp.cells (bp.mk d.Out d.eU d.Time (lQ d.cv sgA sgC))))] [(rd kA l.aM.length 9 (l.aM.map al.cells)),(rd cA l.ai.length 2 (List.zipWith ar.cells l.ai az)),(fc (aU ar.g4 l.ai az)),(rd bA l.ae.length 4 (l.ae.map bH.cells)),(rd sgA d.cv.ah.length 2 (d.cv.ah.map aK.cells))] (vT [(vA (aa.cells (Ax l d.cv))),(vB (decide (eW l d.cv l.cr=0∧d.Time=dH)))]):=by
 have K:=hin.sQ
 have AA:=hin.sr
 have G:=hin.od
 have H:=hin.sj
 have J:=hin.side
 refine bG kr Tryz.func221 U U fun P Q hQ hN=>?_
 try dsimp only
 refine WS fun _ C=>fQ U fun L=>fQ U fun M=>AL U dp fun N=>bh 1 U<|RK C<|WS fun _ D=>fu 2 [] (mc 2 U mn) U<|rS (LP (dY.cells (lQ d.cv sgA sgC)) 1 U cd U U U)<|rS (CL (SK l kA kC az cA cC bA bC d.cv sgA sgC hin hsl) (bg [3,4,5,6,7]) U)<|bh 3 U<|AL U dp fun O=>fX U cx U<|rP 1 [] mn ?_
 refine RK D<|aj fun _ A=>dF cE [9] [] [] [0,2,3,4,5,6,7,8] [] U U U U U<|eS U (LW 0 U cd U U)<|eS U (MV U)<|eS U (BI U mJ)<|eS U (MV U)<|rl (t:=18) U (fun E=>?_) (fun E=>?_)
 rotate_left 1
 ·replace E:=DF E
  refine eS U (OX U)<|eS U (OX U)<|eS U (OX U)<|eS U (OX U)<|eS U (PK U)<|eS U (AG U)<|eT U<|cf U fun T10 B=>sT U cx U<|aC (B _ _ (aH [0,2,3,4,5,6,7,8]) ?_)
  refine fF U<|KK A<|aq<|lG hQ [0] (mc 1 U mn) U ?_
  clear hQ hN B T10 A D C
  refine congrArg (fun z=>Value.tuple #[_,vB z]) ?_
  first|rfl|(simp_all [dH]; done)
 replace E:=DT E
 refine eS U (FA 2 U fp U)<|eS U (LP (aa.cells d.Time) 1 U cd U U U)<|eS U (SX (bk (xs:=[]) (cs:=(aa.cells (aa.mk 0 0))) U U (bj gv U)) U U)<|eS U (BI U (ua _ _ d.Time (aa.mk 0 0)))<|eS U (PK U)<|eS U (AG U)<|eT U<|cf U fun T9 F=>sT U cx U<|aC (F _ _ (aH [0,2,3,4,5,6,7,8]) ?_)
 refine fF U<|KK A<|aq<|lG hQ [0] (mc 1 U mn) U ?_
 clear hQ hN F T9 A D C
 refine congrArg (fun z=>Value.tuple #[_,vB z]) ?_
 first|rfl|(simp_all [dH]; done)
theorem Ic (d:aw) (sgA:OA) (sgC g1:Nat):
 ep Tryz.prog 114 [(vA (mS.cells (mS.mk (Value.func (.func 215) [].toArray [].toArray) (Value.func (.func 216) [].toArray [].toArray)))),(vP g1)] [(rd sgA d.cv.ah.length 2 (d.cv.ah.map aK.cells)),(cb g1 62 (bp.cells (bp.mk d.Out d.eU d.Time (lQ d.cv sgA sgC))))] (vB d.Out):=by
 refine bG kr Tryz.func114 U U fun D Q hQ hN=>?_
 try dsimp only
 refine WS fun _ A=>fQ U fun C=>bh 1 U<|RK A<|WS fun _ B=>fu 3 [0,1] (mc 0 U (mr 2 U mn)) U<|rS (CL (TO d sgA sgC) (bg [1]) U)<|rP 1 [] mn ?_
 refine RK B<|aq<|Q1 hQ U U U ?_
 rfl
theorem HD (d:aw) (sgA:OA) (sgC g1:Nat):
 ep Tryz.prog 114 [(vA (mS.cells (mS.mk (Value.func (.func 218) [].toArray [].toArray) (Value.func (.func 219) [].toArray [].toArray)))),(vP g1)] [(rd sgA d.cv.ah.length 2 (d.cv.ah.map aK.cells)),(cb g1 62 (bp.cells (bp.mk d.Out d.eU d.Time (lQ d.cv sgA sgC))))] (vB d.eU):=by
 refine bG kr Tryz.func114 U U fun D Q hQ hN=>?_
 try dsimp only
 refine WS fun _ A=>fQ U fun C=>bh 1 U<|RK A<|WS fun _ B=>fu 3 [0,1] (mc 0 U (mr 2 U mn)) U<|rS (CL (Sw d sgA sgC) (bg [1]) U)<|rP 1 [] mn ?_
 refine RK B<|aq<|Q1 hQ U U U ?_
 rfl
theorem GO (d:aw) (sgA:OA) (sgC g1:Nat):
 ep Tryz.prog 114 [(vA (mS.cells (mS.mk (Value.func (.func 220) [].toArray [].toArray) (Value.func (.func 221) [].toArray [].toArray)))),(vP g1)] [(rd sgA d.cv.ah.length 2 (d.cv.ah.map aK.cells)),(cb g1 62 (bp.cells (bp.mk d.Out d.eU d.Time (lQ d.cv sgA sgC))))] (vB true):=by
 refine bG kr Tryz.func114 U U fun D Q hQ hN=>?_
 try dsimp only
 refine WS fun _ A=>fQ U fun C=>bh 1 U<|RK A<|WS fun _ B=>fu 3 [0,1] (mc 0 U (mr 2 U mn)) U<|rS (CL (S7 d sgA sgC) (bg [1]) U)<|rP 1 [] mn ?_
 refine RK B<|aq<|Q1 hQ U U U ?_
 rfl
end
section
open Go.RowKit
theorem x7 (d:aw) (sgA:OA) (sgC g1:Nat):
 ep Tryz.prog 113 [(vS fg 3 3),(Value.func (.func 114) [].toArray [(vP g1)].toArray)] [(rd fg 3 2 eu),(rd sgA d.cv.ah.length 2 (d.cv.ah.map aK.cells)),(cb g1 62 (bp.cells (bp.mk d.Out d.eU d.Time (lQ d.cv sgA sgC))))] (vI (oP d)):=by
 refine bG kr Tryz.func113 U U fun b Q hQ hN=>?_
 try dsimp only
 refine WS fun _ F=>bh 1 U<|RK F<|aj fun _ AA=>WS fun _ G=>bh 3 U<|RK G<|ax<|j5 4<|eD fun R4 Z=>WS fun _ H=>rS (SX (b_ (r:= .bool true) U U U g5) U U)<|RK H<|aj fun _ AB=>aQ U<|WK AB<|aj fun _ J=>ax<|WS fun _ K=>bh 2 U<|RK K<|WS fun _ L=>rP 3 [] mn ?_
 refine rS (IA 0 U (aA 0 U) KC dc U I)<|rS (oT 0 0 (mS.cells (mS.mk (Value.func (.func 215) [].toArray [].toArray) (Value.func (.func 216) [].toArray [].toArray))) U cd (aA 0 U) (show eu[0]? =some [(Value.func (.func 215) [].toArray [].toArray),(Value.func (.func 216) [].toArray [].toArray)] from U) U dc U U)<|rS (CL (Ic d sgA sgC g1) (bg [1,2]) U)<|RK L<|cH U (fun X=>?_) (fun X=>?_)
 ·refine WS fun _ M=>rP 2 [] mn ?_
  refine RK M<|aq<|Q1 hQ U U U ?_
  clear hQ hN M L K J AB H G AA F
  refine cI ?_
  simp [oP, *]
 refine bZ<|aB<|KK J<|ak<|rS (SX (b_ (r:= .int .i64 1) U U U (iD ⟨dc,dc⟩)) U U)<|bh 1 U<|RK Z<|eD fun R12 W=>WS fun _ A=>rS (SX (b_ (r:= .bool true) U U U g5) U U)<|RK A<|aj fun _ B=>aQ U<|WK B<|aj fun _ C=>ax<|WS fun _ D=>bh 2 U<|RK D<|WS fun _ E=>rP 3 [] mn ?_
 refine rS (IA 1 U (aA 0 U) KC dc U I)<|rS (oT 1 0 (mS.cells (mS.mk (Value.func (.func 218) [].toArray [].toArray) (Value.func (.func 219) [].toArray [].toArray))) U cd (aA 0 U) (show eu[1]? =some [(Value.func (.func 218) [].toArray [].toArray),(Value.func (.func 219) [].toArray [].toArray)] from U) U dc U U)<|rS (CL (HD d sgA sgC g1) (bg [1,2]) U)<|RK E<|cH U (fun Y=>?_) (fun Y=>?_)
 ·refine WS fun _ N=>rP 2 [] mn ?_
  refine RK N<|aq<|Q1 hQ U U U ?_
  clear hQ hN N E D C B A L K J AB H G AA F
  refine cI ?_
  simp [oP, *]
 refine bZ<|aB<|KK C<|ak<|rS (SX (b_ (r:= .int .i64 2) U U U (iD ⟨dc,dc⟩)) U U)<|bh 1 U<|RK W<|eD fun R20 a=>WS fun _ O=>rS (SX (b_ (r:= .bool true) U U U g5) U U)<|RK O<|aj fun _ P=>aQ U<|WK P<|aj fun _ V=>ax<|WS fun _ R=>bh 2 U<|RK R<|WS fun _ S=>bh 3 U<|rS (IA 2 U (aA 0 U) KC dc U I)<|rS (oT 2 0 (mS.cells (mS.mk (Value.func (.func 220) [].toArray [].toArray) (Value.func (.func 221) [].toArray [].toArray))) U cd (aA 0 U) (show eu[2]? =some [(Value.func (.func 220) [].toArray [].toArray),(Value.func (.func 221) [].toArray [].toArray)] from U) U dc U U)<|rS (CL (GO d sgA sgC g1) (bg [1,2]) U)<|RK S<|aQ U<|WS fun _ T=>rP 2 [] mn ?_
 refine RK T<|aq<|Q1 hQ U U U ?_
 clear hQ hN T S R V P O E D C B A L K J AB H G AA F
 refine cI ?_
 simp [oP, *]
end
section
open Go.RowKit
theorem TA (d:aw) (sgA:OA) (sgC g1:Nat) (hk:d.Out=true):
 ep Tryz.prog 113 [(vS fg 3 3),(Value.func (.func 114) [].toArray [(vP g1)].toArray)] [(rd fg 3 2 eu),(rd sgA d.cv.ah.length 2 (d.cv.ah.map aK.cells)),(cb g1 62 (bp.cells (bp.mk d.Out d.eU d.Time (lQ d.cv sgA sgC))))] (vI 0):=by
 have h:=x7 d sgA sgC g1
 have e:oP d=0:=by simp [oP,hk]
 rw [e] at h
 exact h
theorem SM (d:aw) (sgA:OA) (sgC g1:Nat) (hk:d.Out=false∧d.eU=true):
 ep Tryz.prog 113 [(vS fg 3 3),(Value.func (.func 114) [].toArray [(vP g1)].toArray)] [(rd fg 3 2 eu),(rd sgA d.cv.ah.length 2 (d.cv.ah.map aK.cells)),(cb g1 62 (bp.cells (bp.mk d.Out d.eU d.Time (lQ d.cv sgA sgC))))] (vI 1):=by
 have h:=x7 d sgA sgC g1
 have e:oP d=1:=by simp [oP,hk]
 rw [e] at h
 exact h
theorem Sg (d:aw) (sgA:OA) (sgC g1:Nat) (hk:d.Out=false∧d.eU=false):
 ep Tryz.prog 113 [(vS fg 3 3),(Value.func (.func 114) [].toArray [(vP g1)].toArray)] [(rd fg 3 2 eu),(rd sgA d.cv.ah.length 2 (d.cv.ah.map aK.cells)),(cb g1 62 (bp.cells (bp.mk d.Out d.eU d.Time (lQ d.cv sgA sgC))))] (vI 2):=by
 have h:=x7 d sgA sgC g1
 have e:oP d=2:=by simp [oP,hk]
 rw [e] at h
 exact h
theorem Cl (l:aZ) (kA:OA) (kC:Nat) (az:List RA) (cA:OA) (cC:Nat) (bA:OA) (bC:Nat) (d:aw) (sgA:OA) (sgC:Nat) (hin:er l az) (hsl:d.cv.ah.length≤1000000) (hk:d.Out=true):
 ep Tryz.prog 75 [(vA (bW.cells (lh l kA kC cA cC bA bC))),(vA (bp.cells (bp.mk d.Out d.eU d.Time (lQ d.cv sgA sgC))))] [(rd fg 3 2 eu),(rd kA l.aM.length 9 (l.aM.map al.cells)),(rd cA l.ai.length 2 (List.zipWith ar.cells l.ai az)),(fc (aU ar.g4 l.ai az)),(rd bA l.ae.length 4 (l.ae.map bH.cells)),(rd sgA d.cv.ah.length 2 (d.cv.ah.map aK.cells))] (vT [(vA (aa.cells (dI l d))),(vB (decide (iy l d)))]):=by
 refine bG kr Tryz.func75 U U fun AA Q hQ hN=>?_
 try dsimp only
 refine WS fun _ A=>fQ U fun G=>fQ U fun D=>AL U dp fun H=>bh 1 U<|RK A<|WS fun _ B=>rS (SX (EV U U zD) U U)<|rS (FU U)<|rS (CL (TA d sgA sgC D hk) (Oq 3 8 1 U U U U U U) U)<|bh 1 U<|RK B<|aj fun _ C=>dK cE 9 kr<|l5 1 U<|dS (SX (E5 (k:=0) U U U zD U I) U U)<|dS (mW ((0*2)+1) U (aA 3 U) (Nat.mul_pos I dc) fp U)<|dS (fT 0 1 (Value.func (.func 216) [].toArray [].toArray) U cd (aA 3 U) (show eu[0]? =some [(Value.func (.func 215) [].toArray [].toArray),(Value.func (.func 216) [].toArray [].toArray)] from U) U dc U)<|mT 2 [0,1] (mc 2 U (mc 1 U mn)) U<|dS (CL (O5 l kA kC az cA cC bA bC d sgA sgC hin) (bg [4,5,6,7,8]) U)<|l5 2 U<|cR<|fX U cx U<|rP 1 [] mn ?_
 refine RK C<|aq<|lG hQ [0] (mc 0 U mn) U ?_
 have E:=Gx (l:=l) hk
 have F:=qT (l:=l) hk
 simp only [E,F]
theorem Dn (l:aZ) (kA:OA) (kC:Nat) (az:List RA) (cA:OA) (cC:Nat) (bA:OA) (bC:Nat) (d:aw) (sgA:OA) (sgC:Nat) (hin:er l az) (hsl:d.cv.ah.length≤1000000) (hk:d.Out=false∧d.eU=true):
 ep Tryz.prog 75 [(vA (bW.cells (lh l kA kC cA cC bA bC))),(vA (bp.cells (bp.mk d.Out d.eU d.Time (lQ d.cv sgA sgC))))] [(rd fg 3 2 eu),(rd kA l.aM.length 9 (l.aM.map al.cells)),(rd cA l.ai.length 2 (List.zipWith ar.cells l.ai az)),(fc (aU ar.g4 l.ai az)),(rd bA l.ae.length 4 (l.ae.map bH.cells)),(rd sgA d.cv.ah.length 2 (d.cv.ah.map aK.cells))] (vT [(vA (aa.cells (dI l d))),(vB (decide (iy l d)))]):=by
 refine bG kr Tryz.func75 U U fun AA Q hQ hN=>?_
 try dsimp only
 refine WS fun _ A=>fQ U fun G=>fQ U fun D=>AL U dp fun H=>bh 1 U<|RK A<|WS fun _ B=>rS (SX (EV U U zD) U U)<|rS (FU U)<|rS (CL (SM d sgA sgC D hk) (Oq 3 8 1 U U U U U U) U)<|bh 1 U<|RK B<|aj fun _ C=>dK cE 9 kr<|l5 1 U<|dS (SX (E5 (k:=1) U U U zD U I) U U)<|dS (mW ((1*2)+1) U (aA 3 U) (Nat.mul_pos I dc) fp U)<|dS (fT 1 1 (Value.func (.func 219) [].toArray [].toArray) U cd (aA 3 U) (show eu[1]? =some [(Value.func (.func 218) [].toArray [].toArray),(Value.func (.func 219) [].toArray [].toArray)] from U) U dc U)<|mT 2 [0,1] (mc 2 U (mc 1 U mn)) U<|dS (CL (Oc l kA kC az cA cC bA bC d sgA sgC hin) (bg [4,5,6,7,8]) U)<|l5 2 U<|cR<|fX U cx U<|rP 1 [] mn ?_
 refine RK C<|aq<|lG hQ [0] (mc 0 U mn) U ?_
 have E:=Ab (l:=l) hk
 have F:=tF (l:=l) hk
 simp only [E,F]
theorem Cf (l:aZ) (kA:OA) (kC:Nat) (az:List RA) (cA:OA) (cC:Nat) (bA:OA) (bC:Nat) (d:aw) (sgA:OA) (sgC:Nat) (hin:er l az) (hsl:d.cv.ah.length≤1000000) (hk:d.Out=false∧d.eU=false):
 ep Tryz.prog 75 [(vA (bW.cells (lh l kA kC cA cC bA bC))),(vA (bp.cells (bp.mk d.Out d.eU d.Time (lQ d.cv sgA sgC))))] [(rd fg 3 2 eu),(rd kA l.aM.length 9 (l.aM.map al.cells)),(rd cA l.ai.length 2 (List.zipWith ar.cells l.ai az)),(fc (aU ar.g4 l.ai az)),(rd bA l.ae.length 4 (l.ae.map bH.cells)),(rd sgA d.cv.ah.length 2 (d.cv.ah.map aK.cells))] (vT [(vA (aa.cells (dI l d))),(vB (decide (iy l d)))]):=by
 refine bG kr Tryz.func75 U U fun AA Q hQ hN=>?_
 try dsimp only
 refine WS fun _ A=>fQ U fun G=>fQ U fun D=>AL U dp fun H=>bh 1 U<|RK A<|WS fun _ B=>rS (SX (EV U U zD) U U)<|rS (FU U)<|rS (CL (Sg d sgA sgC D hk) (Oq 3 8 1 U U U U U U) U)<|bh 1 U<|RK B<|aj fun _ C=>dK cE 9 kr<|l5 1 U<|dS (SX (E5 (k:=2) U U U zD U I) U U)<|dS (mW ((2*2)+1) U (aA 3 U) (Nat.mul_pos I dc) fp U)<|dS (fT 2 1 (Value.func (.func 221) [].toArray [].toArray) U cd (aA 3 U) (show eu[2]? =some [(Value.func (.func 220) [].toArray [].toArray),(Value.func (.func 221) [].toArray [].toArray)] from U) U dc U)<|mT 2 [0,1] (mc 2 U (mc 1 U mn)) U<|dS (CL (Og l kA kC az cA cC bA bC d sgA sgC hin hsl) (bg [4,5,6,7,8]) U)<|l5 2 U<|cR<|fX U cx U<|rP 1 [] mn ?_
 refine RK C<|aq<|lG hQ [0] (mc 0 U mn) U ?_
 have E:=vV (l:=l) hk
 have F:=sW (l:=l) hk
 simp only [E,F]
theorem Ef (l:aZ) (kA:OA) (kC:Nat) (az:List RA) (cA:OA) (cC:Nat) (bA:OA) (bC:Nat) (d:aw) (sgA:OA) (sgC:Nat) (hin:er l az) (hsl:d.cv.ah.length≤1000000):
 ep Tryz.prog 75 [(vA (bW.cells (lh l kA kC cA cC bA bC))),(vA (bp.cells (bp.mk d.Out d.eU d.Time (lQ d.cv sgA sgC))))] [(rd fg 3 2 eu),(rd kA l.aM.length 9 (l.aM.map al.cells)),(rd cA l.ai.length 2 (List.zipWith ar.cells l.ai az)),(fc (aU ar.g4 l.ai az)),(rd bA l.ae.length 4 (l.ae.map bH.cells)),(rd sgA d.cv.ah.length 2 (d.cv.ah.map aK.cells))] (vT [(vA (aa.cells (dI l d))),(vB (decide (iy l d)))]):=by
 by_cases ho:d.Out=true
 ·exact Cl l kA kC az cA cC bA bC d sgA sgC hin hsl ho
 by_cases hf:d.eU=true
 ·exact Dn l kA kC az cA cC bA bC d sgA sgC hin hsl ⟨by simpa using ho,hf⟩
 ·exact Cf l kA kC az cA cC bA bC d sgA sgC hin hsl ⟨by simpa using ho,by simpa using hf⟩
end
section
open Go.RowKit
theorem xr (lA:OA) (lN lC:Nat):
 ld Tryz.prog 74 [(vS lA lN lC)] [] (fun (x:Nat)=>(Value.func (.func 112) [].toArray [(vP x)].toArray)) (fun (x:Nat)=>True) (fun (x:Nat)=>[(cb x 29 [(vS lA lN lC)])]):=by
 refine dg kr Tryz.func74 U U fun D Q hQ hN=>?_
 try dsimp only
 refine WS fun _ A=>uC U U fun C=>bh 1 U<|RK A<|WS fun _ B=>rS (FU U)<|rP 1 [] mn ?_
 refine RK B<|aq<|LX hQ C [0] [] mn U U U U ?_
 trivial
theorem LY (nl:List Int) (nlA:OA) (nlC g1:Nat) (hlen:nl.length≤12):
 Oo Tryz.prog 112 [] [(vP g1)] [(rd nlA nl.length 1 (nl.map iC)),(cb g1 29 [(vS nlA nl.length nlC)])] (qw nl):=by
 refine Fs kr Tryz.func112 U U fun l J Z A0 T Q hY K AB hQ hN=>?_
 try dsimp only
 refine WS fun _ M=>rP 3 [] (mr 2 U mn) ?_
 refine RK M<|ax ?_
 have F:(0≤nl.length)∧(J 0 A0)∧(Fo A0 T A0):=by exact ⟨Nat.zero_le _,K,AB⟩
 refine bL (ι:={z:Nat×au // (z.1≤nl.length)∧(J z.1 z.2)∧(Fo A0 T z.2)}) [0,1,5,6] [1] U U (fun z=>[(7,(vI (z.1.1:Int)))]) (fun z=>[z.1.2]) (fun _=>rfl) (fun _=>rfl) (fun z=>nl.length-z.1.1) ⟨(0,A0),F⟩ (aV U) (aH [1,0]) ?_
 clear F
 rintro ⟨⟨i,A⟩,⟨G,B,C⟩⟩ J2 L
 try dsimp only at G B C
 try dsimp only
 refine WS fun _ N=>rP 1 [] mn ?_
 refine RK N<|aj fun _ O=>bQ U (aO fun AA=>?_) (aN fun AA=>?_)
 ·refine bD<|ab<|ab<|ay ?_
  refine hN _ _ _ (hE (vs:=[]) trivial fun w hs=>SG 1 U (by rw [sZ]; have e:nl.length=i:=I; rw [e]; exact B) C hs)
 refine WK O<|aj fun _ P=>ax<|WS fun _ R=>?_
 obtain ⟨x,hx⟩:=aJ nl i I
 have S:=bK iC hx
 refine rS (IA i U (aA 0 U) cw dc I I)<|rS (fT i 0 (vI x) U cd (aA 0 U) S U dc U)<|bh 1 U<|RK R<|WS fun _ H=>rP 2 [] mn ?_
 refine Fp 1 hY B C U U U (HF hx) U U (fun B9 E D=>?_) (fun B9 E D=>?_)
 rotate_left 1
 ·refine rP 1 [] mn ?_
  refine RK H<|aQ U<|aq ?_
  refine hQ _ _ _ (hE (vs:=[]) trivial fun w hs=>PE 1 U E D hs)
 refine bh 1 U<|RK H<|aW U<|bZ<|aB<|KK P<|ak<|rP 2 [] mn ?_
 refine aC ?_
 refine aR (L ⟨((i+1),B9),⟨I,E,D⟩⟩ _ _ _ U os (aV U) (aH [0,1]))
end
section
open Go.RowKit
theorem Nf (x:Int):
 ep Tryz.prog 169 [(vI x)] [] (vB false):=by
 refine bG kr Tryz.func169 U U fun C Q hQ hN=>?_
 try dsimp only
 refine WS fun _ A=>bh 1 U<|RK A<|WS fun _ B=>rP 4 [] mn ?_
 refine RK B<|aq<|Q1 hQ U U U ?_
 simp
theorem Nt (x y:Int):
 ep Tryz.prog 127 [(vI x),(vI y)] [] (vB (decide (x<y))):=by
 refine bG kr Tryz.func127 U U fun C Q hQ hN=>?_
 try dsimp only
 refine WS fun _ A=>bh 1 U<|RK A<|WS fun _ B=>bh 1 U<|rS (CL (Nf x) (aI) U)<|rP 11 [] mn ?_
 refine RK B<|aq<|Q1 hQ U U U ?_
 exact cB (gi.2 I)
theorem Hf (l:List Int) (lA:OA) (lC:Nat) (hlen:l.length≤1000000):
 Dx Tryz.prog 121 [(vS lA l.length lC),(vI 0),(vI (l.length:Int))] [] (own lA lC 3 1 (l.map iC)) (fun (x:(List Int))=>(vT [])) (fun (x:(List Int))=>x.Perm l∧x.Pairwise (· ≤ ·)) (fun (x:(List Int))=>(own lA lC 3 1 (x.map iC))):=by
 refine mO kr Tryz.func121 U U fun g Q hQ hN=>?_
 try dsimp only
 refine WS fun _ X=>bh 1 U<|rS (SX (b_ (r:= .int .i64 1) U U U (iD ⟨dc,dc⟩)) U U)<|rP 1 [] mn ?_
 refine RK X<|ax ?_
 have A:(1≤1∧(1≤l.length∨1=1))∧(l.length=l.length)∧(l.Perm l)∧(Qq l 1):=by exact ⟨I,rfl,List.Perm.refl _,NU⟩
 refine bL (ι:={z:Nat×(List Int) // (1≤z.1∧(z.1≤l.length∨z.1=1))∧(z.2.length=l.length)∧(z.2.Perm l)∧(Qq z.2 z.1)}) [0,1,2] [] U U (fun z=>[(6,(vI (z.1.1:Int)))]) (fun z=>[(own lA lC 3 1 (z.1.2.map iC))]) (fun _=>rfl) (fun _=>rfl) (fun z=>l.length-z.1.1) ⟨(1,l),A⟩ (aV U) (aH [0]) ?_
 clear A
 rintro ⟨⟨i,m⟩,⟨K,AB,E,F⟩⟩ J2 M
 try dsimp only at K AB E F
 try dsimp only
 refine aj fun _ Y=>WS fun _ Z=>rP 3 [] mn ?_
 refine RK Z<|bQ U (aO fun e=>?_) (aN fun e=>?_)
 ·refine bD<|ab<|ab<|ay<|LM hN m 0 [] mn U U U U ?_
  exact ⟨E,M3 F I⟩
 refine WK Y<|aj fun _ O=>ax<|WS fun _ b=>rP 2 [] mn ?_
 refine RK b<|ax ?_
 have A:(i≤i)∧(m.length=l.length)∧(m.Perm l)∧(Q0 m i i):=by exact ⟨Nat.le_refl _,AB,E,GM F I⟩
 refine bL (ι:={z:Nat×(List Int) // (z.1≤i)∧(z.2.length=l.length)∧(z.2.Perm l)∧(Q0 z.2 i z.1)}) [0,1,2,6] [] U U (fun z=>[(7,(vI (z.1.1:Int)))]) (fun z=>[(own lA lC 3 1 (z.1.2.map iC))]) (fun _=>rfl) (fun _=>rfl) (fun z=>z.1.1) ⟨(i,m),A⟩ (aV U) (aH [0]) ?_
 clear A
 rintro ⟨⟨j,q⟩,⟨G,B,C,D⟩⟩ J8 W
 try dsimp only at G B C D
 try dsimp only
 refine aj fun _ c=>aj fun _ J=>dK cE 15 kr<|dP 4 [] mn ?_
 refine jy (t:=19) U (aO fun hj=>?_) (aN fun hj=>?_)
 ·refine l5 11 U<|cR<|RK J<|aW U<|bD<|ab<|ab<|ay<|aB<|KK O<|ak<|rP 3 [] mn ?_
  refine aC ?_
  refine aR (M ⟨((i+1),q),⟨I,B,C,by exact IK I D⟩⟩ _ _ _ U (by simp only []; omega) (aV U) (aH [0]))
 refine dP 2 [] mn ?_
 obtain ⟨x,hx⟩:=aJ q j I
 have L:=bK iC hx
 refine dS (IA j U (ag (n:=l.length) 0 U sq) cw dc I I) ?_
 refine dS (fT j 0 (vI x) U cd (ag (n:=q.length) 0 U sm) L U dc U)<|dP 3 [] mn ?_
 obtain ⟨y,hy⟩:=aJ q (j-1) I
 have V:=bK iC hy
 refine dS (IA (j-1) U (ag (n:=l.length) 0 U sq) cw dc I I) ?_
 refine dS (fT (j-1) 0 (vI y) U cd (ag (n:=q.length) 0 U sm) V U dc U)<|dS (CL (Nt x y) (aI) U)<|dP 1 [] mn ?_
 refine cR<|RK J<|bQ U (aO fun H=>?_) (aN fun H=>?_)
 ·refine bD<|ab<|ab<|ay<|aB<|KK O<|ak<|rP 3 [] mn ?_
  refine aC ?_
  refine aR (M ⟨((i+1),q),⟨I,B,C,by exact IY hx hy I G H D⟩⟩ _ _ _ U (by simp only []; omega) (aV U) (aH [0]))
 refine WK c<|aj fun _ N=>ax<|dF cE [15,16,17] [8,9,12,13,14] [] [] [0] U U U U U<|eS U (MV U)<|eS U (MV U)<|eS U (MV U)<|eS U (MV U)<|eS U (BI U (r_ ⟨I,I⟩))<|eS U (MV U)<|eS U (MV U)<|eS U (BI U (r_ ⟨I,I⟩)) ?_
 refine fS U (IA (j-1) U (ag (n:=l.length) 0 U sq) cw dc I I) ?_
 refine fS U (fT (j-1) 0 (vI y) U cd (ag (n:=q.length) 0 U sm) V U dc U)<|eS U (MV U)<|eS U (MV U) ?_
 refine fS U (IA j U (ag (n:=l.length) 0 U sq) cw dc I I) ?_
 refine fS U (fT j 0 (vI x) U cd (ag (n:=q.length) 0 U sm) L U dc U) ?_
 refine fS U (IA j U (ag (n:=l.length) 0 U sq) cw dc I I) ?_
 refine eT U<|cf U fun T12 P=>dM (k:=j) (o:=0) (vs:=[(vI y)]) (es':=(List.map iC (q.set j y))) (C':=[(own lA lC 3 1 (List.map iC (q.set j y)))]) 0 U U U Cw U U U U L U dc (by exact (List.map_set (f:=iC) (l:=q) (i:=j) (a:=y)).symm) U<|aC (P _ _ (aH []) ?_)
 refine cf U fun T13 R=>?_
 obtain ⟨d,AA⟩:=aJ (q.set j y) (j-1) os
 have hx15m:(List.map iC (q.set j y))[(j-1)]? =some (iC d):=by rw [fH,AA]; rfl
 refine rS (IA (j-1) U (ag (n:=l.length) 0 U sq) cw dc I I) ?_
 refine aC (R _ _ (aH []) ?_)
 refine cf U fun T16 S=>dM (k:=(j-1)) (o:=0) (vs:=[(vI x)]) (es':=(List.map iC ((q.set j y).set (j-1) x))) (C':=[(own lA lC 3 1 (List.map iC ((q.set j y).set (j-1) x)))]) 0 U U U Cw U U U U hx15m U dc (by exact (List.map_set (f:=iC) (l:=(q.set j y)) (i:=(j-1)) (a:=x)).symm) U<|aC (S _ _ (aH []) ?_)
 refine fF U<|aB<|KK N<|ak<|rP 3 [] mn ?_
 refine aC ?_
 have T:(vI (((j-1):Nat):Int))=(vI ((j:Int)-1)):=by exact cI I
 refine aR (W ⟨((j-1),((q.set j y).set (j-1) x)),⟨I,by simp; exact B,(Iz hx hy).trans C,LU hx hy I G H D⟩⟩ _ _ _ U (by simp only []; omega) (cK 4<|aY U T<|du.nil _) (aH [0]))
theorem M1 (x:Int) (hx:0≤x∧x≤100):
 ld Tryz.prog 131 [(Value.int .u64 x)] [] (fun (x:Int)=>(vI x)) (fun (x:Int)=>True) (fun (x:Int)=>[]):=by
 refine dg kr Tryz.func131 U U fun N Q hQ hN=>?_
 try dsimp only
 refine WS fun _ D=>bh 1 U<|RK D<|aj fun _ E=>WS fun _ F=>rP 1 [] mn ?_
 refine rS (BI U FO)<|RK F<|cH U (aN fun L=>?_) (aO fun L=>?_)
 ·exfalso; omega
 refine WK E<|aj fun _ G=>WS fun _ H=>rP 1 [] mn ?_
 refine rS (BI U FO)<|RK H<|cH U (aN fun M=>?_) (aO fun M=>?_)
 ·exfalso; omega
 refine WK G<|aj fun _ AA=>WS fun _ J=>rP 1 [] mn ?_
 refine rS (BI U FO)<|RK J<|cH U (aN fun C=>?_) (aO fun C=>?_)
 ·exfalso; omega
 refine WK AA<|WS fun _ B=>bh 2 U<|rS (SX (tT (m:=x) U U So Rw (Db (by first|assumption|omega))) U U)<|Qf (k:=(x).toNat) U U U We I (Nat.lt_of_lt_of_le (m:=200) I (of_decide_eq_true kr)) U fun A K=>rS (SX (tT (m:=A) U U Rw mY (qS (by first|assumption|omega))) U U)<|rP 2 [] mn ?_
 refine RK B<|aq<|LX hQ (0+A) [] [] mn U U U U ?_
 trivial
theorem Rb (x:Int) (hx:0≤x∧x≤100):
 ld Tryz.prog 88 [(Value.int .u64 x)] [] (fun (x:Int)=>(vI x)) (fun (x:Int)=>True) (fun (x:Int)=>[]):=by
 refine dg kr Tryz.func88 U U fun F Q hQ hN=>?_
 try dsimp only
 refine WS fun _ A=>bh 1 U<|RK A<|aj fun _ B=>aW U<|WK B<|WS fun _ C=>rP 1 [] mn ?_
 refine cX (M1 x hx) (aI) U fun E D=>?_
 try dsimp only
 refine rP 1 [] mn ?_
 refine RK C<|aq<|LX hQ E [] [] mn U U U U ?_
 trivial
theorem TP (l:List Int) (lA:OA) (lC:Nat) (u:Int) (hlen:l.length≤12):
 Dx Tryz.prog 87 [(vS lA l.length lC),(vI 0),(vI (l.length:Int)),(vI u)] [] (own lA lC 3 1 (l.map iC)) (fun (x:(List Int))=>(vT [])) (fun (x:(List Int))=>x.Perm l∧x.Pairwise (· ≤ ·)) (fun (x:(List Int))=>(own lA lC 3 1 (x.map iC))):=by
 refine mO kr Tryz.func87 U U fun K Q hQ hN=>?_
 try dsimp only
 refine WS fun _ A=>bh 1 U<|RK A<|WS fun _ B=>bh 1 U<|RK B<|ax<|j5 1<|eD fun R3 AA=>ax<|WS fun _ C=>bh 4 U<|RK C<|aj fun _ H=>WS fun _ D=>rP 2 [] mn ?_
 refine RK D<|bQ U (aO fun G=>?_) (aN fun G=>?_)
 ·exfalso; omega
 refine WS fun _ E=>rP 3 [] mn ?_
 refine jd 0 U U U U (Hf l lA lC I) U ks U (fun J F=>?_)
 try dsimp only
 refine RK E<|aq<|LM hQ J 0 [] mn U U U U ?_
 assumption
theorem Av (l:List Int) (lA:OA) (lC:Nat) (hlen:l.length≤12):
 Dx Tryz.prog 54 [(vS lA l.length lC)] [] (own lA lC 3 1 (l.map iC)) (fun (x:(List Int))=>(vT [])) (fun (x:(List Int))=>x.Perm l∧x.Pairwise (· ≤ ·)) (fun (x:(List Int))=>(own lA lC 3 1 (x.map iC))):=by
 refine mO kr Tryz.func54 U U fun F Q hQ hN=>?_
 try dsimp only
 refine WS fun _ A=>bh 3 U<|RK A<|ak<|rP 3 [] mn ?_
 refine rS (SX (tT (m:=(l.length:Int)) U U mY SL (AH (by first|assumption|omega))) U U)<|cX (Rb (l.length:Int) I) (aI) U fun E B=>?_
 try dsimp only
 refine jd 0 U U U U (TP l lA lC E hlen) U ks U (fun D C=>?_)
 try dsimp only
 refine aC<|LM hN D 0 [] mn U U U U ?_
 assumption
end
section
open Go.RowKit
theorem I9 (nl:List Int) (nlA:OA) (nlC g1:Nat) (hlen:nl.length≤12):
 ld Tryz.prog 120 [(vS none 0 0),(Value.func (.func 112) [].toArray [(vP g1)].toArray)] [(rd nlA nl.length 1 (nl.map iC)),(cb g1 29 [(vS nlA nl.length nlC)])] (fun (x:(OA)×Nat)=>(vS x.1 nl.length x.2)) (fun (x:(OA)×Nat)=>True) (fun (x:(OA)×Nat)=>[(own x.1 x.2 3 1 (nl.map iC))]):=by
 refine dg kr Tryz.func120 U U fun R Q hQ hN=>?_
 try dsimp only
 refine WS fun _ D=>uC U U fun J=>bh 1 U<|RK D<|aj fun _ E=>WS fun _ G=>rP 1 [] mn ?_
 refine RK G<|ax<|kF 1 U (by exact fun _ h=>h)<|kF 3 U (by exact fun _ h=>h)<|fZ 3 1 ?_
 refine Gs (L0:=[(2,(vP J))]) (F:=[(rd nlA nl.length 1 (nl.map iC)).ro,(cb g1 29 [(vS nlA nl.length nlC)]).ro]) (xs:=(qw nl)) (fun k (y:(OA)×Nat)=>True) (fun k y=>[(own y.1 y.2 3 1 ((nl.take k).map iC)),(cb J 29 [(vS y.1 ((nl.take k).length) y.2)]),(rd nlA nl.length 1 (nl.map iC)).ro]) (fun _ (_:Unit)=>False) (fun _ _=>[]) [0,3,4] [2,1] (none,0) U U (LY nl nlA nlC g1 (by first|assumption|omega|(simp; done))) U U U (by trivial) (by simp only [List.forall_mem_cons,List.not_mem_nil,false_imp_iff,implies_true,and_true]; exact ⟨⟨_,sm,(dQ (bS _))⟩,⟨_,sm,(dQ (bS _))⟩⟩) (by exact E8) U (aV U) ?_ ?_ (fun _ _ _ h=>h.elim) (fun _ _ h=>h.elim)
 rotate_left 1
 ·rintro O ⟨a,c⟩ AA
  try dsimp only
  rw [yx]
  refine aB<|KK E<|WS fun _ A=>rP 2 [] (mc 4 U mn) ?_
  refine RK A<|aq<|hQ _ _ _ (oN 0 U U<|hE (vs:=[(vS a nl.length c)]) ⟨U,trivial⟩ fun w hs=>Jx (a,c) [3] ?_ ?_ U U U hs)
  ·rfl
  ·trivial
 rintro k x ⟨a,c⟩ l ra rb S T K5 Qr6 hx K H B L M
 obtain ⟨y,hy,rfl⟩:=Hr hx
 try dsimp only
 refine ak<|rP 1 [] mn ?_
 refine aC<|aR (H _ _ ?_)
 refine ax<|ak<|rP 2 [] (mc 2 U mn) ?_
 refine df (xs:=[.tmp 9]) (cs:=[(vI y)]) U cw js U U U U (by simp [Value.cells]) U U fun P=>?_
 refine cL (es2:=(List.map iC (nl.take (k+1)))) (m':=(nl.take (k+1)).length) 2 U U U o2 U U sm (bf (es:=List.map iC [y]) 0 U U (by simp [bI]) U) (jM _) (by simp; omega) (by simp [maxLen]; omega) (by rw [j8 hy]; simp) sm U fun N C=>?_
 try dsimp only
 refine U0 U xn U U<|aC<|aB ?_
 exact B (N,C) _ _ (by trivial) (aH [1,2,3,4])
theorem HP (nl:List Int) (nlA:OA) (nlC g1:Nat) (hlen:nl.length≤12):
 ld Tryz.prog 85 [(Value.func (.func 112) [].toArray [(vP g1)].toArray)] [(rd nlA nl.length 1 (nl.map iC)),(cb g1 29 [(vS nlA nl.length nlC)])] (fun (x:(OA)×Nat)=>(vS x.1 nl.length x.2)) (fun (x:(OA)×Nat)=>True) (fun (x:(OA)×Nat)=>[(own x.1 x.2 3 1 (nl.map iC))]):=by
 refine dg kr Tryz.func85 U U fun G Q hQ hN=>?_
 try dsimp only
 refine WS fun _ A=>bh 1 U<|RK A<|WS fun _ B=>rP 1 [] mn ?_
 refine cX (I9 nl nlA nlC g1 hlen) (bg [0,1]) U fun F E=>?_
 obtain ⟨C,D⟩:=F
 try dsimp only
 refine rP 1 [] mn ?_
 refine RK B<|aq<|LX hQ (C,D) [0] [] mn U U U U ?_
 trivial
theorem xJ (nl:List Int) (nlA:OA) (nlC g1:Nat) (hlen:nl.length≤12):
 ld Tryz.prog 51 [(Value.func (.func 112) [].toArray [(vP g1)].toArray)] [(rd nlA nl.length 1 (nl.map iC)),(cb g1 29 [(vS nlA nl.length nlC)])] (fun (x:(OA)×Nat)=>(vS x.1 nl.length x.2)) (fun (x:(OA)×Nat)=>True) (fun (x:(OA)×Nat)=>[(own x.1 x.2 3 1 ((dv nl).map iC))]):=by
 refine dg kr Tryz.func51 U U fun J Q hQ hN=>?_
 try dsimp only
 refine WS fun _ B=>bh 1 U<|RK B<|WS fun _ C=>rP 1 [] mn ?_
 refine cX (HP nl nlA nlC g1 hlen) (bg [0,1]) U fun AA H=>?_
 obtain ⟨F,G⟩:=AA
 try dsimp only
 refine bh 1 U<|RK C<|WS fun _ D=>rP 1 [] mn ?_
 refine jd 0 U U U U (Av nl F G hlen) U ks U (fun m A=>?_)
 try dsimp only
 refine RK D<|WS fun _ E=>?_
 obtain rfl:=qu A.1 A.2
 skip
 refine rP 2 [] mn ?_
 refine RK E<|aq<|LX hQ (F,G) [0] [] mn U U U U ?_
 trivial
end
section
open Go.RowKit
theorem oB (r:bT) (kA:OA) (kC:Nat) (az:List RA) (cA:OA) (cC:Nat) (bA:OA) (bC:Nat) (slA:OA) (slC:Nat) (drA:OA) (drC:Nat) (ha:List cy) (heA:OA) (heC:Nat) (hin:eO r az ha):
 ld Tryz.prog 38 [(vA (cp.cells (oQ r kA kC cA cC bA bC slA slC drA drC heA heC)))] [(rd fg 3 2 eu),(rd kA r.ao.aM.length 9 (r.ao.aM.map al.cells)),(rd cA r.ao.ai.length 2 (List.zipWith ar.cells r.ao.ai az)),(fc (aU ar.g4 r.ao.ai az)),(rd bA r.ao.ae.length 4 (r.ao.ae.map bH.cells)),(rd slA r.aL.length 1 (r.aL.map iC)),(rd drA r.bE.length 1 (r.bE.map iC)),(rd heA r.an.length 1 (List.zipWith ct r.an ha)),(fc (aU iw r.an ha))] (fun (x:Bool×Int×Nat×Nat×(OA)×Nat×(List RA))=>bif x.1 then (vT [(Value.pointer (some ⟨x.2.2.1,0,none⟩)),(vI 0)]) else (vT [(Value.pointer none),(vI x.2.1)])) (fun (x:Bool×Int×Nat×Nat×(OA)×Nat×(List RA))=>(x.1=true→(cD r=0∧x.2.2.2.2.2.2.length=r.an.length))∧(x.1=false→(x.2.1=cD r∧ ¬ cD r=0))) (fun (x:Bool×Int×Nat×Nat×(OA)×Nat×(List RA))=>bif x.1 then [(cb x.2.2.1 112 (fV.cells (fV.mk (oQ r kA kC cA cC bA bC slA slC drA drC heA heC) (bo.mk x.2.2.2.2.1 ((cS r).length) x.2.2.2.2.2.1) (Value.map (some x.2.2.2.1))))),(own x.2.2.2.2.1 x.2.2.2.2.2.1 109 1 (List.zipWith Eb (cS r) x.2.2.2.2.2.2)),(bw (aU DA (cS r) x.2.2.2.2.2.2)),(g_ iV x.2.2.2.1 (bM dD (aG r)))] else []):=by
 have K4:=hin.line
 have Op:=hin.iH
 have Or:=hin.has
 have Lo:=hin.iI
 have Li:=hin.draw
 have Fm:=dE (r:=r)
 refine dg kr Tryz.func38 U U fun w0 Q hQ hN=>?_
 try dsimp only
 refine WS fun _ J3=>fQ U fun b2=>bh 2 U<|RK J3<|aj fun _ J4=>WS fun _ J5=>bh 1 U<|rS (LP (bW.cells (lh r.ao kA kC cA cC bA bC)) 0 U cd U U U)<|rS (CL (BR r.ao kA kC az cA cC bA bC asm) (bg [2,3,4,5]) U)<|bh 1 U<|RK J5<|WS fun _ J6=>rP 2 [] mn ?_
 refine RK J6<|cH U (bu fun B=>?_) (br fun B=>?_)
 ·refine WS fun _ J7=>rP 3 [] mn ?_
  refine RK J7<|aq<|LX hQ (false,(dC r.ao),0,0,none,0,[]) [] [] mn U (by rfl) U U ?_
  exact rL<|LI (zA B) B
 refine WK J4<|WS fun _ J8=>fu 4 [] (mc 0 U mn) U<|RK J8<|WS fun _ J9=>rP 2 [] (mc 0 U mn) ?_
 refine cX (xr drA r.bE.length drC) (aI) U fun GT L0=>?_
 try dsimp only
 refine cX (xJ r.bE drA drC GT asm) (bg [8,0]) U fun La L2=>?_
 obtain ⟨Mo,Nr⟩:=La
 try dsimp only
 refine bh 1 U<|RK J9<|aj fun _ e=>WS fun _ H=>rP 1 [] mn ?_
 refine df (xs:=[.tmp 29]) (cs:=[(vI (r.aL.length:Int))]) U cw js U U U U (by simp [Value.cells]) U U fun Go=>?_
 refine rS (CL (ep.eq (kg 1 5 ([(r.aL.length:Int)]) (some ⟨Go,0,none⟩) 1 (by (simp; done))) cY) (av (bf 0 U U (by simp [bI]) U)<|aI) U) ?_
 refine rP 2 [] mn ?_
 refine dh (t:=33) U (bu fun IO=>?_) (br fun IO=>?_)
 ·refine bh 26 U<|RK H<|aQ U<|WS fun _ f=>rP 2 [] mn ?_
  refine RK f<|aq<|LX hQ (false,60,0,0,none,0,[]) [] [] mn U (by rfl) U U ?_
  exact rL<|qf (kH B (fun q:eP r=>by have q1:=q.num; have q2:=q.sP; have q3:=q.nh; have q4:=q.yA; omega))
 refine rP 6 [] mn ?_
 refine dh (t:=39) U (bu fun IR=>?_) (br fun IR=>?_)
 ·refine bh 20 U<|RK H<|aQ U<|WS fun _ g=>rP 2 [] mn ?_
  refine RK g<|aq<|LX hQ (false,60,0,0,none,0,[]) [] [] mn U (by rfl) U U ?_
  exact rL<|qf (kH B (fun q:eP r=>by have q1:=q.num; have q2:=q.sP; have q3:=q.nh; have q4:=q.yA; omega))
 refine rP 2 [] (mc 3 U mn) ?_
 refine df (xs:=[.tmp 41]) (cs:=[(vI r.gJ)]) U cw js U U U U (by simp [Value.cells]) U U fun Hb=>?_
 refine rS (CL (ep.eq (kg 0 5 ([r.gJ]) (some ⟨Hb,0,none⟩) 1 (by (simp; done))) cY) (av (bf 0 U U (by simp [bI]) U)<|aI) U) ?_
 refine rP 3 [] mn ?_
 refine dh (t:=46) U (bu fun IW=>?_) (br fun IW=>?_)
 ·refine bh 13 U<|RK H<|aQ U<|WS fun _ k=>rP 2 [] mn ?_
  refine RK k<|aq<|LX hQ (false,60,0,0,none,0,[]) [] [] mn U (by rfl) U U ?_
  exact rL<|qf (kH B (fun q:eP r=>by have q1:=q.num; have q2:=q.sP; have q3:=q.nh; have q4:=q.yA; omega))
 refine rP 3 [] (mc 4 U mn) ?_
 refine df (xs:=[.tmp 49]) (cs:=[(vI (r.an.length:Int))]) U cw js U U U U (by simp [Value.cells]) U U fun Hi=>?_
 refine rS (CL (ep.eq (kg 1 3 ([(r.an.length:Int)]) (some ⟨Hi,0,none⟩) 1 (by (simp; done))) cY) (av (bf 0 U U (by simp [bI]) U)<|aI) U) ?_
 refine rP 3 [] mn ?_
 refine dh (t:=54) U (bu fun Id=>?_) (br fun Id=>?_)
 ·refine bh 5 U<|RK H<|aQ U<|WS fun _ l=>rP 2 [] mn ?_
  refine RK l<|aq<|LX hQ (false,60,0,0,none,0,[]) [] [] mn U (by rfl) U U ?_
  exact rL<|qf (kH B (fun q:eP r=>by have q1:=q.num; have q2:=q.sP; have q3:=q.nh; have q4:=q.yA; omega))
 refine fu 2 [] (mc 5 U mn) U<|rS (CL (kg 0 9999 r.aL slA slC asm) (bg [11]) U)<|rP 2 [] mn ?_
 refine RK H<|cH U (fun N=>?_) (fun N=>?_)
 ·rw [Bool.not_eq_true'] at N
  refine WS fun _ m=>rP 2 [] mn ?_
  refine RK m<|aq<|LX hQ (false,60,0,0,none,0,[]) [] [] mn U (by rfl) U U ?_
  exact rL<|qf (kH B (fun q:eP r=>by exact absurd (q.ins.symm.trans N) dc))
 rw [Bool.not_eq_false'] at N
 refine WK e<|aj fun _ o=>WS fun _ p=>?_
 have Os:(dv r.bE).length=r.aL.length:=by rw [gF]; omega
 refine rP 2 [] mn ?_
 refine RK p<|ax ?_
 have A:(0≤r.aL.length)∧(rF r 0):=by exact ⟨Nat.zero_le _,EP⟩
 refine bL (ι:={z:Nat // (z≤r.aL.length)∧(rF r z)}) [1,5,6,60] [3,5,6,7,8,9,10,11,12,13,14] U U (fun z=>[(61,(vI (z.1:Int)))]) (fun z=>[]) (fun _=>rfl) (fun _=>rfl) (fun z=>r.aL.length-z.1) ⟨0,A⟩ (aV U) (aH [3,5,6,7,8,9,10,11,12,13,14]) ?_
 clear A
 rintro ⟨i,⟨K0,J⟩⟩ J28 V
 try dsimp only
 refine WS fun _ s=>rP 1 [] mn ?_
 refine RK s<|aj fun _ w=>cH U (aN fun In=>?_) (aO fun In=>?_)
 ·refine WK w<|aj fun _ W=>ax<|WS fun _ AC=>bh 2 U<|RK AC<|aj fun _ O=>dK cE 24 kr<|dP 2 [] mn ?_
  obtain ⟨x,hx⟩:=aJ (dv r.bE) i I
  have K5:=bK iC hx
  refine dS (IA i U (ag (n:=r.bE.length) 0 U sq) cw dc I I) ?_
  refine dS (fT i 0 (vI x) U cd (ag (n:=(dv r.bE).length) 0 U sm) K5 U dc U)<|dP 3 [] mn ?_
  refine jf (t:=70) U (bu fun S=>?_) (br fun S=>?_)
  ·refine l5 17 U<|cR<|RK O<|aQ U<|WS fun _ AO=>rP 2 [] mn ?_
   refine RK AO<|aq<|LX hQ (false,60,0,0,none,0,[]) [] [] mn U (by rfl) U U ?_
   exact rL<|qf (kH B (fun q:eP r=>by exact absurd (q.drawn hx) S))
  refine dP 3 [] mn ?_
  refine jy (t:=73) U (aO fun JM=>?_) (aN fun JM=>?_)
  ·refine l5 14 U<|cR<|RK O<|aW U<|bZ<|aB<|KK W<|ak<|rP 2 [] mn ?_
   refine aC ?_
   have Do:(vI (((i+1):Nat):Int))=(vI ((i:Int)+1)):=by exact cI I
   refine aR (V ⟨(i+1),⟨I,wq J hx S (fun u v hu hv hw=>by omega)⟩⟩ _ _ _ U os (cK 4<|aY U Do<|du.nil _) (aH [0,1,2,3,4,5,6,7,8,9,10]))
  refine dP 3 [] (mc 1 U mn) ?_
  obtain ⟨y,hy⟩:=aJ r.aL i I
  have K8:=bK iC hy
  refine dS (IA i U (aA 7 U) cw dc I I)<|dS (fT i 0 (vI y) U cd (aA 7 U) K8 U dc U)<|dP 4 [] (mc 1 U mn) ?_
  obtain ⟨z,hz⟩:=aJ r.aL (i-1) I
  have LA:=bK iC hz
  refine dS (IA (i-1) U (aA 7 U) cw dc I I)<|dS (fT (i-1) 0 (vI z) U cd (aA 7 U) LA U dc U)<|dP 3 [] mn ?_
  refine cR<|RK O<|bQ U (aO fun JQ=>?_) (aN fun JQ=>?_)
  ·refine bZ<|aB<|KK W<|ak<|rP 2 [] mn ?_
   refine aC ?_
   have Dk:(vI (((i+1):Nat):Int))=(vI ((i:Int)+1)):=by exact cI I
   refine aR (V ⟨(i+1),⟨I,wq J hx S (fun u v hu hv hw=>by (rw [hy] at hu; cases hu; rw [hz] at hw; cases hw; omega))⟩⟩ _ _ _ rfl os (cK 4<|aY rfl Dk<|du.nil _) (aH [0,1,2,3,4,5,6,7,8,9,10]))
  refine WS fun _ Ai=>rP 2 [] mn ?_
  refine RK Ai<|aq<|LX hQ (false,60,0,0,none,0,[]) [] [] mn U (by rfl) U U ?_
  exact rL<|qf (kH B (fun q:eP r=>by have q1:=(q.ids i y hy).2 z I hz; omega))
 refine bD<|ab<|ab<|ay<|KK o<|WS fun _ As=>fu 1 [] (mc 1 U mn) U<|rS (SX (bk (xs:=[(0,.tmp 89)]) (cs:=(fV.cells (fV.mk (oQ r kA kC cA cC bA bC slA slC drA drC heA heC) (bo.mk none 0 0) (Value.map none)))) U U (bj RG U)) U U)<|fQ U fun L=>bh 1 U<|RK As<|aj fun _ A0=>WS fun _ A1=>rP 4 [] (mc 2 U mn) ?_
 refine RK A1<|ax<|fZ 109 1<|lX ?_
 have A:(0≤r.an.length)∧(([]:List RA).length=0)∧(kh r 0):=by exact ⟨Nat.zero_le _,rfl,xo⟩
 refine bL (ι:={z:Nat×(List RA)×(OA)×Nat // (z.1≤r.an.length)∧(z.2.1.length=z.1)∧(kh r z.1)}) [1,5,8,93,94] [3,4,5,6,7,8,9,10,11,12,13] U U (fun z=>[(95,(vI (z.1.1:Int)))]) (fun z=>[(bw (aU DA (gL r z.1.1) z.1.2.1)),(own z.1.2.2.1 z.1.2.2.2 109 1 (List.map sC (List.zipWith BO (gL r z.1.1) z.1.2.1))),(cb L 112 (fV.cells (fV.mk (oQ r kA kC cA cC bA bC slA slC drA drC heA heC) (bo.mk z.1.2.2.1 ((List.zipWith BO (gL r z.1.1) z.1.2.1).length) z.1.2.2.2) (Value.map none))))]) (fun _=>rfl) (fun _=>rfl) (fun z=>r.an.length-z.1.1) ⟨(0,([]:List RA),none,0),A⟩ (aV U) (aH [3,4,5,6,7,8,9,10,11,12,13,0,1,2]) ?_
 clear A
 rintro ⟨⟨h,tz,a,c⟩,⟨T,C,E⟩⟩ J42 Z
 try dsimp only at T C E
 try dsimp only
 refine WS fun _ A2=>rP 1 [] mn ?_
 refine RK A2<|aj fun _ A3=>bQ U (aO fun J2=>?_) (aN fun J2=>?_)
 ·refine bD<|ab<|ab<|ay<|KK A0<|aj fun _ C3=>?_
  have Kj:gL r h=cS r:=by unfold cS; rw [show h=r.an.length by omega]
  have Fn:tz.length=r.an.length:=by omega
  rw [Kj,zl,show (List.zipWith BO (cS r) tz).length=(cS r).length from by rw [List.length_zipWith]; omega]
  have X:eP r:=I4 (n:=i) I I I I I N J E I
  refine ak<|rP 5 [] (mc 1 U mn) ?_
  refine cX (PG r kA kC az cA cC bA bC slA slC drA drC ha heA heC tz a c (Value.map none) L r.an.length hin asm I (by exact X.z3)) (l8 [3,4,5,6,7,8,9,10]<|av (ag (n:=(cS r).length) 12 U (m7 (by rw [Fm]; exact Fn)))<|av (dL 11 U s7)<|fj 13 U U<|aI) U fun K L3=>?_
  try dsimp only
  refine rS (SX (bO U U) U U)<|rP 1 [] mn ?_
  refine jC (vs:=[(Value.map (some K))]) (cs':=(fV.cells (fV.mk (oQ r kA kC cA cC bA bC slA slC drA drC heA heC) (bo.mk a ((cS r).length) c) (Value.map (some K))))) (C':=[_,_,_,_,_,_,_,_,_,_,_,_,_,_,(cb L 112 (fV.cells (fV.mk (oQ r kA kC cA cC bA bC slA slC drA drC heA heC) (bo.mk a ((cS r).length) c) (Value.map (some K)))))]) 14 U U U Jg U U U U U U U<|RK C3<|aj fun _ Di=>?_
  rw [show dB r r.an.length=aG r from rfl]
  refine ak<|rP 3 [] mn ?_
  refine RK Di<|aq ?_
  refine LX hQ (true,0,L,K,a,c,tz) [14,13,12,0] [] mn U (by (show List.all _ _=true; simp only [cond_true,fw,List.all_nil,xP,Bool.and_true]; rfl)) U U ?_
  exact ⟨fun _=>⟨BE B X,Fn⟩,NW⟩
 refine WK A3<|aj fun _ A4=>ax<|WS fun _ A5=>?_
 obtain ⟨ht,D⟩:=aJ r.an h I
 obtain ⟨G,AB⟩:=aJ ha h I
 have Fd:(List.zipWith ct r.an ha)[h]? =some (ct ht G):=dG D AB
 refine rS (IA h U (aA 9 U) nA dc I I)<|rS (fT h 0 (vS G.1.1 ht.length G.1.2) U cd (aA 9 U) Fd U dc U)<|rP 1 [] mn ?_
 refine RK A5<|aj fun _ A6=>WS fun _ A7=>?_
 have FS:=hin.nN _ _ _ D AB
 have Lk:=FS.od
 refine rP 4 [] mn ?_
 refine RK A7<|cH U (bu fun Y=>?_) (br fun Y=>?_)
 ·refine WS fun _ A8=>rP 2 [] mn ?_
  refine RK A8<|aq<|LX hQ (false,60,0,0,none,0,[]) [] [] mn U (by rfl) U U ?_
  exact rL<|qf (kH B (fun q:eP r=>by have q1:=(q.nN ht (aT D)).1; omega))
 refine WK A6<|WS fun _ A9=>bh 1 U<|RK A9<|aj fun _ B3=>WS fun _ B7=>rP 3 [] mn ?_
 refine RK B7<|ax<|fZ 45 2 ?_
 have A:(0≤ht.length)∧(oy r.ao ht 0):=by exact ⟨Nat.zero_le _,vz⟩
 refine bL (ι:={z:Nat×(OA)×Nat // (z.1≤ht.length)∧(oy r.ao ht z.1)}) [1,5,8,10,93,94,95,103,104] [1,2,3,4,5,6,7,8,9,10,11,12,13,14] U U (fun z=>[(11,(vS z.1.2.1 (((ht.take z.1.1).map (dI r.ao)).length) z.1.2.2)),(105,(vI (z.1.1:Int)))]) (fun z=>[(own z.1.2.1 z.1.2.2 45 2 (((ht.take z.1.1).map (dI r.ao)).map aa.cells))]) (fun _=>rfl) (fun _=>rfl) (fun z=>ht.length-z.1.1) ⟨(0,none,0),A⟩ (aV U) (aH [1,2,3,4,5,6,7,8,9,10,11,12,13,14,0]) ?_
 clear A
 rintro ⟨⟨j,la,lc⟩,⟨AA,F⟩⟩ J53 b
 try dsimp only at AA F
 try dsimp only
 refine WS fun _ B9=>rP 1 [] mn ?_
 refine RK B9<|aj fun _ Ci=>bQ U (aO fun If=>?_) (aN fun If=>?_)
 ·refine bD<|ab<|ab<|ay<|KK B3<|ak<|bh 2 U<|rS (SX (bO U U) U U)<|rP 2 [] (mc 13 U mn) ?_
  rw [show ((ht.take j).map (dI r.ao))=ht.map (dI r.ao) from by rw [List.take_of_length_le I]]
  refine rP 1 [] mn ?_
  refine df (xs:=[.tmp 128]) (cs:=[(vS la ((ht.map (dI r.ao)).length) lc)]) U FD PL U U U U (by simp [Value.cells]) U U fun Ne=>?_
  refine cL (es2:=(List.map sC (List.zipWith BO (gL r (h+1)) (tz++[(la,lc)])))) (m':=(List.zipWith BO (gL r (h+1)) (tz++[(la,lc)])).length) 13 U U U PD U U sm (bf (es:=List.map sC [(bo.mk la ((ht.map (dI r.ao)).length) lc)]) 0 U U (by simp [yK]) U) (JP _) (by rw [List.length_zipWith,kQ I]; omega) (by rw [List.length_zipWith,kQ I]; simp only [maxLen]; omega) (by rw [th D C,List.map_append]; rfl) (by rw [th D C]; simp) U fun P R=>?_
  try dsimp only
  refine rS (SX (bO U U) U U)<|bh 1 U<|jC (vs:=[(vS P ((List.zipWith BO (gL r (h+1)) (tz++[(la,lc)])).length) R)]) (cs':=(fV.cells (fV.mk (oQ r kA kC cA cC bA bC slA slC drA drC heA heC) (bo.mk P ((List.zipWith BO (gL r (h+1)) (tz++[(la,lc)])).length) R) (Value.map none)))) (C':=[_,_,_,_,_,_,_,_,_,_,_,_,_,_,(cb L 112 (fV.cells (fV.mk (oQ r kA kC cA cC bA bC slA slC drA drC heA heC) (bo.mk P ((List.zipWith BO (gL r (h+1)) (tz++[(la,lc)])).length) R) (Value.map none)))),_]) 14 U U U SS U U U U U U U<|aC<|aB<|KK A4<|ak<|rP 2 [] mn ?_
  refine aC<|zk (X':=aU DA (gL r (h+1)) (tz++[(la,lc)])) 12 15 U U (CW (a:=(la,lc)) D C) ?_
  have EQ:(vI (((h+1):Nat):Int))=(vI ((h:Int)+1)):=by exact cI I
  refine aR (Z ⟨((h+1),(tz++[(la,lc)]),P,R),⟨I,by simp; omega,wK E D (FR I F I)⟩⟩ _ _ _ U os (cK 5<|aY U EQ<|du.nil _) (aH [2,3,4,5,6,7,8,9,10,11,12,0,13,14]))
 refine WK Ci<|aj fun _ Ck=>ax<|WS fun _ Cp=>?_
 obtain ⟨d,hd⟩:=aJ ht j I
 obtain ⟨da,Eq⟩:=aJ G.2 j I
 have KM:(List.zipWith aw.cells ht G.2)[j]? =some (aw.cells d da):=dG hd Eq
 refine rS (IA j U (show jc _ (rd G.1.1 ht.length 7 (List.zipWith aw.cells ht G.2)).holds from (dk 10 U (bV D AB cm))) ug dc I I)<|rS (oT j 0 (bp.cells (bp.mk d.Out d.eU d.Time (dY.mk d.cv.Start d.cv.gk (bo.mk da.1 d.cv.ah.length da.2)))) U cd (show jc _ (rd G.1.1 ht.length 7 (List.zipWith aw.cells ht G.2)).holds from (dk 10 U (bV D AB cm))) KM U dc U U)<|AL U Ow fun M2=>fX U Rp U<|RK Cp<|WS fun _ Cx=>bh 1 U<|rS (LP (bW.cells (lh r.ao kA kC cA cC bA bC)) 2 U cd U U U)<|rP 1 [] (mc 0 U mn) ?_
 have PP:=FS.sig d (aT hd)
 refine rS (CL (Ef r.ao kA kC az cA cC bA bC d da.1 da.2 asm asm) (l8 [3,4,5,6,7]<|av (show jc _ (rd da.1 d.cv.ah.length 2 (d.cv.ah.map aK.cells)).holds from (dk 11 U (bV D AB (cV _ (bV hd Eq (by simp [aw.g4]))))))<|aI) U)<|bh 3 U<|AL U dp fun NE=>fX U cx U<|bh 1 U<|RK Cx<|aj fun _ C0=>WS fun _ C1=>rP 2 [] mn ?_
 refine RK C1<|bQ U (br fun M=>?_) (bu fun M=>?_)
 ·refine WK C0<|ak<|rP 2 [] (mc 0 U mn) ?_
  refine df (xs:=[.tmp 119]) (cs:=(aa.cells (dI r.ao d))) U gY dp U U U U (by simp [Value.cells,aa.aX]) U U fun Na=>?_
  refine cL (es2:=(List.map aa.cells ((ht.take (j+1)).map (dI r.ao)))) (m':=((ht.take (j+1)).map (dI r.ao)).length) 17 U U U xq U U sm (bf (es:=List.map aa.cells [(dI r.ao d)]) 0 U U (by simp [aa.aX]) U) (g6 _) (by simp only [List.length_map,List.length_take]; omega) (by simp only [maxLen,List.length_map,List.length_take]; omega) (by rw [List.take_add_one,hd]; simp) sq U fun GE H1=>?_
  try dsimp only
  refine bh 1 U<|aC<|aB<|KK Ck<|ak<|rP 2 [] mn ?_
  refine aC ?_
  have Dz:(vI (((j+1):Nat):Int))=(vI ((j:Int)+1)):=by exact cI I
  refine aR (b ⟨((j+1),GE,H1),⟨I,vm F hd M⟩⟩ _ _ _ U os (cK 10<|aY U Dz<|du.nil _) (aH [3,4,5,6,7,8,9,10,11,12,13,14,15,16,17]))
 refine WS fun _ C2=>rP 2 [] mn ?_
 refine RK C2<|aq<|LX hQ (false,60,0,0,none,0,[]) [] [] mn U (by rfl) U U ?_
 exact rL<|qf (kH B (fun q:eP r=>by exact M ((q.nN ht (aT D)).2 d (aT hd))))
end
section
open Go.RowKit
theorem v9 (l:List Int) (lA:OA) (lC:Nat) (hlen:l.length≤1000000):
 ld Tryz.prog 40 [(vS lA l.length lC)] [(rd lA l.length 1 (l.map iC))] (fun (x:(OA)×Nat)=>(vS x.1 l.length x.2)) (fun (x:(OA)×Nat)=>True) (fun (x:(OA)×Nat)=>[(own x.1 x.2 3 1 (l.map iC))]):=by
 refine dg kr Tryz.func40 U U fun L Q hQ hN=>?_
 try dsimp only
 refine WS fun _ D=>bh 1 U<|RK D<|aj fun _ E=>WS fun _ F=>rP 1 [] mn ?_
 refine rS (BI U (qq Si))<|RK F<|cH U (aN fun B=>?_) (aO fun B=>?_)
 ·refine WS fun _ G=>mx (aA 0 U) B dc fun C=>?_
  have A:l=[]:=by simpa using C
  refine dV 3 1 ?_
  rw [show (own none 0 3 1 ([]:List (List Value)))=own none 0 3 1 (l.map iC) from by rw [A]; rfl]
  refine rP 1 [] mn ?_
  refine RK G<|aq ?_
  refine LX hQ (none,0) [0] [] mn U U U ?_ ?_
  ·first|rfl|(rw [A]; rfl)
  ·trivial
 refine WK E<|WS fun _ H=>lJ U cw U fun J=>rP 1 [] mn ?_
 refine cW (es:=(List.map iC [])) (C':=[own (some ⟨J,0,none⟩) 0 3 1 (List.map iC []),_]) 0 U sm U (by simp [maxLen]) U ?_
 refine cL (es2:=(List.map iC l)) (m':=l.length) 0 U U U o2 U U sm (aA 1 U) (jM _) os (by first|(simp only [maxLen]; omega)|(simp [maxLen]; omega)) sm sm U fun AA K=>?_
 try dsimp only
 refine rP 1 [] mn ?_
 refine RK H<|aq ?_
 refine LX hQ (AA,K) [0] [] mn U U U ?_ ?_
 ·first|rfl|(rw [A]; rfl)
 ·trivial
theorem CG (l:List Int) (lA:OA) (lC:Nat) (f:Value) (key:Int→Int) (X:au) (hf: ∀ x0 x1,x0∈l∧x1∈l→DO Tryz.prog f [.int .i64 x0,.int .i64 x1] [X] (.int .i64 (key x0-key x1))) (hkb: ∀ x∈l,0≤key x∧key x≤30000000) (hlen:l.length≤1000000):
 Dx Tryz.prog 162 [(vS lA l.length lC),(vI 0),(vI (l.length:Int)),f] [X] (own lA lC 3 1 (l.map iC)) (fun (x:Unit)=>(vT [])) (fun (x:Unit)=>True) (fun (x:Unit)=>(own lA lC 3 1 ((ek key l).map iC))):=by
 refine mO kr Tryz.func162 U U fun s Q hQ hN=>?_
 try dsimp only
 refine WS fun _ Z=>bh 1 U<|rS (SX (b_ (r:= .int .i64 1) U U U (iD ⟨dc,dc⟩)) U U)<|rP 1 [] mn ?_
 refine RK Z<|ax ?_
 have C:(1≤1∧(1≤l.length∨1=1))∧(l.length=l.length)∧(1=1∧l=[]∨tW key l 1 l)∧(∀ x∈l,x∈l):=by exact ⟨I,rfl,It,fun x h=>h⟩
 refine bL (ι:={z:Nat×(List Int) // (1≤z.1∧(z.1≤l.length∨z.1=1))∧(z.2.length=l.length)∧(z.1=1∧l=[]∨tW key l z.1 z.2)∧(∀ x∈z.2,x∈l)}) [0,1,2,3] [1] U U (fun z=>[(8,(vI (z.1.1:Int)))]) (fun z=>[(own lA lC 3 1 (z.1.2.map iC))]) (fun _=>rfl) (fun _=>rfl) (fun z=>l.length-z.1.1) ⟨(1,l),C⟩ (aV U) (aH [1,0]) ?_
 clear C
 rintro ⟨⟨i,m⟩,⟨AB,E,F,G⟩⟩ J2 L
 try dsimp only at AB E F G
 try dsimp only
 refine aj fun _ b=>WS fun _ c=>rP 3 [] mn ?_
 refine RK c<|bQ U (aO fun p=>?_) (aN fun p=>?_)
 ·refine bD<|ab<|ab<|ay ?_
  rw [show m=ek key l from JL I E F]
  refine LM hN () 1 [] mn U U U U ?_
  trivial
 refine WK b<|aj fun _ N=>ax<|WS fun _ d=>rP 2 [] mn ?_
 refine RK d<|ax ?_
 have C:(i≤i)∧(m.length=l.length)∧(∀ x∈m,x∈l)∧(CQ key l i i m):=by exact ⟨Nat.le_refl _,E,G,D0 I (M5 I F)⟩
 refine bL (ι:={z:Nat×(List Int) // (z.1≤i)∧(z.2.length=l.length)∧(∀ x∈z.2,x∈l)∧(CQ key l i z.1 z.2)}) [0,1,2,3,8] [0] U U (fun z=>[(9,(vI (z.1.1:Int)))]) (fun z=>[(own lA lC 3 1 (z.1.2.map iC))]) (fun _=>rfl) (fun _=>rfl) (fun z=>z.1.1) ⟨(i,m),C⟩ (aV U) (aH [0,1]) ?_
 clear C
 rintro ⟨⟨j,q⟩,⟨J,D,A,B⟩⟩ J8 Y
 try dsimp only at J D A B
 try dsimp only
 refine aj fun _ e=>aj fun _ H=>dK cE 17 kr<|dP 4 [] mn ?_
 refine jy (t:=21) U (aO fun V=>?_) (aN fun V=>?_)
 ·refine l5 13 U<|cR<|RK H<|aW U<|bD<|ab<|ab<|ay<|aB<|KK N<|ak<|rP 3 [] mn ?_
  refine aC ?_
  refine aR (L ⟨((i+1),q),⟨I,D,.inr (by first|exact yT I B|exact zd I B hx hy I),A⟩⟩ _ _ _ U (by simp only []; omega) (aV U) (aH [0,1]))
 refine dP 3 [] mn ?_
 obtain ⟨x,hx⟩:=aJ q j I
 have K:=bK iC hx
 refine dS (IA j U (ag (n:=l.length) 1 U sq) cw dc I I) ?_
 refine dS (fT j 0 (vI x) U cd (ag (n:=q.length) 1 U sm) K U dc U)<|dP 3 [] mn ?_
 obtain ⟨y,hy⟩:=aJ q (j-1) I
 have AA:=bK iC hy
 refine dS (IA (j-1) U (ag (n:=l.length) 1 U sq) cw dc I I) ?_
 refine dS (fT (j-1) 0 (vI y) U cd (ag (n:=q.length) 1 U sm) AA U dc U)<|dS (SX (sD U U U (hf x y ⟨A _ (aT hx),A _ (aT hy)⟩) (bg [0])) U U)<|dP 2 [] mn ?_
 refine cR<|RK H<|bQ U (aO fun W=>?_) (aN fun W=>?_)
 ·refine bD<|ab<|ab<|ay<|aB<|KK N<|ak<|rP 3 [] mn ?_
  refine aC ?_
  refine aR (L ⟨((i+1),q),⟨I,D,.inr (by first|exact yT I B|exact zd I B hx hy I),A⟩⟩ _ _ _ U (by simp only []; omega) (aV U) (aH [0,1]))
 refine WK e<|aj fun _ M=>ax<|dF cE [15,16,17] [8,9,12,13,14] [] [0] [0,1] U U U U U<|eS U (MV U)<|eS U (MV U)<|eS U (MV U)<|eS U (MV U)<|eS U (BI U (r_ ⟨I,I⟩))<|eS U (MV U)<|eS U (MV U)<|eS U (BI U (r_ ⟨I,I⟩)) ?_
 refine fS U (IA (j-1) U (ag (n:=l.length) 1 U sq) cw dc I I) ?_
 refine fS U (fT (j-1) 0 (vI y) U cd (ag (n:=q.length) 1 U sm) AA U dc U)<|eS U (MV U)<|eS U (MV U) ?_
 refine fS U (IA j U (ag (n:=l.length) 1 U sq) cw dc I I) ?_
 refine fS U (fT j 0 (vI x) U cd (ag (n:=q.length) 1 U sm) K U dc U) ?_
 refine fS U (IA j U (ag (n:=l.length) 1 U sq) cw dc I I) ?_
 refine eT U<|cf U fun T14 O=>dM (k:=j) (o:=0) (vs:=[(vI y)]) (es':=(List.map iC (q.set j y))) (C':=[_,(own lA lC 3 1 (List.map iC (q.set j y)))]) 1 U U U Cw U U U U K U dc (by exact (List.map_set (f:=iC) (l:=q) (i:=j) (a:=y)).symm) U<|aC (O _ _ (aH [0]) ?_)
 refine cf U fun T15 P=>?_
 obtain ⟨g,T⟩:=aJ (q.set j y) (j-1) os
 have hx17m:(List.map iC (q.set j y))[(j-1)]? =some (iC g):=by rw [fH,T]; rfl
 refine rS (IA (j-1) U (ag (n:=l.length) 1 U sq) cw dc I I) ?_
 refine aC (P _ _ (aH [0]) ?_)
 refine cf U fun T18 R=>dM (k:=(j-1)) (o:=0) (vs:=[(vI x)]) (es':=(List.map iC ((q.set j y).set (j-1) x))) (C':=[_,(own lA lC 3 1 (List.map iC ((q.set j y).set (j-1) x)))]) 1 U U U Cw U U U U hx17m U dc (by exact (List.map_set (f:=iC) (l:=(q.set j y)) (i:=(j-1)) (a:=x)).symm) U<|aC (R _ _ (aH [0]) ?_)
 refine fF U<|aB<|KK M<|ak<|rP 3 [] mn ?_
 refine aC ?_
 have S:(vI (((j-1):Nat):Int))=(vI ((j:Int)-1)):=by exact cI I
 refine aR (Y ⟨((j-1),((q.set j y).set (j-1) x)),⟨I,by simp; exact D,Kx hx hy A,Hs I B hx hy I⟩⟩ _ _ _ U (by simp only []; omega) (cK 5<|aY U S<|du.nil _) (aH [0,1]))
theorem LK (l:List Int) (lA:OA) (lC:Nat) (f:Value) (key:Int→Int) (X:au) (hf: ∀ x0 x1,x0∈l∧x1∈l→DO Tryz.prog f [.int .i64 x0,.int .i64 x1] [X] (.int .i64 (key x0-key x1))) (hkb: ∀ x∈l,0≤key x∧key x≤30000000) (hlen:l.length≤12):
 Dx Tryz.prog 116 [(vS lA l.length lC),(vI (l.length:Int)),f] [X] (own lA lC 3 1 (l.map iC)) (fun (x:Unit)=>(vT [])) (fun (x:Unit)=>True) (fun (x:Unit)=>(own lA lC 3 1 ((ek key l).map iC))):=by
 refine mO kr Tryz.func116 U U fun N Q hQ hN=>?_
 try dsimp only
 refine WS fun _ C=>bh 1 U<|RK C<|WS fun _ D=>bh 3 U<|RK D<|aj fun _ E=>ax<|j5 1<|eD fun R4 M=>aj fun _ L=>WS fun _ F=>rP 3 [] mn ?_
 refine RK F<|cH U (aN fun K=>?_) (aO fun K=>?_)
 ·exfalso; omega
 refine bD<|ab<|ab<|ay<|KK E<|WS fun _ G=>rP 4 [] mn ?_
 refine jd 0 U U U U (CG l lA lC f key X (by exact hf) hkb sd) U (ei 1 U U (dQ (bS _)) ks) U (fun O J=>?_)
 try dsimp only
 refine RK G<|ax<|j5 1<|eD fun R11 AA=>aj fun _ H=>WS fun _ A=>rP 3 [] mn ?_
 refine RK A<|cH U (aN fun B=>?_) (aO fun B=>?_)
 ·exfalso; omega
 refine bD<|ab<|ab<|ay<|LM hN () 0 [] mn U U U U ?_
 trivial
theorem AI (l:List Int) (lA:OA) (lC:Nat) (f:Value) (key:Int→Int) (X:au) (hf: ∀ x0 x1,x0∈l∧x1∈l→DO Tryz.prog f [.int .i64 x0,.int .i64 x1] [X] (.int .i64 (key x0-key x1))) (hkb: ∀ x∈l,0≤key x∧key x≤30000000) (hlen:l.length≤12):
 Dx Tryz.prog 79 [(vS lA l.length lC),f] [X] (own lA lC 3 1 (l.map iC)) (fun (x:Unit)=>(vT [])) (fun (x:Unit)=>True) (fun (x:Unit)=>(own lA lC 3 1 ((ek key l).map iC))):=by
 refine mO kr Tryz.func79 U U fun B Q hQ hN=>?_
 try dsimp only
 refine ak<|rP 4 [] mn ?_
 refine jd 0 U U U U (LK l lA lC f key X (by exact hf) hkb hlen) U (ei 1 U U (dQ (bS _)) ks) U (fun C A=>?_)
 try dsimp only
 refine aC<|LM hN () 0 [] mn U U U U ?_
 trivial
theorem zR (l:List Int) (lA:OA) (lC:Nat) (f:Value) (key:Int→Int) (X:au) (hf: ∀ x0 x1,x0∈l∧x1∈l→DO Tryz.prog f [.int .i64 x0,.int .i64 x1] [X] (.int .i64 (key x0-key x1))) (hkb: ∀ x∈l,0≤key x∧key x≤30000000) (hlen:l.length≤12):
 ld Tryz.prog 42 [(vS lA l.length lC),f] [(rd lA l.length 1 (l.map iC)),X] (fun (x:(OA)×Nat)=>(vS x.1 ((ek key l).length) x.2)) (fun (x:(OA)×Nat)=>True) (fun (x:(OA)×Nat)=>[(own x.1 x.2 3 1 ((ek key l).map iC))]):=by
 refine dg kr Tryz.func42 U U fun J Q hQ hN=>?_
 try dsimp only
 refine WS fun _ B=>bh 1 U<|RK B<|WS fun _ C=>rP 1 [] mn ?_
 refine cX (v9 l lA lC sd) (bg [0]) U fun AA G=>?_
 obtain ⟨E,F⟩:=AA
 try dsimp only
 refine bh 1 U<|RK C<|WS fun _ D=>rP 2 [] mn ?_
 refine jd 0 U U U U (AI l E F f key X (by exact hf) hkb hlen) U (ei 2 U U (dQ (bS _)) ks) U (fun K H=>?_)
 try dsimp only
 refine RK D<|WS fun _ A=>rP 2 [] mn ?_
 refine RK A<|aq ?_
 refine LX hQ (E,F) [0] [] mn U U U ?_ ?_
 ·first|rfl|(rw [kJ]; rfl)
 ·trivial
theorem Hx (l:List Int) (lA:OA) (lC k:Nat) (hk:k≤l.length) (hlen:l.length≤1000000):
 Dx Tryz.prog 44 [(vS lA k lC)] [] (own lA lC 3 1 (l.map iC)) (fun (x:Unit)=>(vT [])) (fun (x:Unit)=>True) (fun (x:Unit)=>(own lA lC 3 1 ((kW k l).map iC))):=by
 refine mO kr Tryz.func44 U U fun V Q hQ hN=>?_
 try dsimp only
 refine WS fun _ J=>rP 5 [] mn ?_
 refine RK J<|ax ?_
 have B:(0≤k)∧(Is l k 0 l):=by exact ⟨Nat.zero_le _,MQ⟩
 have P:(vI ((k:Int)-1-(0:Int)))=(vI ((k:Int)-1)):=by exact cI I
 refine bL (ι:={z:Nat×(List Int) // (z.1≤k)∧(Is l k z.1 z.2)}) [0] [] U U (fun z=>[(2,(vI (z.1.1:Int))),(3,(vI ((k:Int)-1-(z.1.1:Int))))]) (fun z=>[(own lA lC 3 1 (z.1.2.map iC))]) (fun _=>rfl) (fun _=>rfl) (fun z=>k-z.1.1) ⟨(0,l),B⟩ (du.cons U<|aY U P<|du.nil _) (aH [0]) ?_
 clear B
 rintro ⟨⟨i,m⟩,⟨C,A⟩⟩ J3 AB
 try dsimp only at C A
 try dsimp only
 have AA:=A.1
 refine aj fun _ K=>WS fun _ L=>rP 3 [] mn ?_
 refine RK L<|bQ U (aO fun T=>?_) (aN fun T=>?_)
 ·refine bD<|ab<|ab<|ay ?_
  rw [show m=kW k l from M4 hk I A]
  refine LM hN () 0 [] mn U U U U ?_
  trivial
 refine WK K<|aj fun _ M=>ax<|dF cE [13,14,15] [6,7,10,11,12] [] [] [0] U U U U U<|eS U (MV U)<|eS U (MV U)<|eS U (MV U)<|eS U (MV U)<|eS U (MV U)<|eS U (MV U) ?_
 obtain ⟨y,hy⟩:=aJ m ((((k:Int)-1-(i:Int))).toNat) I
 have R:=bK iC hy
 refine fS U (TK ((((k:Int)-1-(i:Int))).toNat) U (ag (n:=m.length) 0 U sm) cw dc I I I)<|fS U (fT ((((k:Int)-1-(i:Int))).toNat) 0 (vI y) U cd (ag (n:=m.length) 0 U sm) R U dc U)<|eS U (MV U)<|eS U (MV U) ?_
 obtain ⟨x,hx⟩:=aJ m i I
 have H:=bK iC hx
 refine fS U (TK i U (ag (n:=m.length) 0 U sm) cw dc I I I)<|fS U (fT i 0 (vI x) U cd (ag (n:=m.length) 0 U sm) H U dc U)<|fS U (TK i U (ag (n:=m.length) 0 U sm) cw dc I I I)<|eT U<|cf U fun T8 N=>dM (k:=i) (o:=0) (vs:=[(vI y)]) (es':=(List.map iC (m.set i y))) (C':=[(own lA lC 3 1 (List.map iC (m.set i y)))]) 0 U U U Cw U U U U H U dc (by exact (List.map_set (f:=iC) (l:=m) (i:=i) (a:=y)).symm) U<|aC (N _ _ (aH []) ?_)
 refine cf U fun T9 O=>?_
 obtain ⟨S,G⟩:=aJ (m.set i y) ((((k:Int)-1-(i:Int))).toNat) os
 have hx11m:(List.map iC (m.set i y))[(((k:Int)-1-(i:Int))).toNat]? =some (iC S):=by rw [fH,G]; rfl
 refine rS (TK ((((k:Int)-1-(i:Int))).toNat) U (ag (n:=(m.set i y).length) 0 U sm) cw dc I I (by simp; omega)) ?_
 refine aC (O _ _ (aH []) ?_)
 refine cf U fun T12 D=>dM (k:=(((k:Int)-1-(i:Int))).toNat) (o:=0) (vs:=[(vI x)]) (es':=(List.map iC ((m.set i y).set ((((k:Int)-1-(i:Int))).toNat) x))) (C':=[(own lA lC 3 1 (List.map iC ((m.set i y).set ((((k:Int)-1-(i:Int))).toNat) x)))]) 0 U U U Cw U U U U hx11m U dc (by exact (List.map_set (f:=iC) (l:=(m.set i y)) (i:=(((k:Int)-1-(i:Int))).toNat) (a:=x)).symm) U<|aC (D _ _ (aH []) ?_)
 refine fF U<|aB<|KK M<|ak<|rP 6 [] mn ?_
 refine aC ?_
 have E:(vI (((i+1):Nat):Int))=(vI ((i:Int)+1)):=by exact cI I
 have F:(vI ((k:Int)-1-(((i+1):Nat):Int)))=(vI (((k:Int)-1-(i:Int))-1)):=by exact cI I
 refine aR (AB ⟨((i+1),((m.set i y).set ((((k:Int)-1-(i:Int))).toNat) x)),⟨I,Md hk I I A hx hy⟩⟩ _ _ _ U os (du.cons U<|aY U E<|aY U F<|du.nil _) (aH [0]))
end
section
open Go.RowKit
theorem Jl (a b:Int) (m:g8) (gm g1:Nat) (hb: ∀ p∈m,0≤p.2.Lo∧p.2.Lo≤p.2.Hi∧p.2.Hi≤30000000):
 ep Tryz.prog 43 [(vI a),(vI b),(vP g1)] [(g_ iV gm (bM dD m)),(cb g1 40 [(Value.map (some gm))])] (vI ((aF m a).Hi-(aF m b).Hi)):=by
 have A:=g0 (i:=a) hb
 have B:=g0 (i:=b) hb
 refine bG kr Tryz.func43 U U fun E Q hQ hN=>?_
 try dsimp only
 refine WS fun _ C=>bh 1 U<|RK C<|WS fun _ D=>fu 2 [] (mr 1 U mn) U<|rS (SX (gh (kV:=iV) (x:=a) (l:=m) (f:=dD) (z:=(aa.mk 0 0)) U U U k8 (db mY) rO (by exact iM 0 U)) U U)<|rS (SX (iL (v:=(vI (((List.lookup a m).getD (aa.mk 0 0)).Hi))) U U fp qQ U) U U)<|rP 2 [] (mr 1 U mn) ?_
 refine rS (SX (gh (kV:=iV) (x:=b) (l:=m) (f:=dD) (z:=(aa.mk 0 0)) U U U k8 (db mY) rO (by exact iM 0 U)) U U)<|rS (SX (iL (v:=(vI (((List.lookup b m).getD (aa.mk 0 0)).Hi))) U U fp qQ U) U U) ?_
 unfold aF at A B
 simp only [dH] at A B
 refine rP 2 [] mn ?_
 refine RK D<|aq ?_
 exact Q1 hQ U U U U
theorem Bb (heatX:Int) (r:bT) (kA:OA) (kC:Nat) (az:List RA) (cA:OA) (cC:Nat) (bA:OA) (bC:Nat) (slA:OA) (slC:Nat) (drA:OA) (drC:Nat) (ha:List cy) (heA:OA) (heC:Nat) (hin:eO r az ha):
 ld Tryz.prog 9 [(vA (cp.cells (oQ r kA kC cA cC bA bC slA slC drA drC heA heC))),(vI heatX)] [(rd fg 3 2 eu),(rd kA r.ao.aM.length 9 (r.ao.aM.map al.cells)),(rd cA r.ao.ai.length 2 (List.zipWith ar.cells r.ao.ai az)),(fc (aU ar.g4 r.ao.ai az)),(rd bA r.ao.ae.length 4 (r.ao.ae.map bH.cells)),(rd slA r.aL.length 1 (r.aL.map iC)),(rd drA r.bE.length 1 (r.bE.map iC)),(rd heA r.an.length 1 (List.zipWith ct r.an ha)),(fc (aU iw r.an ha))] (fun (x:(OA)×Nat)=>(vT [(vS x.1 ((cj r heatX).length) x.2),(vI (gO r heatX))])) (fun (x:(OA)×Nat)=>True) (fun (x:(OA)×Nat)=>[(own x.1 x.2 3 1 ((cj r heatX).map iC))]):=by
 have Cp:=hin.line
 have Hb:=hin.iH
 have H1:=hin.has
 have EQ:=hin.iI
 have As:=hin.draw
 have A2:=dE (r:=r)
 refine dg kr Tryz.func9 U U fun w0 Q hQ hN=>?_
 try dsimp only
 refine WS fun _ Ck=>fQ U fun b2=>bh 2 U<|RK Ck<|AD U<|WS fun _ e=>rP 1 [] (mc 0 U mn) ?_
 refine cX (oB r kA kC az cA cC bA bC slA slC drA drC ha heA heC hin) (bg [1,2,3,4,5,6,7,8,9]) U fun y4 A3=>?_
 obtain ⟨A4,GE,B7,B3,C2,A5,A6⟩:=y4
 cases A4
 ·obtain ⟨A0,he⟩:=A3.2 rfl
  try dsimp only at A0 he
  subst A0
  try dsimp only [cond_true,cond_false,List.cons_append,List.nil_append]
  refine bh 5 U<|RK e<|aj fun _ Dz=>WS fun _ R=>rP 2 [] mn ?_
  refine RK R<|bQ U (br fun P=>?_) (bu fun P=>?_)
  ·exact absurd P he
  refine WS fun _ S=>rP 1 [] mn ?_
  have A:gO r heatX=cD r:=D8 he
  have B:cj r heatX=[]:=yO (by rw [A]; exact he)
  refine dV 3 1 ?_
  rw [show (own none 0 3 1 ([]:List (List Value)))=own none 0 3 1 ((cj r heatX).map iC) from by rw [B]; rfl]
  refine rP 2 [] mn ?_
  refine RK S<|aq ?_
  refine LX hQ (none,0) [0] [] mn U U U ?_ ?_
  ·first|rfl|(rw [A,B]; rfl)|(rw [A]; rfl)|(rw [A,B,iS]; rfl)
  ·trivial
 obtain ⟨he,C0⟩:=A3.1 rfl
 try dsimp only [cond_true,cond_false,List.cons_append,List.nil_append]
 have G:=(fM he).2
 have IO:=G.sP
 have Go:=G.yA
 refine bh 5 U<|RK e<|aj fun _ T=>WS fun _ AA=>bh 1 U<|rS (SX (b_ (r:= .bool false) U U U nK) U U)<|RK AA<|aW U<|WK T<|aj fun _ V=>WS fun _ W=>rP 4 [] (mc 4 U mn) ?_
 refine df (xs:=[.tmp 25]) (cs:=[(vI heatX)]) U cw js U U U U (by simp [Value.cells]) U U fun A8=>?_
 refine rS (CL (ep.eq (kg 0 (r.an.length:Int) ([heatX]) (some ⟨A8,0,none⟩) 1 sd) cY) (av (bf 0 U U (by simp [bI]) U)<|aI) U) ?_
 refine rP 1 [] mn ?_
 refine RK W<|cH U (bu fun B9=>?_) (br fun B9=>?_)
 ·refine WS fun _ X=>?_
  have A:gO r heatX=2:=Em he I
  have B:cj r heatX=[]:=yO (by rw [A]; decide)
  refine dV 3 1 ?_
  rw [show (own none 0 3 1 ([]:List (List Value)))=own none 0 3 1 ((cj r heatX).map iC) from by rw [B]; rfl]
  refine rP 2 [] mn ?_
  refine RK X<|aq ?_
  refine LX hQ (none,0) [0] [] mn U U U ?_ ?_
  ·first|rfl|(rw [A,B]; rfl)|(rw [A]; rfl)|(rw [A,B,iS]; rfl)
  ·trivial
 refine WK V<|aj fun _ Y=>WS fun _ Z=>rP 2 [] mn ?_
 refine RK Z<|cH U (aN fun D=>?_) (aO fun D=>?_)
 ·refine WS fun _ b=>rP 2 [] (mc 5 U mn) ?_
  refine cX (v9 r.bE drA drC sd) (bg [12]) U fun Dk Eq=>?_
  obtain ⟨N,O⟩:=Dk
  try dsimp only
  have A:gO r heatX=0:=lT he I
  have B:cj r heatX=r.bE:=mF A D
  rw [show (own N O 3 1 (r.bE.map iC))=(own N O 3 1 ((cj r heatX).map iC)) from by rw [mF A D]]
  refine rP 2 [] mn ?_
  refine RK b<|aq ?_
  refine LX hQ (N,O) [0] [] mn U U U ?_ ?_
  ·first|rfl|(rw [A,B]; rfl)|(rw [A]; rfl)|(rw [A,B,iS]; rfl)
  ·trivial
 refine WK Y<|WS fun _ d=>?_
 obtain ⟨n,rfl⟩: ∃ n:Nat,heatX=(n:Int):=⟨heatX.toNat,I⟩
 refine rP 2 [] mn ?_
 refine cX (PG r kA kC az cA cC bA bC slA slC drA drC ha heA heC A6 C2 A5 (Value.map (some B3)) B7 n hin I sd (by exact G.z3)) (l8 [7,8,9,10,11,12,13,14]<|av (ag (n:=(cS r).length) 2 U (m7 (by rw [A2]; exact C0)))<|av (dL 3 U s7)<|fj 1 U U<|aI) U fun C FS=>?_
 try dsimp only
 refine AL U P5 fun AB=>D7 U Jg U U<|RK d<|WS fun _ g=>bh 1 U<|RK g<|aj fun _ h=>A_<|KK h<|aj fun _ j=>WS fun _ k=>rP 4 [] (mc 7 U mn) ?_
 refine RK k<|ax<|fZ 3 1 ?_
 have F:(0≤r.bE.length):=by exact Nat.zero_le _
 refine bL (ι:={z:Nat×(OA)×Nat // (z.1≤r.bE.length)}) [1,2,6,8,38,39] [1,2,5,6,7,8,9,10,11,12,13,14,15,16,17] U U (fun z=>[(9,(vS z.1.2.1 (((r.bE.take z.1.1).filter fun u=>(List.lookup u (dB r n)).isSome).length) z.1.2.2)),(40,(vI (z.1.1:Int)))]) (fun z=>[(own z.1.2.1 z.1.2.2 3 1 (((r.bE.take z.1.1).filter fun u=>(List.lookup u (dB r n)).isSome).map iC))]) (fun _=>rfl) (fun _=>rfl) (fun z=>r.bE.length-z.1.1) ⟨(0,none,0),F⟩ (aV U) (aH [1,2,5,6,7,8,9,10,11,12,13,14,15,16,17,0]) ?_
 clear F
 rintro ⟨⟨i,a,c⟩,K⟩ J38 L
 try dsimp only at K
 try dsimp only
 refine WS fun _ m=>rP 1 [] mn ?_
 refine RK m<|aj fun _ o=>bQ U (aO fun Ci=>?_) (aN fun Ci=>?_)
 ·refine bD<|ab<|ab<|ay<|KK j<|aj fun _ v=>?_
  rw [show r.bE.take i=r.bE from List.take_of_length_le I]
  refine ak<|rP 1 [] mn ?_
  have Cx:=Gk he (show n≤r.an.length by omega)
  have A1:=Nat.le_trans (List.length_filter_le (fun u=>(List.lookup u (dB r n)).isSome) r.bE) As
  have GT:(ek (fun u=>(aF (dB r n) u).Hi) (r.bE.filter fun u=>(List.lookup u (dB r n)).isSome)).length≤12:=by rw [kJ]; exact A1
  refine rS (FU U) ?_
  refine cX (zR (r.bE.filter fun u=>(List.lookup u (dB r n)).isSome) a c (Value.func (.func 43) [].toArray [(vP AB)].toArray) (fun u=>(aF (dB r n) u).Hi) (fc [(g_ iV C (bM dD (dB r n))),(cb AB 40 [(Value.map (some C))])]) (by intro C3 Di _; exact nZ (fi:=[]) (ca:=[(vP AB)]) (mm (Jl C3 Di (dB r n) C AB (by first|assumption|omega)) (bg [0,1]))) (by exact RZ Cx) (by exact A1)) (av (ag (n:=(r.bE.filter fun u=>(List.lookup u (dB r n)).isSome).length) 15 U sm)<|av (mh (bg [1,0]))<|aI) U fun Do Fd=>?_
  obtain ⟨H,J⟩:=Do
  try dsimp only
  refine bh 1 U<|RK v<|WS fun _ w=>rP 5 [] (mc 6 U mn) ?_
  refine rS (MN U)<|DU 0 U fun Ai=>?_
  simp only [List.length_map] at Ai
  refine rS (UE (((min r.gJ (((ek (fun u=>(aF (dB r n) u).Hi) (r.bE.filter fun u=>(List.lookup u (dB r n)).isSome)).length:Nat):Int))).toNat) U cw I (by first|omega|exact Nat.zero_le _|(simp; omega))) ?_
  refine jd 0 U U U U (Hx (ek (fun u=>(aF (dB r n) u).Hi) (r.bE.filter fun u=>(List.lookup u (dB r n)).isSome)) H J (((min r.gJ (((ek (fun u=>(aF (dB r n) u).Hi) (r.bE.filter fun u=>(List.lookup u (dB r n)).isSome)).length:Nat):Int))).toNat) I I) U ks U (fun IW Fm=>?_)
  try dsimp only
  refine RK w<|WS fun _ y=>rP 1 [] mn ?_
  have A:gO r (n:Int)=0:=lT he I
  have B:cj r (n:Int)=(kW (((min r.gJ (((ek (fun u=>(aF (dB r n) u).Hi) (r.bE.filter fun u=>(List.lookup u (dB r n)).isSome)).length:Nat):Int))).toNat) (ek (fun u=>(aF (dB r n) u).Hi) (r.bE.filter fun u=>(List.lookup u (dB r n)).isSome))):=by rw [qP A D]; exact (zU rfl I).symm
  rw [show (own H J 3 1 ((kW (((min r.gJ (((ek (fun u=>(aF (dB r n) u).Hi) (r.bE.filter fun u=>(List.lookup u (dB r n)).isSome)).length:Nat):Int))).toNat) (ek (fun u=>(aF (dB r n) u).Hi) (r.bE.filter fun u=>(List.lookup u (dB r n)).isSome))).map iC))=(own H J 3 1 ((cj r (n:Int)).map iC)) from by rw [qP A D]; exact congrArg (fun z=>own _ _ _ _ (List.map iC z)) (zU rfl I)]
  refine rP 2 [] mn ?_
  refine RK y<|aq ?_
  refine LX hQ (H,J) [0] [] mn U U U ?_ ?_
  ·first|rfl|(rw [A,B]; rfl)|(rw [A]; rfl)|(rw [A,B,iS]; rfl)
  ·trivial
 refine WK o<|aj fun _ M=>ax<|WS fun _ p=>?_
 obtain ⟨x,hx⟩:=aJ r.bE i I
 have C1:=bK iC hx
 refine rS (IA i U (aA 12 U) cw dc I I)<|rS (fT i 0 (vI x) U cd (aA 12 U) C1 U dc U)<|bh 1 U<|RK p<|aj fun _ q=>WS fun _ s=>fu 2 [] (mc 0 U mn) U<|rS (SX (j_ (kV:=iV) (x:=x) (l:=(dB r n)) (f:=dD) (z:=(aa.mk 0 0)) U U U k8 (db mY) rO (by exact aA 1 U)) U U)<|bh 3 U<|AL U dp fun Fn=>fX U cx U<|bh 1 U<|RK s<|WS fun _ t=>rP 2 [] mn ?_
 refine RK t<|cH U (fun E=>?_) (fun E=>?_)
 ·rw [Bool.not_eq_true'] at E
  refine bD<|ab<|ay<|KK M<|ak<|rP 2 [] mn ?_
  refine aC ?_
  rw [show ((r.bE.take i).filter fun u=>(List.lookup u (dB r n)).isSome)=((r.bE.take (i+1)).filter fun u=>(List.lookup u (dB r n)).isSome) from (GF hx E).symm]
  have AC:(vI (((i+1):Nat):Int))=(vI ((i:Int)+1)):=by exact cI I
  refine aR (L ⟨((i+1),a,c),(by first|omega|(simp only []; omega))⟩ _ _ _ U os (cK 7<|aY U AC<|du.nil _) (aH [1,2,3,4,5,6,7,8,9,10,11,12,13,14,15,16]))
 rw [Bool.not_eq_false'] at E
 refine WK q<|ak<|rP 2 [] mn ?_
 refine df (xs:=[.tmp 53]) (cs:=[(vI x)]) U cw js U U U U (by simp [Value.cells]) U U fun F5=>?_
 refine cL (es2:=(List.map iC ((r.bE.take (i+1)).filter fun u=>(List.lookup u (dB r n)).isSome))) (m':=((r.bE.take (i+1)).filter fun u=>(List.lookup u (dB r n)).isSome).length) 17 U U U o2 U U sm (bf (es:=List.map iC [x]) 0 U U (by simp [bI]) U) (jM _) (by have:=List.length_filter_le (fun u=>(List.lookup u (dB r n)).isSome) (r.bE.take i); rw [List.length_take] at this; first|omega|(simp; omega)) (by have:=List.length_filter_le (fun u=>(List.lookup u (dB r n)).isSome) (r.bE.take i); rw [List.length_take] at this; simp only [maxLen]; first|omega|(simp; omega)) (by rw [wE hx E]; simp) sm U fun A7 A9=>?_
 try dsimp only
 refine bh 1 U<|aC<|aB<|KK M<|ak<|rP 2 [] mn ?_
 refine aC ?_
 have AO:(vI (((i+1):Nat):Int))=(vI ((i:Int)+1)):=by exact cI I
 refine aR (L ⟨((i+1),A7,A9),(by first|omega|(simp only []; omega))⟩ _ _ _ U os (cK 7<|aY U AO<|du.nil _) (aH [2,3,4,5,6,7,8,9,10,11,12,13,14,15,16,17]))
end
section
open Go.RowKit
theorem Nh (l:aZ) (kA:OA) (kC:Nat) (az:List RA) (cA:OA) (cC:Nat) (bA:OA) (bC:Nat) (hin:er l az) (hng: ¬ lW l):
 ld Tryz.prog 45 [(vA (bW.cells (lh l kA kC cA cC bA bC)))] [(rd kA l.aM.length 9 (l.aM.map al.cells)),(rd cA l.ai.length 2 (List.zipWith ar.cells l.ai az)),(fc (aU ar.g4 l.ai az)),(rd bA l.ae.length 4 (l.ae.map bH.cells))] (fun (x:(OA)×Nat×(OA)×Nat×(List RA)×(OA)×Nat)=>(vA (bW.cells (bW.mk (bB.mk (bo.mk x.1 l.aM.length x.2.1)) l.gH (bo.mk x.2.2.1 l.ai.length x.2.2.2.1) (bo.mk x.2.2.2.2.2.1 l.ae.length x.2.2.2.2.2.2) l.cr l.eh l.cO)))) (fun (x:(OA)×Nat×(OA)×Nat×(List RA)×(OA)×Nat)=>x.2.2.2.2.1.length=l.ai.length∧oj l.ai x.2.2.2.2.1) (fun (x:(OA)×Nat×(OA)×Nat×(List RA)×(OA)×Nat)=>[(own x.1 x.2.1 153 9 (l.aM.map al.cells)),(own x.2.2.1 x.2.2.2.1 53 2 (List.zipWith ar.cells l.ai x.2.2.2.2.1)),(bw (aU ar.owns l.ai x.2.2.2.2.1)),(own x.2.2.2.2.2.1 x.2.2.2.2.2.2 160 4 (l.ae.map bH.cells))]):=by
 have v:=hin.sQ
 have u:=hin.sr
 have G:=hin.od
 have t:=hin.sj
 have Z:=Cy hng
 refine dg Vz Tryz.func45 U U fun w0 Q hQ hN=>?_
 try dsimp only
 refine WS fun _ p=>fQ U fun b2=>AL U Ut fun b3=>RK p<|WS fun _ q=>rP 1 [] mn ?_
 refine rS (LP (bB.cells (bB.mk (bo.mk kA l.aM.length kC))) 1 U Uc U U U) ?_
 refine cX (QA l.aM kA kC sd) (bg [2]) U fun y w=>?_
 obtain ⟨c,d⟩:=y
 try dsimp only
 refine bh 1 U<|VB (bW.cells (bW.mk (bB.mk (bo.mk c l.aM.length d)) l.gH (bo.mk cA l.ai.length cC) (bo.mk bA l.ae.length bC) l.cr l.eh l.cO)) U SV U U<|RK q<|WS fun _ r=>lJ U vD U fun e=>rP 2 [] (mc 3 U mn) ?_
 refine cW (es:=(List.map dq.cells [])) (C':=[own (some ⟨e,0,none⟩) 0 53 2 (List.map dq.cells []),_,_,_,_,_,_,_]) 0 U sm U (by simp [maxLen]) U ?_
 refine cL (es2:=(List.zipWith ar.cells l.ai az)) (m':=l.ai.length) 0 U U U RH U U sm (aA 5 U) (x8 _ _) os (by first|(simp only [maxLen]; omega)|(simp [maxLen]; omega)) sm (fG G) U fun B D=>?_
 try dsimp only
 refine bh 1 U<|Qm (bW.cells (bW.mk (bB.mk (bo.mk c l.aM.length d)) l.gH (bo.mk B l.ai.length D) (bo.mk bA l.ae.length bC) l.cr l.eh l.cO)) U Sk U U<|RK r<|aj fun _ N=>WS fun _ O=>rP 1 [] mn ?_
 refine RK O<|ax<|lX ?_
 have H:(0≤l.ai.length)∧(([]:List RA).length=0)∧(oj l.ai ([]:List RA)):=by exact ⟨Nat.zero_le _,rfl,fun k m a _ h=>by simp at h⟩
 refine bL (ι:={z:Nat×(List RA) // (z.1≤l.ai.length)∧(z.2.length=z.1)∧(oj l.ai z.2)}) [1,2] [2,3,4,5,6,7,8] U U (fun z=>[(3,(vI (z.1.1:Int)))]) (fun z=>[(bw (aU ar.owns (l.ai.take z.1.1) z.1.2)),(own B D 53 2 (List.zipWith ar.cells l.ai (rQ z.1.2 az z.1.1)))]) (fun _=>rfl) (fun _=>rfl) (fun z=>l.ai.length-z.1.1) ⟨(0,([]:List RA)),H⟩ (aV U) (aH [2,3,4,5,6,7,8,0,1]) ?_
 clear H
 rintro ⟨⟨i,bz⟩,⟨AB,A,F⟩⟩ J15 M
 try dsimp only at AB A F
 try dsimp only
 refine aj fun _ P=>WS fun _ R=>rP 5 [] (mc 2 U mn) ?_
 refine RK R<|bQ U (aO fun j=>?_) (aN fun j=>?_)
 ·refine bD<|ab<|ab<|ay<|KK N<|WS fun _ T=>lJ U uG U fun g=>?_
  rw [show rQ bz az i=bz from Je I]
  rw [show l.ai.take i=l.ai from List.take_of_length_le I]
  refine rP 2 [] (mc 3 U mn) ?_
  refine cW (es:=(List.map bH.cells [])) (C':=[own (some ⟨g,0,none⟩) 0 160 4 (List.map bH.cells []),_,_,_,_,_,_,_,_,_]) 0 U sm U (by simp [maxLen]) U ?_
  refine cL (es2:=(List.map bH.cells l.ae)) (m':=l.ae.length) 0 U U U To U U sm (aA 7 U) (qd _) os (by first|(simp only [maxLen]; omega)|(simp [maxLen]; omega)) sm sm U fun K L=>?_
  try dsimp only
  refine bh 1 U<|Qm (bW.cells (bW.mk (bB.mk (bo.mk c l.aM.length d)) l.gH (bo.mk B l.ai.length D) (bo.mk K l.ae.length L) l.cr l.eh l.cO)) U Tj U U<|RK T<|WS fun _ AA=>rP 1 [] (mc 3 U mn) ?_
  refine GG U Rg U<|RK AA<|aq ?_
  refine LX hQ (c,d,B,D,bz,K,L) [1,9,8,0] [0] (mc 2 U mn) U (by simp only [fw,List.all_nil,fI,Bool.and_true]; rfl) U U ?_
  exact ⟨dso,F⟩
 refine WK P<|aj fun _ S=>ax<|dF cE [3,10,13] [6,7,8,9,10] [0,1] [0,1,2,3,4,5,6,7] [0,1,2,3,4,5,6,7,8] U U U U U<|eS U (FA 2 U Jw U)<|eS U (L1 (vS B l.ai.length D) 2 U Qc U U)<|eS U (MV U)<|eS U (FA 2 U Jw U)<|eS U (L1 (vS B l.ai.length D) 2 U Qc U U)<|eS U (MV U) ?_
 obtain ⟨x,hx⟩:=aJ l.ai i I
 obtain ⟨xa,J⟩:=aJ az i I
 have b:(List.zipWith ar.cells l.ai (rQ bz az i))[i]? =some (ar.cells x xa):=dG hx (Gf A J)
 refine fS U (IA i U (ag (n:=l.ai.length) 8 U (fG (by rw [qM A I]; exact G))) vD dc I I) ?_
 refine fS U (mW ((i*2)+1) U (ag (n:=l.ai.length) 8 U (fG (by rw [qM A I]; exact G))) (Nat.mul_pos I dc) Mp U) ?_
 refine fS U (fT i 1 (vS xa.1 x.bq.length xa.2) U Um (ag (n:=l.ai.length) 8 U (fG (by rw [qM A I]; exact G))) b U dc U) ?_
 refine fS U (IA i U (ag (n:=l.ai.length) 8 U (fG (by rw [qM A I]; exact G))) vD dc I I) ?_
 refine fS U (mW ((i*2)+1) U (ag (n:=l.ai.length) 8 U (fG (by rw [qM A I]; exact G))) (Nat.mul_pos I dc) Mp U) ?_
 refine eT U<|gM U fun T20 V=>lJ U vJ U fun f=>aC (V _ _ (aH [1,2,3,4,5,6,7,8]) (aH [1,2,3,4,5,6,7,8,9]) ?_)
 refine gM U fun T22 W=>cW (es:=(List.map cz.cells [])) (C':=[own (some ⟨f,0,none⟩) 0 55 3 (List.map cz.cells []),_,_,_,_,_,_,_,_,_]) 0 U sm U (by simp [maxLen]) U ?_
 refine cL (es2:=(List.map cz.cells x.bq)) (m':=x.bq.length) 0 U U U SY U U sm (show jc _ (rd xa.1 x.bq.length 3 (x.bq.map cz.cells)).holds from (dk 6 U (bV hx J (by simp [ar.g4])))) (pZ _) (by have:=Z.2.2.2 x (aT hx); simp; omega) (by have:=Z.2.2.2 x (aT hx); simp only [maxLen]; simp; omega) sm sm U fun C E=>?_
 try dsimp only
 refine SF 0 U fun s=>aC (W _ _ (aH [1,2,3,4,5,6,7,8]) (aH [1,2,3,4,5,6,7,8,9]) ?_)
 refine cf U fun T25 X=>dM (k:=i) (o:=1) (vs:=[(vS C x.bq.length E)]) (es':=(List.zipWith ar.cells l.ai (rQ (bz++[(C,E)]) az (i+1)))) (C':=[_,_,_,_,_,_,_,_,_,(own B D 53 2 (List.zipWith ar.cells l.ai (rQ (bz++[(C,E)]) az (i+1))))]) 9 U U U S3 U U U U b U dc (by exact OU (nw:=(C,E)) hx A J) U<|aC (X _ _ (aH [1,2,3,4,5,6,7,8]) ?_)
 refine fF U<|aB<|KK S<|ak<|rP 3 [] mn ?_
 refine aC<|zk (X':=aU ar.owns (l.ai.take (i+1)) (bz++[(C,E)])) 8 0 U U (Hp (nw:=(C,E)) hx A) ?_
 have Y:(vI (((i+1):Nat):Int))=(vI ((i:Int)+1)):=by exact cI I
 refine aR (M ⟨((i+1),(bz++[(C,E)])),⟨I,by simp; omega,CK F A hx (by simpa using s)⟩⟩ _ _ _ U os (du.cons U<|du.cons U<|aY U Y<|du.nil _) (aH [1,2,3,4,5,6,7,0,8]))
end
section
structure Ex (w w':bR):Prop where
 start:w'.Start=w.Start
 now:w.gk≤w'.gk
 n:w'.n=w.n
 least: ∀ b,bU w' b≤bU w b
 times:w'.vu=w.vu
 P_:w.cO≤w'.cO
 TV:w.eh≤w'.eh
 sigs:w'.Qn=w.Qn
variable {w w':bR}
theorem Ex.opt (h:Ex w w') {b:Nat} {o:Int×aa} (ho:o∈iF w b): ∃ o'∈iF w' b,o'.1=o.1∧o'.2.Lo≤o.2.Lo∧o.2.Hi≤o'.2.Hi:=by
 unfold iF at ho
 rcases bx.1 ho with rfl|ho
 ·exact ⟨(-1,⟨w'.Start,w'.gk⟩),cm ..,U,by simp only [h.start]; omega,h.now⟩
 ·refine ⟨o,cV _ ?_,U,Int.le_refl _,Int.le_refl _⟩
  unfold ud at ho ⊢; rw [h.times]; exact ho
theorem Ex.may (h:Ex w w') {t:aD} (ht:kG w t=true):kG w' t=true:=by
 unfold kG at ht ⊢
 have:=of_decide_eq_true ht
 have A:=h.P_
 have B:=h.TV
 have C:=h.sigs
 exact fR I
theorem Ex.fwd (h:Ex w w'): ∀ (b:Nat) (p:aD×Int),p∈fwd w b→ ∃ p'∈Go.Proofs.YtlajhejcfcoddaaGreatDoor.fwd w' b,p'.1=p.1∧p'.2≤p.2:=by
 intro b
 induction b with
 |zero=>
  intro p hp
  simp only [Go.Proofs.YtlajhejcfcoddaaGreatDoor.fwd,bJ] at hp ⊢
  subst hp
  exact ⟨_,U,U,by simp only [h.start]; omega⟩
 |succ b ih=>
  intro q hq
  obtain ⟨p,hp,o,ho,e⟩:=fU.1 hq
  obtain ⟨p',hp',A,D⟩:=ih p hp
  obtain ⟨o',ho',B,E,F⟩:=h.opt ho
  have hl:=h.least b
  have hn:=h.now
  unfold kT at e
  split at e
  ·rename_i C
   simp only [Option.some.injEq] at e
   subst e
   refine ⟨(dy p'.1 (fr o'.1),max (p'.2+bU w' b) o'.2.Lo),fU.2 ⟨p',hp',o',ho',by unfold kT; rw [if_pos I]⟩,by simp only [A,B],by simp only; omega⟩
  ·cases e
theorem Ex.bwd (h:Ex w w'): ∀ (k:Nat) (p:aD×Int),p∈bwd w k→ ∃ p'∈Go.Proofs.YtlajhejcfcoddaaGreatDoor.bwd w' k,p'.1=p.1∧p.2≤p'.2:=by
 intro k
 induction k with
 |zero=>
  intro p hp
  simp only [Go.Proofs.YtlajhejcfcoddaaGreatDoor.bwd,bJ] at hp ⊢
  subst hp
  exact ⟨_,U,U,h.now⟩
 |succ k ih=>
  intro q hq
  simp only [Go.Proofs.YtlajhejcfcoddaaGreatDoor.bwd,bx,List.mem_flatMap,List.mem_filterMap] at hq ⊢
  rcases hq with rfl|⟨p,hp,o,ho,e⟩
  ·exact ⟨_,.inl U,U,h.now⟩
  ·obtain ⟨p',hp',A,D⟩:=ih p hp
   obtain ⟨o',ho',B,E,F⟩:=h.opt ho
   have hl:=h.least (w.n-(k+1))
   rw [h.n]
   unfold oc at e
   split at e
   ·rename_i C
    simp only [Option.some.injEq] at e
    subst e
    exact ⟨(dy p'.1 (fr o'.1),min p'.2 o'.2.Hi-bU w' (w.n-(k+1))),.inr ⟨p',hp',o',ho',by unfold oc; rw [if_pos I]⟩,by simp only [A,B],by simp only; omega⟩
   ·cases e
theorem Ex.back (h:Ex w w') {b:Nat} {p:aD×Int} (hp:p∈back w b): ∃ p'∈Go.Proofs.YtlajhejcfcoddaaGreatDoor.back w' b,p'.1=p.1∧p.2≤p'.2:=by
 unfold Go.Proofs.YtlajhejcfcoddaaGreatDoor.back at hp ⊢
 rw [h.n]
 exact h.bwd _ p hp
theorem Ex.pass (h:Ex w w') {b:Nat} {q:Int×aa} (hq:q∈mD w b): ∃ q'∈mD w' b,q'.1=q.1∧q'.2.Lo≤q.2.Lo∧q.2.Hi≤q'.2.Hi:=by
 obtain ⟨o,ho,p,hp,u,hu,e⟩:=ij.1 hq
 obtain ⟨D,E,rfl⟩:=jw.1 e
 obtain ⟨o',ho',A,F,G⟩:=h.opt ho
 obtain ⟨p',hp',B,H⟩:=h.fwd _ p hp
 obtain ⟨u',hu',C,AA⟩:=h.back hu
 have hl:=h.least b
 simp only [jF] at D
 refine ⟨(o'.1,jF w' b p' u' o'),ij.2 ⟨o',ho',p',hp',u',hu',jw.2 ⟨?_,?_,U⟩⟩,A,?_,?_⟩
 ·simp only [jF]; omega
 ·have:=h.may E
  unfold wU at this ⊢
  rw [A,B,C]; exact this
 ·simp only [jF]; omega
 ·simp only [jF]; omega
theorem o0 {k:Int}:k∈jP w↔ ∃ i:Nat,k=(i:Int)∧i≤w.n∧jB w (fwd w i)=true:=by
 unfold jP ku
 simp only [bX,List.mem_filter,List.mem_range]
 constructor
 ·rintro ⟨i,⟨B,A⟩,rfl⟩; exact ⟨i,rfl,I,A⟩
 ·rintro ⟨i,rfl,B,A⟩; exact ⟨i,⟨I,A⟩,rfl⟩
theorem Ex.Hb (h:Ex w w') {k:Int} (hk:k∈jP w):k∈jP w':=by
 obtain ⟨i,rfl,C,A⟩:=o0.1 hk
 refine o0.2 ⟨i,U,by rw [h.n]; exact C,?_⟩
 unfold jB at A ⊢
 obtain ⟨p,hp,D⟩:=List.any_eq_true.1 A
 obtain ⟨p',hp',B,_⟩:=h.fwd _ p hp
 exact List.any_eq_true.2 ⟨p',hp',by rw [B]; exact h.may D⟩
/-- two rides, of two lines, of which one allows more -/
structure UA (l:aZ) (r:cJ) (l':aZ) (r':cJ):Prop where
 line:dC l=0
 line':dC l'=0
 yz:fm l r
 ride':fm l' r'
 w:Ex (cu l r) (cu l' r')
 Pt:l'.ae.length=l.ae.length
variable {l l':aZ} {r r':cJ}
theorem UA.ok (h:UA l r l' r') (he:eJ l r 0=0):eJ l' r' 0=0:=by
 refine l7 h.line' h.ride' U fun e=>?_
 obtain ⟨k,hk⟩:=List.exists_mem_of_ne_nil _ (kb he).2.2.2
 have:=h.w.Hb hk
 rw [e] at this; cases this
theorem UA.As (h:UA l r l' r') {k:Int} (hk:k∈lv l r):k∈lv l' r':=by
 by_cases he:eJ l r 0=0
 ·rw [lY he] at hk
  rw [lY (h.ok he)]
  exact h.w.Hb hk
 ·rw [uJ he] at hk; cases hk
theorem Hl {b:Nat} (hb:b<l.ae.length):eJ l r (jO l b)=eJ l r 0:=by rw [wS I]
theorem zn {b:Nat}:bU (cu l r) b=if b<l.ae.length then ej l b else 0:=by
 unfold bU cu cQ
 split
 ·rename_i h
  simp [h]
 ·rename_i h
  simp [h]
theorem G2 {sg:List aK} {i:Nat} (h:i=0):mU sg i=⟨-1,0⟩:=by subst h; rfl
theorem q9 {sg:List aK} {i:Nat} {y:aK} (h:0<i) (hy:sg[i-1]? =some y):mU sg i=y:=by unfold mU; rw [if_neg I,hy]; rfl
def Q5 (l:aZ):Prop:= ¬ lW l∧dC l=0
noncomputable instance (l:aZ):Decidable (Q5 l):=Classical.propDecidable _
end
section
open Go.RowKit
theorem Oe (r:cJ) (sgA:OA) (sgC:Nat) (hsl:r.ah.length≤1000000):
 ld Tryz.prog 46 [(vA (dY.cells (lQ r sgA sgC)))] [(rd sgA r.ah.length 2 (r.ah.map aK.cells))] (fun (x:(OA)×Nat)=>(vA (dY.cells (dY.mk r.Start r.gk (bo.mk x.1 r.ah.length x.2))))) (fun (x:(OA)×Nat)=>True) (fun (x:(OA)×Nat)=>[(own x.1 x.2 107 2 (r.ah.map aK.cells))]):=by
 refine dg kr Tryz.func46 U U fun AA Q hQ hN=>?_
 try dsimp only
 refine WS fun _ A=>fQ U fun G=>AL U Uj fun H=>RK A<|WS fun _ B=>lJ U ym U fun F=>rP 2 [] (mc 2 U mn) ?_
 refine cW (es:=(List.map aK.cells [])) (C':=[own (some ⟨F,0,none⟩) 0 107 2 (List.map aK.cells []),_,_,_]) 0 U sm U (by simp [maxLen]) U ?_
 refine cL (es2:=(List.map aK.cells r.ah)) (m':=r.ah.length) 0 U U U RY U U sm (aA 3 U) (oD _) os (by first|(simp only [maxLen]; omega)|(simp [maxLen]; omega)) sm sm U fun D E=>?_
 try dsimp only
 refine bh 1 U<|VB (dY.cells (lQ r D E)) U SU U U<|RK B<|WS fun _ C=>rP 1 [] (mc 2 U mn) ?_
 refine sT U Rl U<|RK C<|aq<|LX hQ (D,E) [0] [0] (mc 1 U mn) U U U U ?_
 trivial
end
section
open Go.RowKit
theorem E6 (r:bT) (kA:OA) (kC:Nat) (az:List RA) (cA:OA) (cC:Nat) (bA:OA) (bC:Nat) (slA:OA) (slC:Nat) (drA:OA) (drC:Nat) (ha:List cy) (heA:OA) (heC:Nat) (hin:eO r az ha) (hng: ¬ nX r):
 ld Tryz.prog 11 [(vA (cp.cells (oQ r kA kC cA cC bA bC slA slC drA drC heA heC)))] [(rd kA r.ao.aM.length 9 (r.ao.aM.map al.cells)),(rd cA r.ao.ai.length 2 (List.zipWith ar.cells r.ao.ai az)),(fc (aU ar.g4 r.ao.ai az)),(rd bA r.ao.ae.length 4 (r.ao.ae.map bH.cells)),(rd slA r.aL.length 1 (r.aL.map iC)),(rd drA r.bE.length 1 (r.bE.map iC)),(rd heA r.an.length 1 (List.zipWith ct r.an ha)),(fc (aU iw r.an ha))] (fun (x:(OA)×Nat×(OA)×Nat×(List RA)×(OA)×Nat×(OA)×Nat×(OA)×Nat×(OA)×Nat×(List cy))=>(vA (cp.cells (cp.mk (bW.mk (bB.mk (bo.mk x.1 r.ao.aM.length x.2.1)) r.ao.gH (bo.mk x.2.2.1 r.ao.ai.length x.2.2.2.1) (bo.mk x.2.2.2.2.2.1 r.ao.ae.length x.2.2.2.2.2.2.1) r.ao.cr r.ao.eh r.ao.cO) (bo.mk x.2.2.2.2.2.2.2.1 r.aL.length x.2.2.2.2.2.2.2.2.1) (bo.mk x.2.2.2.2.2.2.2.2.2.1 r.bE.length x.2.2.2.2.2.2.2.2.2.2.1) r.gJ (bo.mk x.2.2.2.2.2.2.2.2.2.2.2.1 r.an.length x.2.2.2.2.2.2.2.2.2.2.2.2.1))))) (fun (x:(OA)×Nat×(OA)×Nat×(List RA)×(OA)×Nat×(OA)×Nat×(OA)×Nat×(OA)×Nat×(List cy))=>(x.2.2.2.2.1.length=r.ao.ai.length∧oj r.ao.ai x.2.2.2.2.1)∧qh r.an x.2.2.2.2.2.2.2.2.2.2.2.2.2) (fun (x:(OA)×Nat×(OA)×Nat×(List RA)×(OA)×Nat×(OA)×Nat×(OA)×Nat×(OA)×Nat×(List cy))=>[(own x.1 x.2.1 153 9 (r.ao.aM.map al.cells)),(own x.2.2.1 x.2.2.2.1 53 2 (List.zipWith ar.cells r.ao.ai x.2.2.2.2.1)),(bw (aU ar.owns r.ao.ai x.2.2.2.2.1)),(own x.2.2.2.2.2.1 x.2.2.2.2.2.2.1 160 4 (r.ao.ae.map bH.cells)),(own x.2.2.2.2.2.2.2.1 x.2.2.2.2.2.2.2.2.1 3 1 (r.aL.map iC)),(own x.2.2.2.2.2.2.2.2.2.1 x.2.2.2.2.2.2.2.2.2.2.1 3 1 (r.bE.map iC)),(own x.2.2.2.2.2.2.2.2.2.2.2.1 x.2.2.2.2.2.2.2.2.2.2.2.2.1 56 1 (List.zipWith ct r.an x.2.2.2.2.2.2.2.2.2.2.2.2.2)),(bw (aU im r.an x.2.2.2.2.2.2.2.2.2.2.2.2.2))]):=by
 have p:=hin.line
 have IR:=hin.iH
 have G:=hin.has
 have Hi:=hin.iI
 have GT:=hin.draw
 have H1:=dE (r:=r)
 have Cx:=F4 hng
 refine dg kr Tryz.func11 U U fun w0 Q hQ hN=>?_
 try dsimp only
 refine WS fun _ EQ=>fQ U fun b2=>AL U yp fun b3=>RK EQ<|WS fun _ Eq=>rP 1 [] mn ?_
 refine rS (LP (bW.cells (lh r.ao kA kC cA cC bA bC)) 1 U cd U U U)<|cX (Nh r.ao kA kC az cA cC bA bC (by exact p) (by exact Cx.1)) (bg [2,3,4,5]) U fun y5 F5=>?_
 obtain ⟨T,V,AA,L,s,K,N⟩:=y5
 try dsimp only
 obtain ⟨FS,Fd⟩:=F5
 refine bh 1 U<|V9 (cp.cells (cp.mk (bW.mk (bB.mk (bo.mk T r.ao.aM.length V)) r.ao.gH (bo.mk AA r.ao.ai.length L) (bo.mk K r.ao.ae.length N) r.ao.cr r.ao.eh r.ao.cO) (bo.mk slA r.aL.length slC) (bo.mk drA r.bE.length drC) r.gJ (bo.mk heA r.an.length heC))) U Rg U U<|RK Eq<|WS fun _ v=>lJ U cw U fun C2=>rP 2 [] (mc 6 U mn) ?_
 refine cW (es:=(List.map iC [])) (C':=[own (some ⟨C2,0,none⟩) 0 3 1 (List.map iC []),_,_,_,_,_,_,_,_,_,_,_,_,_,_]) 0 U sm U (by simp [maxLen]) U ?_
 refine cL (es2:=(List.map iC r.aL)) (m':=r.aL.length) 0 U U U o2 U U sm (aA 11 U) (jM _) (by simp; omega) (by simp only [maxLen]; simp; omega) sm sm U fun X Y=>?_
 try dsimp only
 refine bh 1 U<|UG (cp.cells (cp.mk (bW.mk (bB.mk (bo.mk T r.ao.aM.length V)) r.ao.gH (bo.mk AA r.ao.ai.length L) (bo.mk K r.ao.ae.length N) r.ao.cr r.ao.eh r.ao.cO) (bo.mk X r.aL.length Y) (bo.mk drA r.bE.length drC) r.gJ (bo.mk heA r.an.length heC))) U xn U U<|RK v<|WS fun _ w=>lJ U cw U fun C3=>rP 2 [] (mc 7 U mn) ?_
 refine cW (es:=(List.map iC [])) (C':=[own (some ⟨C3,0,none⟩) 0 3 1 (List.map iC []),_,_,_,_,_,_,_,_,_,_,_,_,_,_,_]) 0 U sm U (by simp [maxLen]) U ?_
 refine cL (es2:=(List.map iC r.bE)) (m':=r.bE.length) 0 U U U o2 U U sm (aA 13 U) (jM _) (by simp; omega) (by simp only [maxLen]; simp; omega) sm sm U fun g j=>?_
 try dsimp only
 refine bh 1 U<|Wi (cp.cells (cp.mk (bW.mk (bB.mk (bo.mk T r.ao.aM.length V)) r.ao.gH (bo.mk AA r.ao.ai.length L) (bo.mk K r.ao.ae.length N) r.ao.cr r.ao.eh r.ao.cO) (bo.mk X r.aL.length Y) (bo.mk g r.bE.length j) r.gJ (bo.mk heA r.an.length heC))) U xn U U<|RK w<|WS fun _ AC=>lJ U nA U fun Di=>rP 2 [] (mc 8 U mn) ?_
 refine cW (es:=(List.map sC [])) (C':=[own (some ⟨Di,0,none⟩) 0 56 1 (List.map sC []),_,_,_,_,_,_,_,_,_,_,_,_,_,_,_,_]) 0 U sm U (by simp [maxLen]) U ?_
 refine cL (es2:=(List.zipWith ct r.an ha)) (m':=r.an.length) 0 U U U Sn U U sm (aA 15 U) (zV _ _) (by simp; omega) (by simp only [maxLen]; simp; omega) sm (dx G) U fun J M=>?_
 try dsimp only
 refine bh 1 U<|Wb (cp.cells (cp.mk (bW.mk (bB.mk (bo.mk T r.ao.aM.length V)) r.ao.gH (bo.mk AA r.ao.ai.length L) (bo.mk K r.ao.ae.length N) r.ao.cr r.ao.eh r.ao.cO) (bo.mk X r.aL.length Y) (bo.mk g r.bE.length j) r.gJ (bo.mk J r.an.length M))) U Qt U U<|RK AC<|aj fun _ AO=>WS fun _ Ai=>rP 1 [] mn ?_
 refine RK Ai<|ax<|lX ?_
 have F:(0≤r.an.length)∧(([]:List cy).length=0)∧(∀ (k:Nat) y (a:cy),r.an[k]? =some y→([]:List cy)[k]? =some a→a.2.length=y.length):=by exact ⟨Nat.zero_le _,rfl,fun k y a _ q=>by simp at q⟩
 refine bL (ι:={z:Nat×(List cy) // (z.1≤r.an.length)∧(z.2.length=z.1)∧(∀ (k:Nat) y (a:cy),r.an[k]? =some y→z.2[k]? =some a→a.2.length=y.length)}) [1,2] [2,3,4,5,6,7,8,9,10,11,12,13,14,15,16,17] U U (fun z=>[(3,(vI (z.1.1:Int)))]) (fun z=>[(bw (aU im (r.an.take z.1.1) z.1.2)),(own J M 56 1 (List.zipWith ct r.an (iY z.1.2 ha z.1.1)))]) (fun _=>rfl) (fun _=>rfl) (fun z=>r.an.length-z.1.1) ⟨(0,([]:List cy)),F⟩ (aV U) (aH [2,3,4,5,6,7,8,9,10,11,12,13,14,15,16,17,0,1]) ?_
 clear F
 rintro ⟨⟨h,hz⟩,⟨m,B,S⟩⟩ J28 t
 try dsimp only at m B S
 try dsimp only
 refine aj fun _ As=>WS fun _ A0=>rP 5 [] (mc 7 U mn) ?_
 refine RK A0<|bQ U (aO fun Do=>?_) (aN fun Do=>?_)
 ·refine bD<|ab<|ab<|ay<|KK AO<|aj fun _ A7=>?_
  have Fm:qh r.an hz:=⟨I,S⟩
  rw [show (iY hz ha h)=hz from qY I,show r.an.take h=r.an from List.take_of_length_le I]
  refine ak<|rP 1 [] (mc 7 U mn) ?_
  refine OH U rM U<|RK A7<|aq ?_
  refine LX hQ (T,V,AA,L,s,K,N,X,Y,g,j,J,M,hz) [2,3,4,5,1,0,17,16] [0] (mc 6 U mn) U (by show List.all _ _=true; simp only [fw,List.all_nil,fI,jU,Bool.and_true]; rfl) U U ?_
  exact ⟨⟨FS,Fd⟩,Fm⟩
 refine WK As<|aj fun _ A1=>ax<|aj fun _ A2=>dF cE [3,9,11] [6,7,8] [0,1] [0,1,2,3,4,5,6,7,8,9,10,11,12,13,14,15,16] [0,1,2,3,4,5,6,7,8,9,10,11,12,13,14,15,16,17] U U U U U<|eS U (FA 10 U fp U)<|eS U (L1 (vS J r.an.length M) 7 U cd U U)<|eS U (MV U)<|eS U (FA 10 U fp U)<|eS U (L1 (vS J r.an.length M) 7 U cd U U)<|eS U (MV U) ?_
 obtain ⟨ht,AB⟩:=aJ r.an h I
 obtain ⟨C,O⟩:=aJ ha h I
 have e:(List.zipWith ct r.an (iY hz ha h))[h]? =some (ct ht C):=dG AB (ti B O)
 have C0:=hin.nN _ _ _ AB O
 have H:=C0.od
 have C1:=Cx.2.2.2.2 ht (aT AB)
 refine fS U (IA h U (ag (n:=r.an.length) 17 U (dx (by rw [eH B I]; exact G))) nA dc I I) ?_
 refine fS U (fT h 0 (vS C.1.1 ht.length C.1.2) U cd (ag (n:=r.an.length) 17 U (dx (by rw [eH B I]; exact G))) e U dc U) ?_
 refine fS U (IA h U (ag (n:=r.an.length) 17 U (dx (by rw [eH B I]; exact G))) nA dc I I) ?_
 refine eT U<|gM U fun T34 A8=>lJ U ug U fun Dk=>aC (A8 _ _ (aH [1,2,3,4,5,6,7,8,9,10,11,12,13,14,15,16,17]) (aH [1,2,3,4,5,6,7,8,9,10,11,12,13,14,15,16,17,18]) ?_)
 refine gM U fun T36 A9=>cW (es:=(List.map bp.cells [])) (C':=[own (some ⟨Dk,0,none⟩) 0 62 7 (List.map bp.cells []),_,_,_,_,_,_,_,_,_,_,_,_,_,_,_,_,_,_]) 0 U sm U (by simp [maxLen]) U ?_
 refine cL (es2:=(List.zipWith aw.cells ht C.2)) (m':=ht.length) 0 U U U SH U U sm (show jc _ (rd C.1.1 ht.length 7 (List.zipWith aw.cells ht C.2)).holds from (dk 16 U (bV AB O cm))) (Gp _ _) (by simp; omega) (by simp only [maxLen]; simp; omega) sm (jZ H) U fun D E=>?_
 try dsimp only
 refine aC (A9 _ _ (aH [1,2,3,4,5,6,7,8,9,10,11,12,13,14,15,16,17]) (aH [1,2,3,4,5,6,7,8,9,10,11,12,13,14,15,16,17,18]) ?_)
 refine cf U fun T39 B3=>dM (k:=h) (o:=0) (vs:=[(vS D ht.length E)]) (es':=(List.zipWith ct r.an (iY (hz++[((D,E),C.2)]) ha (h+1)))) (C':=[_,_,_,_,_,_,_,_,_,_,_,_,_,_,_,_,_,_,(own J M 56 1 (List.zipWith ct r.an (iY (hz++[((D,E),C.2)]) ha (h+1))))]) 18 U U U RT U U U U e U dc (by exact qA (b:=((D,E),C.2)) AB B O) U<|aC (B3 _ _ (aH [1,2,3,4,5,6,7,8,9,10,11,12,13,14,15,16,17]) ?_)
 refine fF U<|KK A2<|WS fun _ A3=>rP 1 [] mn ?_
 refine RK A3<|ax<|lX ?_
 have F:(0≤ht.length)∧(([]:List RA).length=0):=by exact ⟨Nat.zero_le _,rfl⟩
 refine bL (ι:={z:Nat×(List RA) // (z.1≤ht.length)∧(z.2.length=z.1)}) [1,2,3] [2,3,4,5,6,7,8,9,10,11,12,13,14,15,16,17,18,19] U U (fun z=>[(4,(vI (z.1.1:Int)))]) (fun z=>[(bw (aU ni (ht.take z.1.1) z.1.2)),(own D E 62 7 (List.zipWith aw.cells ht (iY z.1.2 C.2 z.1.1)))]) (fun _=>rfl) (fun _=>rfl) (fun z=>ht.length-z.1.1) ⟨(0,([]:List RA)),F⟩ (aV U) (aH [2,3,4,5,6,7,8,9,10,11,12,13,14,15,16,17,18,19,0,1]) ?_
 clear F
 rintro ⟨⟨i,dz⟩,⟨Z,A⟩⟩ J41 u
 try dsimp only at Z A
 try dsimp only
 refine aj fun _ A4=>WS fun _ A5=>rP 4 [] (mc 7 U mn) ?_
 have W:(List.zipWith ct r.an (iY (hz++[((D,E),C.2)]) ha (h+1)))[h]? =some (ct ht ((D,E),C.2)):=dG AB (By B)
 refine rS (IA h U (ag (n:=r.an.length) 17 U (dx (by rw [eH (by simp; omega) I]; exact G))) nA dc I I) ?_
 refine rS (fT h 0 (vS D ht.length E) U cd (ag (n:=r.an.length) 17 U (dx (by rw [eH (by simp; omega) I]; exact G))) W U dc U) ?_
 refine rP 2 [] mn ?_
 refine RK A5<|bQ U (aO fun Dz=>?_) (aN fun Dz=>?_)
 ·refine bD<|ab<|ab<|ay<|aB<|KK A1<|ak<|rP 3 [] mn ?_
  refine aC ?_
  have Go:dz.length=ht.length:=by omega
  rw [show (iY dz C.2 i)=dz from qY I,show ht.take i=ht from List.take_of_length_le I]
  refine My (Z':=aU im (r.an.take (h+1)) (hz++[((D,E),dz)])) 16 18 19 U U (nJ (f:=im) (b:=((D,E),dz)) AB B) ?_
  rw [BF (y:=dz)]
  have Ck:(vI (((h+1):Nat):Int))=(vI ((h:Int)+1)):=by exact cI I
  refine aR (t ⟨((h+1),(hz++[((D,E),dz)])),⟨I,by simp; omega,Gr AB S B dso⟩⟩ _ _ _ U os (du.cons U<|du.cons U<|aY U Ck<|du.nil _) (aH [1,2,3,4,5,6,7,8,9,10,11,12,13,14,15,16,0,17]))
 refine WK A4<|aj fun _ A6=>ax<|dF cE [15,18] [12,13,14,15,16] [0] [0,1,2,3,4,5,6,7,8,9,10,11,12,13,14,15,16,17,18] [0,1,2,3,4,5,6,7,8,9,10,11,12,13,14,15,16,17,18,19] U U U U U<|eS U (FA 10 U fp U)<|eS U (L1 (vS J r.an.length M) 7 U cd U U)<|eS U (MV U) ?_
 refine eS U (IA h U (ag (n:=r.an.length) 17 U (dx (by rw [eH (by simp; omega) I]; exact G))) nA dc I I) ?_
 refine eS U (fT h 0 (vS D ht.length E) U cd (ag (n:=r.an.length) 17 U (dx (by rw [eH (by simp; omega) I]; exact G))) W U dc U) ?_
 refine eS U (MV U)<|eS U (FA 10 U fp U)<|eS U (L1 (vS J r.an.length M) 7 U cd U U)<|eS U (MV U) ?_
 refine eS U (IA h U (ag (n:=r.an.length) 17 U (dx (by rw [eH (by simp; omega) I]; exact G))) nA dc I I) ?_
 refine eS U (fT h 0 (vS D ht.length E) U cd (ag (n:=r.an.length) 17 U (dx (by rw [eH (by simp; omega) I]; exact G))) W U dc U) ?_
 refine eS U (MV U) ?_
 obtain ⟨d,hd⟩:=aJ ht i I
 obtain ⟨da,l⟩:=aJ C.2 i I
 have Cp:(List.zipWith aw.cells ht (iY dz C.2 i))[i]? =some (aw.cells d da):=dG hd (ti A l)
 have Fn:=C0.sig d (aT hd)
 have Hb:=C1.2 d (aT hd)
 refine fS U (IA i U (ag (n:=ht.length) 19 U (jZ (by rw [eH A I]; exact H))) ug dc I I) ?_
 refine fS U (mW ((i*7)+4) U (ag (n:=ht.length) 19 U (jZ (by rw [eH A I]; exact H))) (Nat.mul_pos I dc) fp U) ?_
 refine fS U (oT i 4 (dY.cells (dY.mk d.cv.Start d.cv.gk (bo.mk da.1 d.cv.ah.length da.2))) U cd (ag (n:=ht.length) 19 U (jZ (by rw [eH A I]; exact H))) Cp U dc U U) ?_
 refine fS U (IA i U (ag (n:=ht.length) 19 U (jZ (by rw [eH A I]; exact H))) ug dc I I) ?_
 refine fS U (mW ((i*7)+4) U (ag (n:=ht.length) 19 U (jZ (by rw [eH A I]; exact H))) (Nat.mul_pos I dc) fp U) ?_
 refine eT U<|gM U fun T46 B7=>cX (Oe d.cv da.1 da.2 (by exact Fn)) (av (show jc _ (rd da.1 d.cv.ah.length 2 (d.cv.ah.map aK.cells)).holds from (dk 15 U (bV AB O (cV _ (bV hd l (by simp [aw.g4]))))))<|aI) U fun GE IO=>?_
 obtain ⟨P,R⟩:=GE
 try dsimp only
 refine aC (B7 _ _ (aH [1,2,3,4,5,6,7,8,9,10,11,12,13,14,15,16,17,18,19]) (aH [1,2,3,4,5,6,7,8,9,10,11,12,13,14,15,16,17,18,19,20]) ?_)
 refine cf U fun T51 B9=>dM (k:=i) (o:=4) (vs:=(dY.cells (lQ d.cv P R))) (es':=(List.zipWith aw.cells ht (iY (dz++[(P,R)]) C.2 (i+1)))) (C':=[_,_,_,_,_,_,_,_,_,_,_,_,_,_,_,_,_,_,_,_,(own D E 62 7 (List.zipWith aw.cells ht (iY (dz++[(P,R)]) C.2 (i+1))))]) 20 U U U Rl U U U U Cp U dc (by exact qA (c:=aw.cells) (b:=(P,R)) hd A l) U<|aC (B9 _ _ (aH [1,2,3,4,5,6,7,8,9,10,11,12,13,14,15,16,17,18,19]) ?_)
 refine fF U<|aB<|KK A6<|ak<|rP 3 [] mn ?_
 refine aC<|E_ (Y':=aU ni (ht.take (i+1)) (dz++[(P,R)])) 19 0 U U (nJ (f:=ni) (b:=(P,R)) hd A) ?_
 have Ci:(vI (((i+1):Nat):Int))=(vI ((i:Int)+1)):=by exact cI I
 refine aR (u ⟨((i+1),(dz++[(P,R)])),⟨I,by simp; omega⟩⟩ _ _ _ U os (cK 3<|aY U Ci<|du.nil _) (aH [1,2,3,4,5,6,7,8,9,10,11,12,13,14,15,16,17,18,0,19]))
end
section
theorem TN.sub {E:fh} {ops:Array Oper} {Q:cZ} {D:gV} {C' C1 C:List au} {tb rem:List Nat}: ∀ {n:Nat} {L L':di},du L L'→TN E ops D C' C1 (fun L C=>KJ E (Q .normal) D L C) tb n rem L' C→TN E ops D C' C1 (fun L C=>KJ E (Q .normal) D L C) tb n rem L C:=by
 intro n
 cases n with
 |zero=>intro L L' hs h; exact jT hs (fun _ h=>h) h
 |succ n=>intro L L' hs h i hi o ho K hK; exact PB hs (fun _ h=>h) (h i hi o ho K hK)
theorem ND {E:fh} {ops:Array Oper} {Q:cZ} {D:gV} {C' C1 C:List au} {bs:List Bool} {os:List Oper} {L:di} {tb rem:List Nat} {n:Nat} {t:Nat} {b:Bool} (h:L.lookup t=some (.bool b))
 (h1:b=true→qi E ops D C' C1 (fun L'=>TN E ops D C' C1 (fun L C=>KJ E (Q .normal) D L C) tb n rem L' C) bs os ((t,.bool true)::L)) (h2:b=false→qi E ops D C' C1 (fun L'=>TN E ops D C' C1 (fun L C=>KJ E (Q .normal) D L C) tb n rem L' C) bs os ((t,.bool false)::L)):
 qi E ops D C' C1 (fun L'=>TN E ops D C' C1 (fun L C=>KJ E (Q .normal) D L C) tb n rem L' C) bs os L:=by
 have A: ∀ v:Bool,b=v→du L ((t,.bool v)::L):=fun v hv=>du.cons (hv▸h) (fun _ _ h=>h)
 cases b
 ·exact qi.mono (fun _ _=>TN.sub) (A _ U) (h2 U)
 ·exact qi.mono (fun _ _=>TN.sub) (A _ U) (h1 U)
theorem JS {E:fh} {ops:Array Oper} {Q:cZ} {D:List Deferred} {L:List (Nat×Value)} {C1 C2 C:List au} {t n:Nat} {b:Bool} {bs:List Bool} {os:List Oper} {tb rem:List Nat} (h:L.lookup t=some (.bool b)) (h2:b=false→qi E ops D C2 C1 (fun L2=>TN E ops D C2 C1 (fun L C=>KJ E (Q .normal) D L C) tb n rem L2 C) bs os ((t,.bool false)::L)) (h1:b=true→qi E ops D C2 C1 (fun L2=>TN E ops D C2 C1 (fun L C=>KJ E (Q .normal) D L C) tb n rem L2 C) bs os ((t,.bool true)::L)):qi E ops D C2 C1 (fun L2=>TN E ops D C2 C1 (fun L C=>KJ E (Q .normal) D L C) tb n rem L2 C) bs os L:=ND h h1 h2
end
section
open Go.RowKit
/-- a row is taken that was made before; an operation -/
inductive fO where
 |take (i:Nat)
 |op (j:Nat)
def fO.ix:fO→Nat
 | .take i=>i
 | .op j=>j
def Dh (dO:Nat→Nat):List fO→List Nat
 |[]=>[]
 | .take i::s=>dO i::Dh dO s
 | .op _::s=>Dh dO s
theorem sX {dO:Nat→Nat} {i:Nat}: ∀ {s:List fO},fO.take i∈s→dO i∈Dh dO s
 | .take k::s,h=>by
  rcases bx.1 h with e|h
  ·cases e; exact cm ..
  ·exact cV _ (sX h)
 | .op k::s,h=>by
  rcases bx.1 h with e|h
  ·cases e
  ·exact sX (s:=s) h
def rB (m:Array Nat) (dO:Nat→Nat) (x y:fO):Bool:=x.ix != y.ix&&(match y with | .op j=>iE m x.ix j| .take i=>match x with | .take k=>dO k != dO i| .op _=>true)
def UI (m:Array Nat) (dO:Nat→Nat):List fO→Bool
 |[]=>true
 |x::s=>s.all (rB m dO x)&&UI m dO s
theorem F2 {m:Array Nat} {dO:Nat→Nat}: ∀ {s:List fO},UI m dO s=true→s.Pairwise fun x y=>rB m dO x y=true
 |[],_=>List.Pairwise.nil
 |x::s,h=>by
  simp only [UI,cU] at h
  exact List.Pairwise.cons (fun y hy=>cT.1 h.1 y hy) (F2 h.2)
/-- what is known of the slots B is known in L -/
def Bz (B L:di):Prop:= ∀ t v,B.lookup t=some v→L.lookup t=some v
theorem vQ {B L:di} (h:B.map (fun p=>L.lookup p.1)=B.map (fun p=>some p.2)):Bz B L:=by
 induction B with
 |nil=>intro t v h; simp at h
 |cons p B ih=>
  obtain ⟨k,u⟩:=p
  simp only [List.map_cons,List.cons.injEq] at h
  intro t v hl
  by_cases e:t=k
  ·subst e
   simp only [List.lookup,beq_self_eq_true,Option.some.injEq] at hl
   rw [h.1,hl]
  ·have:(t==k)=false:=by simpa using e
   simp only [List.lookup,this] at hl
   exact ih h.2 t v hl
theorem oa {L Y:di} {t:Nat}:(L++Y).lookup t=match L.lookup t with |some v=>some v|none=>Y.lookup t:=by
 induction L with
 |nil=>rfl
 |cons p L ih=>
  obtain ⟨k,u⟩:=p
  by_cases e:t==k
  ·simp [List.lookup,e]
  ·have:(t==k)=false:=by simpa using e
   simp only [List.cons_append,List.lookup,this,ih]
theorem Bz.app {B L Y:di} (h:Bz B L):Bz B (L++Y):=fun t v ht=>by rw [oa,h t v ht]
theorem Ro {B L:di} (h:Bz B L) {x:Operand} {v:Value} (hv:ev B x=some v):ev L x=some v:=by
 cases x<;>simp only [ev] at hv ⊢ <;>first|exact h _ _ hv|exact hv
theorem Fq {B L:di} (h:Bz B L): ∀ {xs:List Operand} {vs:List Value},evs B xs=some vs→evs L xs=some vs
 |[],vs,hv=>hv
 |x::xs,vs,hv=>by
  simp only [evs] at hv ⊢
  cases e1:ev B x with
  |none=>rw [e1] at hv; simp at hv
  |some v=>
   cases e2:evs B xs with
   |none=>rw [e1,e2] at hv; simp at hv
   |some us=>
    rw [e1,e2] at hv
    rw [Ro h e1,Fq h e2]; exact hv
section
variable (E:fh) (ops:Array Oper) (D:List Deferred) (C':List au) (K0:Act→World→Prop) (B:List (Nat×Value)) (dO:Nat→Nat) (VO:Nat→Nat→Value) (AO:Nat→Nat→au)
def CH:List fO→di→List au→Prop
 |[],L,C=>KJ E K0 D L C
 | .take i::s,L,C=> ∀ b,CH s ((dO i,VO i b)::L) (AO i b::C)
 | .op j::s,L,C=> ∀ o,ops[j]? =some o→ ∀ (Y:di) (X:List au) (K:Act→World→Prop),(∀ L' C'',(∀ w,St E.S E.w0 C'' w→St E.S E.w0 C' w)→((Dh dO s).all fun d=>(L'.lookup d).isNone)=true→B.map (fun p=>L'.lookup p.1)=B.map (fun p=>some p.2)→CH s L' C''→KJ E K D (L'++Y) (C''++X))→RJ E ops (NQ K) [o] D (L++Y) (C++X)
/-- a row that is made at any time -/
def TC (i:Nat):Prop:= ∀ o,ops[i]? =some o→ ∀ (L:di) (C:List au) (K:Act→World→Prop),Bz B L→(∀ b,KJ E K D ((dO i,VO i b)::L) (AO i b::C))→RJ E ops (NQ K) [o] D L C
end
section
variable {E:fh} {ops:Array Oper} {D:List Deferred} {C' C1:List au} {K0:Act→World→Prop} {B:List (Nat×Value)} {dO:Nat→Nat} {VO:Nat→Nat→Value} {AO:Nat→Nat→au}
theorem FJ {Q:cZ} {rest:List Oper} {L L2:di} {C C2:List au} (hL: ∀ a,Fr E.n D L a→Fr E.n D L2 a) (hC: ∀ w,St E.S E.w0 C w→St E.S E.w0 C2 w) (h:RJ E ops Q rest D L2 C2):RJ E ops Q rest D L C:=fun a w hf hs=>h a w (hL a hf) (hC w hs)
theorem Au {K:Act→World→Prop} {L L2:di} {C C2:List au} (hL: ∀ a,Fr E.n D L a→Fr E.n D L2 a) (hC: ∀ w,St E.S E.w0 C w→St E.S E.w0 C2 w) (h:KJ E K D L2 C2):KJ E K D L C:=fun a w hf hs=>h a w (hL a hf) (hC w hs)
theorem CZ {n:Nat} {L L2:di} (h: ∀ t v,L2.lookup t=some v→L.lookup t=some v) (a:Act) (hf:Fr n D L a):Fr n D L2 a:=⟨hf.defers,hf.size,fun t v ht=>hf.at_ t v (h t v ht)⟩
theorem EY: ∀ (T0 s':List fO) (dn:List (Nat×Nat)) (L Y:di) (C:List au),(∀ x∈T0,∃ i b,x= .take i∧(i,b)∈dn)→(T0++s').Pairwise (fun x y=>rB (p9 ops) dO x y=true)→(dn.map (·.1)).Nodup→(∀ p∈dn,fO.take p.1∈T0++s')→(∀ p∈dn,Y.lookup (dO p.1)=some (VO p.1 p.2))→(∀ i,fO.take i∈T0++s'→L.lookup (dO i)=none)→
 CH E ops D C' K0 B dO VO AO (T0++s') L C→ ∃ (dn':List (Nat×Nat)) (L':di) (C2:List au),CH E ops D C' K0 B dO VO AO s' L' C2∧(dn'.map (·.1)).Nodup∧(∀ p,p∈dn'↔p∈dn∧fO.take p.1∈s')∧(∀ t v,(L'++Y).lookup t=some v→(L++Y).lookup t=some v)∧(∀ i,fO.take i∈s'→L'.lookup (dO i)=none)∧(∀ w,St E.S E.w0 (C++dn.map fun p=>AO p.1 p.2) w→St E.S E.w0 (C2++dn'.map fun p=>AO p.1 p.2) w)
 |[],s',dn,L,Y,C,_,_,hn,hm,_,hl,h=>⟨dn,L,C,h,hn,fun p=>⟨fun q=>⟨q,hm p q⟩,fun q=>q.1⟩,fun t v q=>q,hl,fun w q=>q⟩
 |x::T0,s',dn,L,Y,C,ht,hp,hn,hm,hy,hl,h=>by
  obtain ⟨i,b,rfl,hb⟩:=ht x (cm ..)
  obtain ⟨J,P⟩:=List.pairwise_cons.1 hp
  have AB: ∀ y∈T0++s',i≠y.ix:=fun y hy e=>by
   have:=J y hy
   simp only [rB,cU,bne_iff_ne,fO.ix] at this
   exact this.1 e
  have N: ∀ k,fO.take k∈T0++s'→dO k≠dO i:=fun k hk e=>by
   have:=J _ hk
   simp only [rB,cU,bne_iff_ne] at this
   exact this.2 e.symm
  have K:dn.Perm ((i,b)::dn.erase (i,b)):=List.perm_cons_erase hb
  have H:((dn.erase (i,b)).map (·.1)).Nodup∧i ∉ (dn.erase (i,b)).map (·.1):=by
   have:=(K.map (·.1)).nodup_iff.1 hn
   exact ⟨(List.nodup_cons.1 this).2,(List.nodup_cons.1 this).1⟩
  have A: ∀ p∈dn.erase (i,b),p∈dn∧p.1≠i:=fun p hp=>⟨List.mem_of_mem_erase hp,fun e=>by have q:=List.mem_map_of_mem (f:=fun p:Nat×Nat=>p.1) hp; simp only [e] at q; exact H.2 q⟩
  have O:L.lookup (dO i)=none:=hl i (cm ..)
  obtain ⟨dn',L',C2,R,T,AA,V,W,X⟩:=EY T0 s' (dn.erase (i,b)) ((dO i,VO i b)::L) Y (AO i b::C) (fun x hx=>by
   obtain ⟨k,c,rfl,hk⟩:=ht x (cV _ hx)
   refine ⟨k,c,U,?_⟩
   have F:k≠i:=fun e=>AB _ (List.mem_append_left _ hx) e.symm
   exact (List.mem_erase_of_ne (fun e=>F (congrArg Prod.fst e))).2 hk) P H.1 (fun p hp=>by
   obtain ⟨M,G⟩:=A p hp
   rcases bx.1 (hm p M) with e|e
   ·injection e with e; exact absurd e G
   ·exact e) (fun p hp=>hy p (A p hp).1) (fun k hk=>by
   have:(dO k==dO i)=false:=by simpa using N k hk
   simp only [List.lookup,this]
   exact hl k (cV _ hk)) (h b)
  refine ⟨dn',L',C2,R,T,fun p=>?_,fun t v hv=>?_,W,fun w hw=>X w ?_⟩
  ·rw [AA]
   constructor
   ·rintro ⟨M,G⟩; exact ⟨(A p M).1,G⟩
   ·rintro ⟨M,G⟩
    have F:p.1≠i:=fun e=>AB _ (List.mem_append_right _ G) e.symm
    exact ⟨(List.mem_erase_of_ne (fun e=>F (congrArg Prod.fst e))).2 M,G⟩
  ·have:=V t v hv
   rw [oa] at this ⊢
   by_cases e:t=dO i
   ·subst e
    simp only [List.lookup,beq_self_eq_true] at this
    rw [O]; simp only
    rw [hy _ hb]; exact this
   ·have Q:(t==dO i)=false:=by simpa using e
    simp only [List.lookup,Q] at this
    exact this
  ·refine hw.perm ?_
   show (C++dn.map fun p=>AO p.1 p.2).Perm (AO i b::(C++(dn.erase (i,b)).map fun p=>AO p.1 p.2))
   refine ((K.map fun p:Nat×Nat=>AO p.1 p.2).append_left C).trans ?_
   exact List.perm_middle
theorem BT: ∀ (s:List fO) (j:Nat),fO.op j∈s→ ∃ T0 k s',s=T0++fO.op k::s'∧ ∀ x∈T0,∃ i,x=fO.take i
 | .take i::s,j,h=>by
  rcases bx.1 h with e|h
  ·cases e
  ·obtain ⟨T0,k,s',rfl,A⟩:=BT s j h
   exact ⟨.take i::T0,k,s',U,fun x hx=>by
    rcases bx.1 hx with rfl|hx
    ·exact ⟨i,U⟩
    ·exact A x hx⟩
 | .op k::s,j,_=>⟨[],k,s,rfl,fun x hx=>by cases hx⟩
def ky (s:List fO) (dn:List (Nat×Nat)):List Nat:=(s.map fO.ix).filter fun i=> !(dn.map (·.1)).contains i
theorem rj {s:List fO} {dn:List (Nat×Nat)} {i:Nat}:i∈ky s dn↔(∃ x∈s,x.ix=i)∧ ∀ p∈dn,p.1≠i:=by
 unfold ky
 rw [List.mem_filter,bX]
 refine and_congr Iff.rfl ?_
 rw [Bool.not_eq_true',← Bool.not_eq_true,List.contains_iff_mem,bX]
 constructor
 ·intro h p hp e; exact h ⟨p,hp,e⟩
 ·rintro h ⟨p,hp,e⟩; exact h p hp e
theorem qK (hal: ∀ i,TC E ops D B dO VO AO i∨True): ∀ (n:Nat) (s:List fO) (dn:List (Nat×Nat)) (L Y:di) (C:List au),(∀ i,fO.take i∈s→TC E ops D B dO VO AO i)→s.Pairwise (fun x y=>rB (p9 ops) dO x y=true)→(ky s dn).length=n→(dn.map (·.1)).Nodup→(∀ p∈dn,fO.take p.1∈s)→(∀ p∈dn,Y.lookup (dO p.1)=some (VO p.1 p.2))→(∀ i,fO.take i∈s→L.lookup (dO i)=none)→Bz B L→
 (∀ w,St E.S E.w0 C w→St E.S E.w0 C' w)→CH E ops D C' K0 B dO VO AO s L C→TN E ops D C' C1 (fun L C=>KJ E K0 D L C) [] n (ky s dn) (L++Y) (C++dn.map fun p=>AO p.1 p.2)
 |0,s,dn,L,Y,C,_,hp,hlen,hn,hm,hy,hl,hB,hC,h=>by
  have hr:ky s dn=[]:=jR hlen
  have Q: ∀ x∈s,∃ i b,x=fO.take i∧(i,b)∈dn:=fun x hx=>by
   have hx':x.ix ∉ ky s dn:=by rw [hr]; exact List.not_mem_nil
   rw [rj] at hx'
   have: ∃ p∈dn,p.1=x.ix:=by
    apply Classical.byContradiction
    intro q
    exact hx' ⟨⟨x,hx,U⟩,fun p hp e=>q ⟨p,hp,e⟩⟩
   obtain ⟨p,T,AA⟩:=this
   have ht:=hm p T
   rcases List.mem_iff_getElem.1 hx with ⟨a,ha,ea⟩
   rcases List.mem_iff_getElem.1 ht with ⟨c,hc,ec⟩
   have d:a=c:=by
    rcases Nat.lt_trichotomy a c with q|q|q
    ·have:=ed.1 hp a c ha hc q
     simp only [rB,cU,bne_iff_ne,ea,ec] at this
     exact absurd AA.symm this.1
    ·exact q
    ·have:=ed.1 hp c a hc ha q
     simp only [rB,cU,bne_iff_ne,ea,ec] at this
     exact absurd AA this.1
   subst d
   exact ⟨p.1,p.2,by rw [← ea,ec],T⟩
  obtain ⟨dn',L',C2,V,J,O,W,h5,X⟩:=EY s [] dn L Y C Q (by simpa using hp) hn (by simpa using hm) hy (by simpa using hl) (by simpa using h)
  show KJ E K0 D _ _
  have hd:dn'=[]:=List.eq_nil_iff_forall_not_mem.2 fun p hp=>by have:=((O p).1 hp).2; cases this
  subst hd
  refine Au (L2:=L') (C2:=C2) (fun a hf=>CZ (fun t v ht=>W t v (by rw [oa,ht])) a hf) (fun w hw=>by have:=X w hw; simpa using this) V
 |n+1,s,dn,L,Y,C,hal',hp,hlen,hn,hm,hy,hl,hB,hC,h=>by
  intro i hi o ho K hK
  obtain ⟨G,m⟩:=List.mem_filter.1 hi
  obtain ⟨⟨x,hx,rfl⟩,H⟩:=rj.1 G
  have A: ∀ k∈ky s dn,iE (p9 ops) k x.ix=false:=fun k hk=>by
   have:=cT.1 m k hk
   simpa using this
  cases x with
  |take i=>
   simp only [fO.ix] at H A ho hK G ⊢
   refine hal' i hx o ho _ _ K hB.app fun b=>?_
   have l:=hl i hx
   have AB:(ky s dn).filter (· != i)=ky s ((i,b)::dn):=by
    unfold ky
    rw [List.filter_filter]
    apply List.filter_congr
    intro k _
    simp only [List.map_cons,List.contains_cons,Bool.not_or]
    rfl
   have N:(ky s dn).Nodup:=by
    unfold ky
    refine List.Nodup.sublist List.filter_sublist<|List.pairwise_map.2 (hp.imp fun {a c} q=>?_)
    simp only [rB,cU,bne_iff_ne] at q
    exact q.1
   have M: ∀ k,fO.take k∈s→k≠i→dO k≠dO i:=fun k hk AC e=>by
    rcases List.mem_iff_getElem.1 hx with ⟨a,ha,ea⟩
    rcases List.mem_iff_getElem.1 hk with ⟨c,hc,ec⟩
    rcases Nat.lt_trichotomy a c with q|q|q
    ·have:=ed.1 hp a c ha hc q
     simp only [rB,cU,bne_iff_ne,ea,ec] at this
     exact this.2 e.symm
    ·subst q; rw [ea] at ec; cases ec; exact AC rfl
    ·have:=ed.1 hp c a hc ha q
     simp only [rB,cU,bne_iff_ne,ea,ec] at this
     exact this.2 e
   refine Au (L2:=L++((dO i,VO i b)::Y)) (C2:=C++((i,b)::dn).map fun p=>AO p.1 p.2) (fun a hf=>CZ (fun t v ht=>?_) a hf) (fun w hw=>hw.perm (List.perm_middle).symm) (hK _ _ (fun w hw=>hC w (hw.take (List.sublist_append_left _ _))) (fun q=>by cases q) ?_)
   ·rw [oa] at ht
    by_cases e:t=dO i
    ·subst e
     rw [l] at ht
     simp only [List.lookup,beq_self_eq_true] at ht ⊢
     exact ht
    ·have e2:(t==dO i)=false:=by simpa using e
     simp only [List.lookup,e2] at ht ⊢
     rw [oa]; exact ht
   ·rw [AB]
    refine qK hal n s ((i,b)::dn) L ((dO i,VO i b)::Y) C hal' hp ?_ (List.nodup_cons.2 ⟨fun q=>?_,hn⟩) (fun p hp'=>?_) (fun p hp'=>?_) hl hB hC h
    ·rw [← AB,← List.Nodup.erase_eq_filter N,List.length_erase_of_mem G,hlen]; rfl
    ·obtain ⟨p,hp',e⟩:=bX.1 q
     exact H p hp' e
    ·rcases bx.1 hp' with rfl|hp'
     ·exact hx
     ·exact hm p hp'
    ·rcases bx.1 hp' with rfl|hp'
     ·simp [List.lookup]
     ·have:(dO p.1==dO i)=false:=by simpa using M p.1 (hm p hp') (H p hp')
      simp only [List.lookup,this]
      exact hy p hp'
  |op j=>
   simp only [fO.ix] at H A ho hK G ⊢
   obtain ⟨T0,k,s',rfl,hT⟩:=BT s j hx
   obtain ⟨q1,q2,q3⟩:=List.pairwise_append.1 hp
   obtain ⟨q4,q5⟩:=List.pairwise_cons.1 q2
   have R: ∀ k',fO.op k'∈T0++fO.op k::s'→k'∈ky (T0++fO.op k::s') dn:=fun k' hk'=>by
    refine rj.2 ⟨⟨_,hk',U⟩,fun p hp' e=>?_⟩
    have ht:=hm p hp'
    rcases List.mem_iff_getElem.1 hk' with ⟨a,ha,ea⟩
    rcases List.mem_iff_getElem.1 ht with ⟨c,hc,ec⟩
    rcases Nat.lt_trichotomy a c with q|q|q
    ·have:=ed.1 hp a c ha hc q
     simp only [rB,cU,bne_iff_ne,ea,ec,fO.ix] at this
     exact this.1 e.symm
    ·subst q; rw [ea] at ec; cases ec
    ·have:=ed.1 hp c a hc ha q
     simp only [rB,cU,bne_iff_ne,ea,ec,fO.ix] at this
     exact this.1 e
   have Ai:k=j:=by
    apply Classical.byContradiction
    intro As
    have hj':fO.op j∈s':=by
     rcases dJ.1 hx with q|q
     ·obtain ⟨i,e⟩:=hT _ q; cases e
     ·rcases bx.1 q with e|q
      ·injection e with e; exact absurd e.symm As
      ·exact q
    have:=q4 _ hj'
    simp only [rB,cU,fO.ix] at this
    have J:=A k (R k sm)
    rw [this.2] at J; cases J
   subst Ai
   have F: ∀ x∈T0,∃ i b,x=fO.take i∧(i,b)∈dn:=fun x hx'=>by
    obtain ⟨i,rfl⟩:=hT x hx'
    apply Classical.byContradiction
    intro q
    have r:i∈ky (T0++fO.op k::s') dn:=rj.2 ⟨⟨_,List.mem_append_left _ hx',rfl⟩,fun p hp' e=>q ⟨i,p.2,rfl,by rw [← e]; exact hp'⟩⟩
    have:=q3 _ hx' _ (cm ..)
    simp only [rB,cU,fO.ix] at this
    have J:=A i r
    rw [this.2] at J; cases J
   obtain ⟨dn',L',C2,V,J,O,W,h5,X⟩:=EY T0 (fO.op k::s') dn L Y C F hp hn hm hy hl h
   refine FJ (fun a hf=>CZ W a hf) X (V o ho Y (dn'.map fun p=>AO p.1 p.2) K fun L3 C3 P A0 Z g=>?_)
   have AB:(ky (T0++fO.op k::s') dn).filter (· != k)=ky s' dn':=by
    unfold ky
    rw [List.map_append,List.filter_append,List.map_cons,List.filter_append]
    have e1:(List.map fO.ix T0).filter (fun i=> !(dn.map (·.1)).contains i)=[]:=by
     apply List.filter_eq_nil_iff.2
     intro z hz
     obtain ⟨x,hx',rfl⟩:=bX.1 hz
     obtain ⟨i,b,rfl,hb⟩:=F x hx'
     simp only [fO.ix,Bool.not_eq_true',Bool.not_eq_false,List.contains_iff_mem]
     exact List.mem_map_of_mem (f:=(·.1)) hb
    rw [e1]
    simp only [List.filter_nil,List.nil_append]
    have u:k ∉ dn.map (·.1):=fun q=>by
     obtain ⟨p,hp',e⟩:=bX.1 q
     exact H p hp' e
    rw [List.filter_cons_of_pos (by simpa [fO.ix] using u),List.filter_cons_of_neg (by simp [fO.ix]),List.filter_filter]
    apply List.filter_congr
    intro z hz
    obtain ⟨y,hy',rfl⟩:=bX.1 hz
    have A1:y.ix≠k:=fun e=>by
     have:=q4 y hy'
     simp only [rB,cU,bne_iff_ne,fO.ix] at this
     exact this.1 e.symm
    rw [Bool.eq_iff_iff]
    simp only [cU,bne_iff_ne,Bool.not_eq_true',← Bool.not_eq_true,List.contains_iff_mem]
    constructor
    ·rintro ⟨_,hq⟩ hc
     obtain ⟨p,hp',e⟩:=bX.1 hc
     exact hq (by rw [← e]; exact List.mem_map_of_mem (f:=(·.1)) ((O p).1 hp').1)
    ·intro hq
     refine ⟨A1,fun hc=>?_⟩
     obtain ⟨p,hp',e⟩:=bX.1 hc
     apply hq
     rw [← e]
     refine List.mem_map_of_mem (f:=(·.1)) ((O p).2 ⟨hp',?_⟩)
     have ht:=hm p hp'
     rcases dJ.1 ht with ht|ht
     ·exfalso
      have:=q3 _ ht _ (cV _ hy')
      simp only [rB,cU,bne_iff_ne,fO.ix] at this
      exact this.1 e
     ·exact ht
   have N:(ky (T0++fO.op k::s') dn).Nodup:=by
    unfold ky
    refine List.Nodup.sublist List.filter_sublist<|List.pairwise_map.2 (hp.imp fun {a c} q=>?_)
    simp only [rB,cU,bne_iff_ne] at q
    exact q.1
   refine hK _ _ (fun w hw=>P w (hw.take (List.sublist_append_left _ _))) (fun q=>by cases q) ?_
   rw [AB]
   have hdn': ∀ p∈dn',fO.take p.1∈s':=fun p hp'=>by
    rcases bx.1 ((O p).1 hp').2 with e|e
    ·cases e
    ·exact e
   refine qK hal n s' dn' L3 Y C3 (fun i hi=>hal' i (by simp [hi])) q5 ?_ J hdn' (fun p hp'=>hy p ((O p).1 hp').1) (fun i hi=>?_) (vQ Z) P g
   ·rw [← AB,← List.Nodup.erase_eq_filter N,List.length_erase_of_mem G,hlen]; rfl
   ·have:=cT.1 A0 _ (sX hi)
    simpa using this
/-- the rows, at any time; the others, one after the other -/
theorem NL {tb rem:List Nat} {L:di} {C:List au} (s:List fO) (B:di) (dO:Nat→Nat) (VO:Nat→Nat→Value) (AO:Nat→Nat→au) {n:Nat} (htb:tb=[]) (hr:s.map fO.ix=rem) (hn:rem.length=n) (hp:UI (p9 ops) dO s=true) (hl:((Dh dO s).all fun d=>(L.lookup d).isNone)=true) (hB:B.map (fun p=>L.lookup p.1)=B.map (fun p=>some p.2)) (hC: ∀ w,St E.S E.w0 C w→St E.S E.w0 C' w)
 (hal: ∀ i,fO.take i∈s→TC E ops D B dO VO AO i) (h:CH E ops D C' K0 B dO VO AO s L C):TN E ops D C' C1 (fun L C=>KJ E K0 D L C) tb n rem L C:=by
 subst htb hr
 have e:ky s []=s.map fO.ix:=by unfold ky; simp
 have:=qK (C1:=C1) (fun i=> .inr trivial) n s [] L [] C hal (F2 hp) (by rw [e]; exact hn) List.nodup_nil (fun p hp=>by cases hp) (fun p hp=>by cases hp) (fun i hi=>by
  have:=cT.1 hl _ (sX hi)
  simpa using this) (vQ hB) hC h
 simpa [e] using this
theorem Qs {p:Nat→Prop}: ∀ i,fO.take i∈([]:List fO)→p i:=fun i h=>by cases h
theorem yd {p:Nat→Prop} {j:Nat} {s:List fO} (h: ∀ i,fO.take i∈s→p i): ∀ i,fO.take i∈fO.op j::s→p i:=fun i hi=>by
 rcases bx.1 hi with e|hi
 ·cases e
 ·exact h i hi
theorem vU {p:Nat→Prop} {j:Nat} {s:List fO} (hj:p j) (h: ∀ i,fO.take i∈s→p i): ∀ i,fO.take i∈fO.take j::s→p i:=fun i hi=>by
 rcases bx.1 hi with e|hi
 ·cases e; exact hj
 ·exact h i hi
end
section
variable {E:fh} {ops:Array Oper} {D:List Deferred} {B:List (Nat×Value)} {dO:Nat→Nat} {VO:Nat→Nat→Value} {AO:Nat→Nat→au}
variable {d:Nat} {ty:TypeId} {ps:String} {af:Array Edge}
theorem Mx {i t e sz:Nat} (ho:ops[i]? =some ⟨some d,.buildSlice t 0 #[],ty,ps,af,none⟩) (ht:tE E.P t=some (e,sz)) (hd:Nat.blt d E.n=true) (h1:dO i=d) (h2: ∀ b,VO i b= .slice (some ⟨b,0,none⟩) 0 0) (h3: ∀ b,AO i b=cb b e []):TC E ops D B dO VO AO i:=fun o ho' L C K hB hk=>by
 rw [ho] at ho'; cases ho'
 exact lJ U ht hd fun b=>aC (by have:=hk b; rw [h1,h2,h3] at this; exact this)
theorem Pz {i t e sz n:Nat} {xs:List Operand} {vs:List Value} {cs zs:List Value} (ho:ops[i]? =some ⟨some d,.buildSlice t n ((xs.zipIdx.map fun p=>(p.2,p.1)).toArray),ty,ps,af,none⟩) (ht:tE E.P t=some (e,sz)) (hz:tZ E.P e=some zs) (hx:evs B xs=some vs) (hn:xs.length=n) (hp:Nat.blt 0 (n*sz)=true) (hb:Nat.ble (n*sz) 16777216=true) (hv: ∀ v∈vs,v.cells.size=sz)
 (hc:(vs.map (·.cells.toList)).flatten=cs) (hd:Nat.blt d E.n=true) (h1:dO i=d) (h2: ∀ b,VO i b= .slice (some ⟨b,0,none⟩) n n) (h3: ∀ b,AO i b=cb b e cs):TC E ops D B dO VO AO i:=fun o ho' L C K hB hk=>by
 rw [ho] at ho'; cases ho'
 exact df U ht hz (Fq hB hx) hn hp hb hv hc hd fun b=>aC (by have:=hk b; rw [h1,h2,h3] at this; exact this)
end
section
variable {E:fh} {ops:Array Oper} {D:List Deferred} {C':List au} {K0:Act→World→Prop} {B:List (Nat×Value)} {dO:Nat→Nat} {VO:Nat→Nat→Value} {AO:Nat→Nat→au}
theorem wH {j:Nat} {s:List fO} {L:di} {C:List au} {o:Oper} (ho:ops[j]? =some o)
 (h: ∀ (Y:di) (X:List au) (K:Act→World→Prop),(∀ L' C'',(∀ w,St E.S E.w0 C'' w→St E.S E.w0 C' w)→((Dh dO s).all fun d=>(L'.lookup d).isNone)=true→B.map (fun p=>L'.lookup p.1)=B.map (fun p=>some p.2)→CH E ops D C' K0 B dO VO AO s L' C''→KJ E K D (L'++Y) (C''++X))→RJ E ops (NQ K) [o] D (L++Y) (C++X)):CH E ops D C' K0 B dO VO AO (.op j::s) L C:=fun o' ho'=>by
 rw [ho] at ho'; cases ho'
 exact h
theorem sO {s:List fO} {L Y:di} {C X:List au} {K:Act→World→Prop} (hT: ∀ L' C'',(∀ w,St E.S E.w0 C'' w→St E.S E.w0 C' w)→((Dh dO s).all fun d=>(L'.lookup d).isNone)=true→B.map (fun p=>L'.lookup p.1)=B.map (fun p=>some p.2)→CH E ops D C' K0 B dO VO AO s L' C''→KJ E K D (L'++Y) (C''++X)) (nL nC:Nat)
 (hL:L.take nL++Y=L) (hC:C.take nC++X=C) (h1: ∀ w,St E.S E.w0 (C.take nC) w→St E.S E.w0 C' w) (h2:((Dh dO s).all fun d=>((L.take nL).lookup d).isNone)=true) (h3:B.map (fun p=>(L.take nL).lookup p.1)=B.map (fun p=>some p.2)) (h:CH E ops D C' K0 B dO VO AO s (L.take nL) (C.take nC)):RJ E ops (NQ K) [] D L C:=by
 have:=hT _ _ h1 h2 h3 h
 rw [hL,hC] at this
 exact aC this
theorem Ty {c:Code} {Q:cZ} {L L':di} {C:List au} (h:L'.map (fun p=>L.lookup p.1)=L'.map (fun p=>some p.2)) (k:WJ E c Q D L' C):WJ E c Q D L C:=fun a w hf hs=>k a w (CZ (vQ h) a hf) hs
theorem xZ: ∀ {C:List au} {i:Nat} {A:au},C[i]? =some A→C.Perm (A::C.eraseIdx i)
 |[],i,A,h=>by simp at h
 |x::C,0,A,h=>by
  simp at h; subst h
  exact List.Perm.refl _
 |x::C,i+1,A,h=>((xZ (C:=C) (i:=i) (by simpa using h)).cons x).trans (List.Perm.swap _ _ _)
theorem St.front {S:BS} {w0 w:World} {C:List au} {A:au} (i:Nat) (hi:C[i]? =some A) (h:St S w0 C w):St S w0 (A::C.eraseIdx i) w:=h.perm (xZ hi)
theorem Fk {K:Act→World→Prop} {L:di} {C:List au} {A:au} (i:Nat) (hi:C[i]? =some A) (h:KJ E K D L (A::C.eraseIdx i)):KJ E K D L C:=fun a w hf hs=>h a w hf (hs.front i hi)
theorem rI {Q:cZ} {rest:List Oper} {L:di} {C:List au} {A:au} (i:Nat) (hi:C[i]? =some A) (h:RJ E ops Q rest D L (A::C.eraseIdx i)):RJ E ops Q rest D L C:=fun a w hf hs=>h a w hf (hs.front i hi)
end
end
section
open Go.RowKit
section
variable {E:fh} {ops:Array Oper} {D:List Deferred} {C' C1:List au} {tb:List Nat}
theorem xX {V:Type} {F:di→List au→Prop} (P:V→Prop) (fL:V→di) (fC:V→List au) (n:Nat) (rest:List Nat) {m:Nat} {rem:List Nat} {L:di} {C:List au} (h1:(∀ v,P v→TN E ops D C' C1 F tb n rest (fL v) (fC v))→TN E ops D C' C1 F tb m rem L C) (h2: ∀ v,P v→TN E ops D C' C1 F tb n rest (fL v) (fC v)):TN E ops D C' C1 F tb m rem L C:=h1 h2
theorem hU {F:di→List au→Prop} {rem':List Nat} {n i:Nat} {L:di} {C:List au} {o:Oper} (ho:ops[i]? =some o)
 (h: ∀ K:Act→World→Prop,(∀ L' C'',(∀ w,St E.S E.w0 C'' w→St E.S E.w0 C' w)→TN E ops D C' C1 F tb n rem' L' C''→KJ E K D L' C'')→RJ E ops (NQ K) [o] D L C) (hm:((i::rem').filter fun k=>(i::rem').all fun j=> !iE (p9 ops) j k)=[i]:=by kernel_rfl) (hr:(i::rem').filter (· != i)=rem':=by kernel_rfl) (ht:tb.contains i=false:=by rfl):TN E ops D C' C1 F tb (n+1) (i::rem') L C:=
 iX [i] hm (eN (il ho hr ht h) kB)
theorem Qz {K0:Act→World→Prop} {n:Nat} {rem:List Nat} {L L2:di} {C C2:List au} (hL: ∀ a,Fr E.n D L a→Fr E.n D L2 a) (hC: ∀ w,St E.S E.w0 C w→St E.S E.w0 C2 w) (h:TN E ops D C' C1 (fun L C=>KJ E K0 D L C) tb n rem L2 C2):TN E ops D C' C1 (fun L C=>KJ E K0 D L C) tb n rem L C:=by
 cases n with
 |zero=>exact Au hL hC h
 |succ n=>exact fun i hi o ho K hK=>FJ hL hC (h i hi o ho K hK)
theorem j2 {V:Type} {P:V→Prop} {fL:V→di} {fC:V→List au} {K0:Act→World→Prop} {n:Nat} {rem rest:List Nat} {L:di} {C:List au} (hJ: ∀ v,P v→TN E ops D C' C1 (fun L C=>KJ E K0 D L C) tb n rest (fL v) (fC v)) (v:V) (hp:P v) (ix:List Nat) (hL:(fL v).map (fun p=>L.lookup p.1)=(fL v).map (fun p=>some p.2)) (hn:decide ix.Nodup=true) (hC:lH C ix=some (fC v)) (hr:rem=rest:=by kernel_rfl):TN E ops D C' C1 (fun L C=>KJ E K0 D L C) tb n rem L C:=hr▸
 Qz (fun a hf=>CZ (vQ hL) a hf) (fun w hs=>St.kq _ hn (jE hC) hs) (hJ v hp)
end
theorem L8 {E:fh} {id:Nat} {ops:Array Oper} {Q:cZ} {D:gV} {L:di} {C:List au} (hm:E.P.follows .mixedOrders=true) (T i1:List Nat) {C':List au} {free:List Nat} {LD:List Bool} (h1:lH C i1=some C') (hf:free=S8 ops.size T) (hfe:LD=VG free.length [])
 (h:qi E ops D C' [] (fun L'=>TN E ops D C' [] (fun L C=>KJ E (Q .normal) D L C) [] T.length T L' C) LD (eQ ops free) L) (hc:Fj ops free T LD []=true:=by kernel_rfl) (n1:decide i1.Nodup=true:=by rfl):WJ E (.region id ops true) Q D L C:=
 pw hm free T LD [] C' [] hc (OI i1 h1 n1) (OI [] rfl rfl) h
section
end
end
section
open Go.RowKit
theorem An (r:bT) (kA:OA) (kC:Nat) (az:List RA) (cA:OA) (cC:Nat) (bA:OA) (bC:Nat) (slA:OA) (slC:Nat) (drA:OA) (drC:Nat) (ha:List cy) (heA:OA) (heC:Nat) (tz:List RA) (tA:OA) (tC:Nat) (ms:Value) (gw:Nat) (l:List Int) (lA:OA) (lC:Nat) (hin:eO r az ha) (hlen:l.length≤1000000):
 ep Tryz.prog 48 [(vP gw),(vS lA l.length lC)] [(rd kA r.ao.aM.length 9 (r.ao.aM.map al.cells)),(rd cA r.ao.ai.length 2 (List.zipWith ar.cells r.ao.ai az)),(fc (aU ar.g4 r.ao.ai az)),(rd bA r.ao.ae.length 4 (r.ao.ae.map bH.cells)),(rd slA r.aL.length 1 (r.aL.map iC)),(rd drA r.bE.length 1 (r.bE.map iC)),(rd heA r.an.length 1 (List.zipWith ct r.an ha)),(fc (aU iw r.an ha)),(rd tA ((cS r).length) 1 (List.zipWith Eb (cS r) tz)),(fc (aU MW (cS r) tz)),(cb gw 112 (fV.cells (fV.mk (oQ r kA kC cA cC bA bC slA slC drA drC heA heC) (bo.mk tA ((cS r).length) tC) ms))),(rd lA l.length 1 (l.map iC))] (vB (p8 0 ((r.aL.length:Int)-1) l)):=by
 have C:=hin.line
 have G:=hin.iH
 have H:=hin.has
 have E:=hin.iI
 have D:=hin.draw
 have F:=dE (r:=r)
 refine bG kr Tryz.func48 U U fun AA Q hQ hN=>?_
 try dsimp only
 refine WS fun _ A=>bh 1 U<|RK A<|WS fun _ B=>bh 1 U<|rS (SX (bO U U) U U)<|fu 6 [] (mr 10 U mn) U<|rS (CL (kg 0 ((r.aL.length:Int)-1) l lA lC hlen) (bg [11]) U)<|rP 1 [] mn ?_
 refine RK B<|aq ?_
 exact Q1 hQ U U U U
theorem x4 (a b:Bool):
 ep Tryz.prog 65 [(vB a),(vB b)] [] (Value.int .u8 (if a=true then 2 else if b=true then 1 else 0)):=by
 refine bG kr Tryz.func65 U U fun J Q hQ hN=>?_
 try dsimp only
 refine WS fun _ C=>bh 1 U<|RK C<|aj fun _ D=>ax<|WS fun _ E=>rP 2 [] mn ?_
 refine RK E<|cH U (fun A=>?_) (fun A=>?_)
 ·refine WS fun _ F=>rP 1 [] mn ?_
  refine RK F<|aq<|Q1 hQ U U U ?_
  rw [if_pos A]
 refine WS fun _ G=>rP 2 [] mn ?_
 refine RK G<|cH U (fun B=>?_) (fun B=>?_)
 ·refine WS fun _ H=>rP 1 [] mn ?_
  refine RK H<|aq<|Q1 hQ U U U ?_
  (rw [if_neg (by rw [A]; decide),if_pos B])
 refine bZ<|aB<|KK D<|WS fun _ AA=>rP 1 [] mn ?_
 refine RK AA<|aq<|Q1 hQ U U U ?_
 (rw [if_neg (by rw [A]; decide),if_neg (by rw [B]; decide)])
end
section
open Go.RowKit
theorem QQ (h i:Int) (r:bT) (kA:OA) (kC:Nat) (az:List RA) (cA:OA) (cC:Nat) (bA:OA) (bC:Nat) (slA:OA) (slC:Nat) (drA:OA) (drC:Nat) (ha:List cy) (heA:OA) (heC:Nat) (hin:eO r az ha):
 ep Tryz.prog 15 [(vA (cp.cells (oQ r kA kC cA cC bA bC slA slC drA drC heA heC))),(vI h),(vI i)] [(rd fg 3 2 eu),(rd kA r.ao.aM.length 9 (r.ao.aM.map al.cells)),(rd cA r.ao.ai.length 2 (List.zipWith ar.cells r.ao.ai az)),(fc (aU ar.g4 r.ao.ai az)),(rd bA r.ao.ae.length 4 (r.ao.ae.map bH.cells)),(rd slA r.aL.length 1 (r.aL.map iC)),(rd drA r.bE.length 1 (r.bE.map iC)),(rd heA r.an.length 1 (List.zipWith ct r.an ha)),(fc (aU iw r.an ha))] (vT [(vA (aa.cells (iA r h i))),(vI (mV r h i))]):=by
 have AO:=hin.line
 have A5:=hin.iH
 have A6:=hin.has
 have A2:=hin.iI
 have A0:=hin.draw
 have F:=dE (r:=r)
 refine bG kr Tryz.func15 U U fun w0 Q hQ hN=>?_
 try dsimp only
 refine WS fun _ u=>fQ U fun b2=>AL U dp fun b3=>bh 1 U<|RK u<|WS fun _ X=>rP 1 [] (mc 1 U mn) ?_
 refine cX (oB r kA kC az cA cC bA bC slA slC drA drC ha heA heC hin) (bg [2,3,4,5,6,7,8,9,10]) U fun y5 c=>?_
 obtain ⟨f,A4,o,m,g,j,Ay⟩:=y5
 cases f
 ·obtain ⟨Y,he⟩:=c.2 rfl
  try dsimp only at Y he
  subst Y
  try dsimp only [cond_true,cond_false,List.cons_append,List.nil_append]
  refine bh 5 U<|RK X<|aj fun _ As=>ax<|WS fun _ N=>rP 3 [] mn ?_
  refine RK N<|bQ U (br fun M=>?_) (bu fun M=>?_)
  ·exact absurd M he
  refine WS fun _ O=>rS (SX (bk (xs:=[]) (cs:=(aa.cells (aa.mk 0 0))) U U (bj gv U)) U U)<|bh 1 U<|fX U cx U<|rP 1 [] mn ?_
  refine RK O<|aq<|lG hQ [0] (mc 0 U mn) U ?_
  first|(have e:=oV (h:=h) (i:=i) he; have B:iA r h i=dH:=if_neg (fun q=>by rw [e] at q; exact he q); rw [e,B]; rfl)|(have e:=o_ (h:=h) (i:=i) he I; have B:iA r h i=dH:=if_neg (fun q=>by rw [e] at q; cases q); rw [e,B]; rfl)|(have e:=nT he I A hd C; have B:iA r h i=dH:=if_neg (fun q=>by rw [e] at q; cases q); rw [e,B]; rfl)|(have e:=qk he I A hd C; rw [e.1,e.2,H]; done)
 obtain ⟨he,J⟩:=c.1 rfl
 try dsimp only [cond_true,cond_false,List.cons_append,List.nil_append]
 try dsimp only at J
 have a:=(fM he).2
 refine bh 5 U<|RK X<|aj fun _ P=>ax<|WS fun _ R=>bh 1 U<|rS (SX (b_ (r:= .bool false) U U U nK) U U)<|bh 1 U<|RK R<|aW U<|WS fun _ K=>rP 5 [] (mc 5 U mn) ?_
 refine df (xs:=[.tmp 25]) (cs:=[(vI h)]) U cw js U U U U (by simp [Value.cells]) U U fun k=>?_
 refine rS (CL (ep.eq (kg 0 ((r.an.length:Int)-1) ([h]) (some ⟨k,0,none⟩) 1 sd) cY) (av (bf 0 U U (by simp [bI]) U)<|aI) U) ?_
 refine rP 2 [] mn ?_
 refine dh (t:=29) U (bu fun s=>?_) (br fun s=>?_)
 ·refine bh 7 U<|RK K<|aQ U<|WS fun _ S=>rS (SX (bk (xs:=[]) (cs:=(aa.cells (aa.mk 0 0))) U U (bj gv U)) U U)<|ID U cx U<|rP 1 [] mn ?_
  refine RK S<|aq<|lG hQ [0] (mc 5 U mn) U ?_
  first|(have e:=oV (h:=h) (i:=i) he; have B:iA r h i=dH:=if_neg (fun q=>by rw [e] at q; exact he q); rw [e,B]; rfl)|(have e:=o_ (h:=h) (i:=i) he I; have B:iA r h i=dH:=if_neg (fun q=>by rw [e] at q; cases q); rw [e,B]; rfl)|(have e:=nT he I A hd C; have B:iA r h i=dH:=if_neg (fun q=>by rw [e] at q; cases q); rw [e,B]; rfl)|(have e:=qk he I A hd C; rw [e.1,e.2,H]; done)
 refine rP 2 [] mn ?_
 refine df (xs:=[.tmp 31]) (cs:=[(vI i)]) U cw js U U U U (by simp [Value.cells]) U U fun l=>?_
 refine rS (CL (ep.eq (An r kA kC az cA cC bA bC slA slC drA drC ha heA heC Ay g j (Value.map (some m)) o ([i]) (some ⟨l,0,none⟩) 1 hin sd) cY) (l8 [9,10,11,12,13,14,15,16]<|av (ag (n:=(cS r).length) 3 U (m7 (by rw [F]; exact J)))<|av (dL 4 U s7)<|fj 2 U U<|av (bf 0 U U (by simp [bI]) U)<|aI) U) ?_
 refine rP 3 [] mn ?_
 refine RK K<|cH U (bu fun p=>?_) (br fun p=>?_)
 ·refine WS fun _ T=>rS (SX (bk (xs:=[]) (cs:=(aa.cells (aa.mk 0 0))) U U (bj gv U)) U U)<|OH U cx U<|rP 1 [] mn ?_
  refine RK T<|aq<|lG hQ [0] (mc 6 U mn) U ?_
  first|(have e:=oV (h:=h) (i:=i) he; have B:iA r h i=dH:=if_neg (fun q=>by rw [e] at q; exact he q); rw [e,B]; rfl)|(have e:=o_ (h:=h) (i:=i) he I; have B:iA r h i=dH:=if_neg (fun q=>by rw [e] at q; cases q); rw [e,B]; rfl)|(have e:=nT he I A hd C; have B:iA r h i=dH:=if_neg (fun q=>by rw [e] at q; cases q); rw [e,B]; rfl)|(have e:=qk he I A hd C; rw [e.1,e.2,H]; done)
 refine WS fun _ AA=>rP 3 [] (mc 7 U mn) ?_
 obtain ⟨ht,A⟩:=aJ r.an ((h).toNat) I
 obtain ⟨D,E⟩:=aJ ha ((h).toNat) I
 have Z:(List.zipWith ct r.an ha)[(h).toNat]? =some (ct ht D):=dG A E
 refine rS (IA ((h).toNat) U (aA 15 U) nA dc I I) ?_
 have z:=hin.nN _ _ _ A E
 have A1:=z.od
 have AC:=(a.nN ht (aT A)).1
 refine rS (fT ((h).toNat) 0 (vS D.1.1 ht.length D.1.2) U cd (aA 15 U) Z U dc U)<|rP 1 [] mn ?_
 obtain ⟨d,hd⟩:=aJ ht ((i).toNat) I
 obtain ⟨da,v⟩:=aJ D.2 ((i).toNat) I
 have y:(List.zipWith aw.cells ht D.2)[(i).toNat]? =some (aw.cells d da):=dG hd v
 refine rS (IA ((i).toNat) U (show jc _ (rd D.1.1 ht.length 7 (List.zipWith aw.cells ht D.2)).holds from (dk 16 U (bV A E cm))) ug dc I I)<|rS (mW (((i).toNat)*7) U (show jc _ (rd D.1.1 ht.length 7 (List.zipWith aw.cells ht D.2)).holds from (dk 16 U (bV A E cm))) (Nat.mul_pos I dc) fp U)<|rS (fT ((i).toNat) 0 (vB d.Out) U cd (show jc _ (rd D.1.1 ht.length 7 (List.zipWith aw.cells ht D.2)).holds from (dk 16 U (bV A E cm))) y U dc U)<|rP 1 [] mn ?_
 refine RK AA<|cH U (fun C=>?_) (fun C=>?_)
 ·refine WS fun _ V=>rS (SX (bk (xs:=[]) (cs:=(aa.cells (aa.mk 0 0))) U U (bj gv U)) U U)<|OH U cx U<|rP 1 [] mn ?_
  refine RK V<|aq<|lG hQ [0] (mc 6 U mn) U ?_
  first|(have e:=oV (h:=h) (i:=i) he; have B:iA r h i=dH:=if_neg (fun q=>by rw [e] at q; exact he q); rw [e,B]; rfl)|(have e:=o_ (h:=h) (i:=i) he I; have B:iA r h i=dH:=if_neg (fun q=>by rw [e] at q; cases q); rw [e,B]; rfl)|(have e:=nT he I A hd C; have B:iA r h i=dH:=if_neg (fun q=>by rw [e] at q; cases q); rw [e,B]; rfl)|(have e:=qk he I A hd C; rw [e.1,e.2,H]; done)
 refine bZ<|aB<|KK P<|WS fun _ W=>bh 1 U<|rS (SX (bO U U) U U)<|rP 3 [] (mc 2 U mn) ?_
 obtain ⟨tr,AB⟩:=aJ (cS r) ((h).toNat) I
 obtain ⟨tra,G⟩:=aJ Ay ((h).toNat) I
 have b:(List.zipWith Eb (cS r) Ay)[(h).toNat]? =some (Eb tr tra):=dG AB G
 refine rS (IA ((h).toNat) U (ag (n:=(cS r).length) 3 U (m7 (by rw [F]; exact J))) FD dc I I) ?_
 have L:=zC A AB
 have A3:tr.length=r.aL.length:=by rw [L,List.length_map]; exact AC
 refine rS (fT ((h).toNat) 0 (vS tra.1 tr.length tra.2) U cd (ag (n:=(cS r).length) 3 U (m7 (by rw [F]; exact J))) b U dc U) ?_
 refine rP 1 [] mn ?_
 obtain ⟨x,hx⟩:=aJ tr ((i).toNat) I
 have Ai:=bK aa.cells hx
 refine rS (IA ((i).toNat) U (show jc _ (rd tra.1 tr.length 2 (tr.map aa.cells)).holds from (fun w hw=>(dL 4 U s7) w hw _ (bV AB G (by simp [MW])))) gY dc I I) ?_
 have H:=L5 L hx hd
 refine rS (oT ((i).toNat) 0 (aa.cells x) U cd (show jc _ (rd tra.1 tr.length 2 (tr.map aa.cells)).holds from (fun w hw=>(dL 4 U s7) w hw _ (bV AB G (by simp [MW])))) Ai U dc U U)<|OH U cx U<|rP 1 [] mn ?_
 refine RK W<|aq<|lG hQ [0] (mc 6 U mn) U ?_
 first|(have e:=oV (h:=h) (i:=i) he; have B:iA r h i=dH:=if_neg (fun q=>by rw [e] at q; exact he q); rw [e,B]; rfl)|(have e:=o_ (h:=h) (i:=i) he I; have B:iA r h i=dH:=if_neg (fun q=>by rw [e] at q; cases q); rw [e,B]; rfl)|(have e:=nT he I A hd C; have B:iA r h i=dH:=if_neg (fun q=>by rw [e] at q; cases q); rw [e,B]; rfl)|(have e:=qk he I A hd C; rw [e.1,e.2,H]; done)
end
section
open Go.RowKit
theorem IG (m:g8) (gm g1:Nat):
 E2 Tryz.prog 86 [] [(vP g1)] [(g_ iV gm (bM dD m)),(cb g1 40 [(Value.map (some gm))])] ([]:List Int) (fun ys x ys'=> ∃ n zs,(ys++[n]++zs).Perm (m.map (·.1))∧x=[vI n]∧ys'=ys++[n]) (fun ys=>ys.Perm (m.map (·.1))):=by
 refine uf kr Tryz.func86 U U fun l J Z A0 S Q hY M L hQ hN=>?_
 try dsimp only
 refine WS fun _ O=>rP 1 [] (mr 2 U mn) ?_
 refine j3 (kV:=iV) (m:=bM dD m) 1 U U k8 U ⟨U,fun h=>h⟩ (by exact iM 1 U) U fun V=>?_
 try dsimp only
 refine RK O<|ax ?_
 have G:(oK m m ([]:List Int))∧(∀ p∈m,p∈m)∧(J ([]:List Int) A0)∧(Fo A0 S A0):=by exact ⟨vx,fun p hp=>hp,M,L⟩
 refine bL (ι:={z:g8×(List Int)×au // (oK m z.1 z.2.1)∧(∀ p∈z.1,p∈m)∧(J z.2.1 z.2.2)∧(Fo A0 S z.2.2)}) [0,1,5] [2,3] U U (fun z=>[]) (fun z=>[(zT iV V gm (bM dD m) (bM dD z.1.1) none),z.1.2.2]) (fun _=>rfl) (fun _=>rfl) (fun z=>z.1.1.length) ⟨(m,([]:List Int),A0),G⟩ (du.nil _) (aH [2,3,0,1]) ?_
 clear G
 rintro ⟨⟨left,ys,A⟩,⟨B,H,C,D⟩⟩ J3 N
 try dsimp only at B H C D
 try dsimp only
 refine WS fun _ AB=>jr (db mY).inj (f:=dD) 2 U U U U (fun T=>?_) (fun x y hm hn=>?_)
 ·refine rP 1 [] mn ?_
  refine RK AB<|aj fun _ AA=>aW U<|bD<|ab<|ab<|ay ?_
  refine hN _ _ _ (hE (vs:=[]) trivial fun w hs=>IN 3 U (by rw [T] at B; exact xD B) C D hs)
 try dsimp only
 refine bh 1 U<|RK AB<|aj fun _ P=>aQ U<|WK P<|ax<|WS fun _ R=>rS (SX (jq 2 U U U) U U)<|bh 2 U<|RK R<|WS fun _ K=>rP 2 [] mn ?_
 refine kK (k:=ys) (k':=(ys++[(x)])) 3 (by first|exact hsz|exact Nat.le_refl _) hY C D U U U (by exact ⟨x,_,oh hn hm B,U,U⟩) U U (fun B9 F E=>?_) (fun B9 F E=>?_)
 rotate_left 1
 ·refine rP 1 [] mn ?_
  refine RK K<|aQ U<|aq ?_
  refine hQ _ _ _ (hE (vs:=[]) trivial fun w hs=>rT 3 U F E hs)
 refine rP 1 [] mn ?_
 refine RK K<|aW U<|bZ<|aB<|g9 2 U fJ U ?_
 refine aR (N ⟨((cG left x),(ys++[(x)]),B9),⟨oh hn hm B,gj H,F,E⟩⟩ _ _ _ U (e7 hm) (aV U) (aH [0,1,2,3]))
theorem F8 (gm:Nat):
 ld Tryz.prog 52 [(Value.map (some gm))] [] (fun (x:Nat)=>(Value.func (.func 86) [].toArray [(vP x)].toArray)) (fun (x:Nat)=>True) (fun (x:Nat)=>[(cb x 40 [(Value.map (some gm))])]):=by
 refine dg kr Tryz.func52 U U fun D Q hQ hN=>?_
 try dsimp only
 refine WS fun _ A=>uC U U fun C=>bh 1 U<|RK A<|WS fun _ B=>rS (FU U)<|rP 1 [] mn ?_
 refine RK B<|aq<|LX hQ C [0] [] mn U U U U ?_
 trivial
end
section
open Go.RowKit
theorem Ib (m:g8) (gm g1:Nat) (hlen:m.length≤12):
 ld Tryz.prog 120 [(vS none 0 0),(Value.func (.func 86) [].toArray [(vP g1)].toArray)] [(g_ iV gm (bM dD m)),(cb g1 40 [(Value.map (some gm))])] (fun (x:(List Int)×(OA)×Nat)=>(vS x.2.1 x.1.length x.2.2)) (fun (x:(List Int)×(OA)×Nat)=>x.1.Perm (m.map (·.1))) (fun (x:(List Int)×(OA)×Nat)=>[(own x.2.1 x.2.2 3 1 (x.1.map iC))]):=by
 refine dg kr Tryz.func120 U U fun X Q hQ hN=>?_
 try dsimp only
 refine WS fun _ AB=>uC U U fun N=>bh 1 U<|RK AB<|aj fun _ J=>WS fun _ K=>rP 1 [] mn ?_
 refine RK K<|ax<|kF 1 U (by exact fun _ h=>h)<|kF 3 U (by exact fun _ h=>h)<|fZ 3 1 ?_
 refine nz (L0:=[(2,(vP N))]) (F:=[(g_ iV gm (bM dD m)).ro,(cb g1 40 [(Value.map (some gm))]).ro]) (fun k (y:(OA)×Nat)=>(∃ zs,(k++zs).Perm (m.map (·.1)))) (fun k y=>[(own y.1 y.2 3 1 (k.map iC)),(cb N 29 [(vS y.1 k.length y.2)]),(g_ iV gm (bM dD m)).ro]) (fun _ (_:Unit)=>False) (fun _ _=>[]) [0,3,4] [2,1] (none,0) rfl rfl (IG m gm g1) rfl rfl rfl (by exact ⟨_,List.Perm.refl _⟩) (by simp only [List.forall_mem_cons,List.not_mem_nil,false_imp_iff,implies_true,and_true]; exact ⟨⟨_,sm,(dQ (bS _))⟩,⟨_,sm,(dQ (bS _))⟩⟩) (by rintro k x AA ⟨n,zs,_,rfl,_⟩; rfl) rfl (aV rfl) ?_ ?_ (fun _ _ _ h=>h.elim) (fun _ _ h=>h.elim)
 rotate_left 1
 ·rintro V k ⟨a,c⟩ E A
  have B:=A
  try dsimp only at B
  try dsimp only
  refine aB<|KK J<|WS fun _ C=>rP 2 [] (mc 4 U mn) ?_
  refine RK C<|aq<|hQ _ _ _ (oN 0 U U<|hE (vs:=[(vS a k.length c)]) ⟨U,trivial⟩ fun w hs=>Jx (k,a,c) [3] ?_ ?_ U U U hs)
  ·rfl
  ·first|exact E|exact hys
 rintro k x AA ⟨a,c⟩ l ra rb S Y K5 Qr6 T hx G L D O P
 obtain ⟨n,zs,hn,rfl,rfl⟩:=hx; have M:=hn.length_eq; simp only [List.length_append,List.length_map,List.length_singleton] at M
 have B:=G
 try dsimp only at B
 try dsimp only
 refine ak<|rP 1 [] mn ?_
 refine aC<|aR (L _ _ ?_)
 refine ax<|ak<|rP 2 [] (mc 2 U mn) ?_
 refine df (xs:=[.tmp 9]) (cs:=[(vI n)]) U cw js U U U U (by simp [Value.cells]) U U fun W=>?_
 refine cL (es2:=(List.map iC (k++[n]))) (m':=(k++[n]).length) 2 U U U o2 U U sm (bf (es:=List.map iC [n]) 0 U U (by simp [bI]) U) (jM _) os (by simp only [maxLen]; omega) sm sm U fun R H=>?_
 try dsimp only
 refine U0 U xn U U<|aC<|aB ?_
 exact D (R,H) _ _ (by exact ⟨_,hn⟩) (aH [1,2,3,4])
end
section
open Go.RowKit
theorem D5 (m:g8) (gm g1:Nat) (hlen:m.length≤12):
 ld Tryz.prog 85 [(Value.func (.func 86) [].toArray [(vP g1)].toArray)] [(g_ iV gm (bM dD m)),(cb g1 40 [(Value.map (some gm))])] (fun (x:(List Int)×(OA)×Nat)=>(vS x.2.1 x.1.length x.2.2)) (fun (x:(List Int)×(OA)×Nat)=>x.1.Perm (m.map (·.1))) (fun (x:(List Int)×(OA)×Nat)=>[(own x.2.1 x.2.2 3 1 (x.1.map iC))]):=by
 refine dg kr Tryz.func85 U U fun AA Q hQ hN=>?_
 try dsimp only
 refine WS fun _ A=>bh 1 U<|RK A<|WS fun _ B=>rP 1 [] mn ?_
 refine cX (Ib m gm g1 hlen) (bg [0,1]) U fun H C=>?_
 obtain ⟨E,F,G⟩:=H
 try dsimp only
 have D:=C
 refine rP 1 [] mn ?_
 refine RK B<|aq<|LX hQ (E,F,G) [0] [] mn U U U U ?_
 first|exact hfin|exact D
theorem zN (m:g8) (gm g1:Nat) (hlen:m.length≤12):
 ld Tryz.prog 51 [(Value.func (.func 86) [].toArray [(vP g1)].toArray)] [(g_ iV gm (bM dD m)),(cb g1 40 [(Value.map (some gm))])] (fun (x:(OA)×Nat)=>(vS x.1 m.length x.2)) (fun (x:(OA)×Nat)=>True) (fun (x:(OA)×Nat)=>[(own x.1 x.2 3 1 ((dv (m.map (·.1))).map iC))]):=by
 refine dg kr Tryz.func51 U U fun M Q hQ hN=>?_
 try dsimp only
 refine WS fun _ E=>bh 1 U<|RK E<|WS fun _ F=>rP 1 [] mn ?_
 refine cX (D5 m gm g1 hlen) (bg [0,1]) U fun L H=>?_
 obtain ⟨AA,J,K⟩:=L
 try dsimp only
 have D:=H
 refine bh 1 U<|RK F<|WS fun _ G=>rP 1 [] mn ?_
 have B:=D.length_eq
 simp only [List.length_map] at B
 refine jd 0 U U U U (Av AA J K sd) U ks U (fun ms C=>?_)
 try dsimp only
 refine RK G<|WS fun _ A=>?_
 obtain rfl:=qu (C.1.trans D) C.2
 skip
 refine rP 2 [] mn ?_
 refine RK A<|aq ?_
 refine LX hQ (J,K) [0] [] mn U U U ?_ ?_
 ·first|rfl|(rw [B]; rfl)
 ·trivial
end
end Go.Proofs.YtlajhejcfcoddaaGreatDoor
