/-
 The statement raceNarrowed_said, part 6 of 8: V2, V1, V4, V3, V5, V6, V8, Wh2, Rc2, Rc3, Rc4, Rs3, Rs4, Rs6, Rs7, Rs8, RkB, RaB, RtB, Rp0, Rp1, Rp2, Rt1, Rt3, Rr1, Rx1, Rx8.
 Conditions: none.
-/
import Derived.Test.YtadjgjnicdcjbaaGreatDoorTz1
import Derived.Test.YtadjgjnicdcjbaaGreatDoorTz2
import Derived.Test.YtadjgjnicdcjbaaGreatDoorTz3
import Derived.Test.YtadjgjnicdcjbaaGreatDoorTz4
import Derived.Test.YtadjgjnicdcjbaaGreatDoorTz5
namespace Go.Proofs.YtadjgjnicdcjbaaGreatDoor
set_option maxRecDepth 100000
set_option maxHeartbeats 4000000
set_option linter.unusedVariables false
section
open Go.RowKit
theorem r8 (ln:cb) (ri:eH) (e:List Int) (tms:List TM) (e_A:OA) (e_C:Nat) (tb:List Nat) (t_A:OA) (t_C:Nat) (fA:OA) (fN fC:Nat) (bA:OA) (bN bC:Nat) (gw b:Nat) (g1 g2:Nat) (hb:b<tms.length) (htb:tb.length=tms.length):
 EF Tryz.prog 220 [] [(vP g1),(vP g2)] [(rd e_A e.length 1 (e.map iC)),(rd t_A tms.length 1 (List.zipWith gG tms tb)),(e7 (aU rz tms tb)),(bU gw 274 (bY.cells (bY.mk ln ri (bp.mk e_A e.length e_C) (bp.mk t_A tms.length t_C) (bp.mk fA fN fC) (bp.mk bA bN bC)))),(bU g1 263 [(vP gw)]),(bU g2 3 [(vI (b:Int))])] ([]:List (Int×aa)) (fun ys x ys'=> ∃ o,o∈il (cE ln ri e tms) b∧x=O8 o∧ys'=ys++[o]) (fun ys=> ∀ o∈il (cE ln ri e tms) b,o∈ys):=by
 refine sV kr Tryz.func220 U U fun l J Z A0 d Q hY V AA hQ hN=>?_
 try dsimp only
 refine ai fun _ X=>ai fun _ R=>du cq 12 kr<|my 2 [] (mr 5 U I) U<|dS (SX (bI U U) U U)<|my 4 [0,1] (mr 4 U (mr 5 U I)) U<|dS (SX (bI U U) U U)<|dP 3 [] (mr 4 U I) ?_
 refine dS (SX (bh (xs:=[(0,.tmp 11),(1,.tmp 16)]) (cs:=(aa.cells (aa.mk ri.Start ri.f_))) U U (bg gn U)) U U)<|cH<|kq (k:=([]:List (Int×aa))) (k':=(([]:List (Int×aa))++[((-1),(aa.mk ri.Start ri.f_))])) 0 (by first|exact hsz|exact Nat.le_refl _) hY V AA U U U (by exact ⟨(-1,⟨ri.Start,ri.f_⟩),cf ..,U,U⟩) U U (fun B3 N M=>?_) (fun B3 N M=>?_)
 rotate_left 1
 ·refine rP 1 [] I ?_
  refine RK R<|aO U<|ao ?_
  refine hQ _ _ _ (gX (vs:=[]) trivial fun w hs=>rQ 0 U N M hs)
 refine a_ 1 U<|RK R<|aW U<|WK X<|ai fun _ Y=>du cq 7 kr<|my 1 [] (mr 5 U I) U<|dS (SX (bI U U) U U)<|dP 3 [0,1] (mr 4 U (mr 6 U I)) ?_
 obtain ⟨x,hx⟩:=aL tms b om
 obtain ⟨xa,L⟩:=aL tb b om
 have a:(List.zipWith gG tms tb)[b]? =some (gG x xa):=dM hx L
 refine dS (IA b U (aD 2 U) FJ dc om om)<|dS (gp b 0 (Value.map (some xa)) U b_ (aD 2 U) a U dc U)<|cH<|iH (kV:=iV) (m:=bG db x) 3 U U l8 U ⟨⟨(hE iV xa (bG db x)),(bW hx L (by simp [rz])),U⟩,fun h=>h⟩ (show i_ _ (hE iV xa (bG db x)).holds from dx 3 U (bW hx L (by simp [rz]))) U fun j=>?_
 try dsimp only
 refine RK Y<|ax ?_
 have G:(∀ o∈x,o∈x∨o∈(([]:List (Int×aa))++[((-1),(aa.mk ri.Start ri.f_))]))∧(∀ o∈x,o∈x)∧(J (([]:List (Int×aa))++[((-1),(aa.mk ri.Start ri.f_))]) B3)∧(Fo A0 d B3)∧((-1,(⟨ri.Start,ri.f_⟩:aa))∈(([]:List (Int×aa))++[((-1),(aa.mk ri.Start ri.f_))])):=by exact ⟨fun o ho=> .inl ho,fun o ho=>ho,asm,asm,sm⟩
 refine bK (ι:={z:TM×(List (Int×aa))×au // (∀ o∈x,o∈z.1∨o∈z.2.1)∧(∀ o∈z.1,o∈x)∧(J z.2.1 z.2.2)∧(Fo A0 d z.2.2)∧((-1,(⟨ri.Start,ri.f_⟩:aa))∈z.2.1)}) [0,1,2,27] [2,3,4,6,7] U U (fun z=>[]) (fun z=>[(yf iV j xa (bG db x) (bG db z.1.1) none),z.1.2.2]) (fun _=>rfl) (fun _=>rfl) (fun z=>z.1.1.length) ⟨(x,(([]:List (Int×aa))++[((-1),(aa.mk ri.Start ri.f_))]),B3),G⟩ (dw.nil _) (aI [2,3,4,6,7,0,1]) ?_
 clear G
 rintro ⟨⟨left,ys,A⟩,⟨B,C,D,E,F⟩⟩ J8 W
 try dsimp only at B C D E F
 try dsimp only
 refine WS fun _ S=>g9 (dK oz).inj (f:=db) 5 U U U U (fun T=>?_) (fun i z hm hn=>?_)
 ·refine rP 1 [] I ?_
  refine RK S<|ai fun _ c=>aW U<|bw<|ab<|ab<|ay ?_
  refine hN _ _ _ (gX (vs:=[]) trivial fun w hs=>JF 6 U (by exact HA hx B T F) D E hs)
 try dsimp only
 refine a_ 1 U<|RK S<|ai fun _ O=>aO U<|WK O<|ax<|WS fun _ P=>rS (SX (g8 5 U U U) U U)<|a_ 2 U<|AL U cZ fun g=>a_ 1 U<|fO U cp U<|RK P<|WS fun _ K=>rP 3 [] (mc 0 U I) ?_
 refine kq (k:=ys) (k':=(ys++[(i,z)])) 7 (by first|exact hsz|exact Nat.le_refl _) hY D E U U U (by exact ⟨(i,z),(w4 hx).2 (.inr (C _ hm)),U,U⟩) U U (fun B15 AB H=>?_) (fun B15 AB H=>?_)
 rotate_left 1
 ·refine rP 1 [] I ?_
  refine RK K<|aO U<|ao ?_
  refine hQ _ _ _ (gX (vs:=[]) trivial fun w hs=>rQ 7 U AB H hs)
 refine rP 1 [] I ?_
 refine RK K<|aW U<|bV<|aG<|fP 6 U ep U ?_
 refine aR (W ⟨((cj left i),(ys++[(i,z)]),B15),⟨Hs hn hm B,mh C,asm,asm,by simp [F]⟩⟩ _ _ _ U (dF hm) (aS U) (aI [1,2,3,4,5,6,7]))
theorem ud (gw b:Nat):
 lD Tryz.prog 212 [(vP gw),(vI (b:Int))] [] (fun (x:Nat×Nat)=>(Value.func (.func 220) [].toArray [(Value.pointer (some ⟨x.1,0,none⟩)),(Value.pointer (some ⟨x.2,0,none⟩))].toArray)) (fun (x:Nat×Nat)=>True) (fun (x:Nat×Nat)=>[(bU x.1 263 [(vP gw)]),(bU x.2 3 [(vI (b:Int))])]):=by
 refine di kr Tryz.func212 U U fun E Q hQ hN=>?_
 try dsimp only
 refine WS fun _ A=>uT U U fun C=>uT U U fun D=>a_ 1 U<|RK A<|WS fun _ B=>rS (FU U)<|rP 1 [] I ?_
 refine RK B<|ao<|LX hQ (C,D) [1,0] [] I U U U U ?_
 trivial
theorem LG (gw b:Nat):
 lD Tryz.prog 207 [(vP gw),(vI (b:Int))] [] (fun (x:Nat×Nat)=>(Value.func (.func 211) [].toArray [(Value.pointer (some ⟨x.1,0,none⟩)),(Value.pointer (some ⟨x.2,0,none⟩))].toArray)) (fun (x:Nat×Nat)=>True) (fun (x:Nat×Nat)=>[(bU x.1 263 [(vP gw)]),(bU x.2 3 [(vI (b:Int))])]):=by
 refine di kr Tryz.func207 U U fun E Q hQ hN=>?_
 try dsimp only
 refine WS fun _ A=>uT U U fun C=>uT U U fun D=>a_ 1 U<|RK A<|WS fun _ B=>rS (FU U)<|rP 1 [] I ?_
 refine RK B<|ao<|LX hQ (C,D) [1,0] [] I U U U U ?_
 trivial
end
section
open Go.RowKit
theorem oR:um Tryz.prog 280 dZ:=Nx Pm (fun x y w=>PW 9998 x y w) (fun x y h=>by cases x; cases y; simp [aC.cells] at h; simp [h]) (fun x=>by simp [aC.cells,Instr.sameBits]) (fun x w=>⟨_,rfl,fun p hp=>by
 simp only [ed,List.not_mem_nil,or_false] at hp
 rcases hp with rfl|rfl
 ·exact ⟨⟨_,jL b_ U w⟩,_,oz⟩
 ·exact ⟨⟨_,jL b_ U w⟩,_,oz⟩⟩)
theorem Le (s:Int):
 dV Tryz.prog 215 [(vI s)] [] (vA (aC.cells (fh s))):=by
 refine bx kr Tryz.func215 U U fun H Q hQ hN=>?_
 try dsimp only
 refine WS fun _ B=>AL U tY fun G=>RK B<|ai fun _ C=>WS fun _ D=>rP 2 [] I ?_
 refine RK D<|cy U (aP fun A=>?_) (aQ fun A=>?_)
 ·refine WS fun _ E=>rS (SX (bh (xs:=[(1,.const (vI 1))]) (cs:=(aC.cells (aC.mk 0 1))) U U (bg Cy U)) U U)<|fO U rK U<|RK E<|ao<|Ic hQ [0] (mc 0 U I) U ?_
  unfold fh; first|rw [if_pos A]|rw [if_neg A]
 refine WK C<|WS fun _ F=>rS (SX (bh (xs:=[(0,.const (vI 1))]) (cs:=(aC.cells (aC.mk 1 0))) U U (bg Cy U)) U U)<|fO U rK U<|RK F<|ao<|Ic hQ [0] (mc 0 U I) U ?_
 unfold fh; first|rw [if_pos A]|rw [if_neg A]
theorem vN (x:aC) (y:aC) (hx:(0≤x.right∧x.right≤1000)∧0≤x.eQ∧x.eQ≤1000) (hy:(0≤y.right∧y.right≤1000)∧0≤y.eQ∧y.eQ≤1000):
 dV Tryz.prog 214 [(vA (aC.cells x)),(vA (aC.cells y))] [] (vA (aC.cells (dj x y))):=by
 refine bx kr Tryz.func214 U U fun F Q hQ hN=>?_
 try dsimp only
 refine WS fun _ A=>fQ U fun C=>fQ U fun D=>AL U tY fun E=>RK A<|WS fun _ B=>rP 10 [0,1,0,1] (mc 2 U (mc 1 U I)) ?_
 refine rS (SX (bh (xs:=[(0,.tmp 9),(1,.tmp 14)]) (cs:=(aC.cells (aC.mk (x.right+y.right) (x.eQ+y.eQ)))) U U (bg Cy U)) U U)<|fO U rK U<|RK B<|ao ?_
 exact Ic hQ [0] (mc 0 U I) U U
theorem Pg (ln:cb) (ri:eH) (e:List Int) (tms:List TM) (e_A:OA) (e_C:Nat) (tb:List Nat) (t_A:OA) (t_C:Nat) (fs:List FM) (bs:List FM) (fb:List Nat) (f_A:OA) (f_C:Nat) (bb:List Nat) (b_A:OA) (b_C gw:Nat) (x:aC) (hx:(0≤x.right∧x.right≤1000)∧0≤x.eQ∧x.eQ≤1000) (hn:ri.ah.n≤1000):
 dV Tryz.prog 213 [(vP gw),(vA (aC.cells x))] [(rd e_A e.length 1 (e.map iC)),(rd t_A tms.length 1 (List.zipWith gG tms tb)),(e7 (aU rz tms tb)),(rd f_A fs.length 1 (List.zipWith gG fs fb)),(e7 (aU nM fs fb)),(rd b_A bs.length 1 (List.zipWith gG bs bb)),(e7 (aU nM bs bb)),(bU gw 274 (bY.cells (bY.mk ln ri (bp.mk e_A e.length e_C) (bp.mk t_A tms.length t_C) (bp.mk f_A fs.length f_C) (bp.mk b_A bs.length b_C))))] (vB (ku (cE ln ri e tms) x)):=by
 refine bx kr Tryz.func213 U U fun E Q hQ hN=>?_
 try dsimp only
 refine WS fun _ C=>fQ U fun D=>a_ 1 U<|RK C<|ai fun _ B=>du cq 26 kr<|my 3 [] (mc 0 U I) U<|dS (SX (bI U U) U U)<|dP 5 [] (mr 8 U I) ?_
 refine ji (t:=13) U (aQ fun A=>?_) (aP fun A=>?_)
 ·refine dP 17 [] I ?_
  refine cH<|RK B<|ao<|Q1 hQ U U U ?_
  exact cB (cd (fun h=>A h.1)).symm
 refine lv 1 U<|dS (SX (bI U U) U U)<|my 8 [0,1] (mr 8 U (mc 0 U I)) U<|dS (SX (bI U U) U U)<|dP 6 [] (mr 8 U I) ?_
 refine cH<|RK B<|ao<|Q1 hQ U U U ?_
 exact cB (decide_eq_decide.2 ⟨fun h=>⟨A,h⟩,fun h=>h.2⟩)
end
section
open Go.RowKit
theorem HR (ln:cb) (ri:eH) (e:List Int) (tms:List TM) (e_A:OA) (e_C:Nat) (tb:List Nat) (t_A:OA) (t_C:Nat) (fs:List FM) (bs:List FM) (fb:List Nat) (f_A:OA) (f_C:Nat) (bb:List Nat) (b_A:OA) (b_C gw:Nat) (b g1 g2:Nat) (mf:FM) (mb:FM) (hb:b<e.length) (hw:H7 (cE ln ri e tms)) (htb:tb.length=tms.length) (hfw:xC (cE ln ri e tms) fs) (hfb:fb.length=fs.length) (hbw:ug (cE ln ri e tms) bs) (hbb:bb.length=bs.length) (hsg:ri.ah.n≤1000) (hm1:fs[b]? =some mf) (hm2:bs[b+1]? =some mb):
 EF Tryz.prog 211 [] [(vP g1),(vP g2)] [(rd e_A e.length 1 (e.map iC)),(rd t_A tms.length 1 (List.zipWith gG tms tb)),(e7 (aU rz tms tb)),(rd f_A fs.length 1 (List.zipWith gG fs fb)),(e7 (aU nM fs fb)),(rd b_A bs.length 1 (List.zipWith gG bs bb)),(e7 (aU nM bs bb)),(bU gw 274 (bY.cells (bY.mk ln ri (bp.mk e_A e.length e_C) (bp.mk t_A tms.length t_C) (bp.mk f_A fs.length f_C) (bp.mk b_A bs.length b_C)))),(bU g1 263 [(vP gw)]),(bU g2 3 [(vI (b:Int))])] ([]:List (Int×aa)) (fun ys x ys'=> ∃ q,q∈pO (cE ln ri e tms) b mf mb∧x=O8 q∧ys'=ys++[q]) (fun ys=> ∀ q∈pO (cE ln ri e tms) b mf mb,q∈ys):=by
 have A7:e.length≤6:=hw.n
 have A8:tms.length=e.length:=hw.times
 have Az:fs.length=e.length+1:=hfw.len
 have Ay:bs.length=e.length+1:=hbw.len
 refine sV kr Tryz.func211 U U fun l J Z A0 w0 Q hY Ae Ad hQ hN=>?_
 try dsimp only
 refine WS fun _ Af=>uT U U fun b2=>RK Af<|WS fun _ Ag=>rP 2 [0,1] (mr 10 U (mr 11 U I)) ?_
 refine cX (ud gw b) (aJ) U fun y4 A9=>?_
 obtain ⟨AX,AY⟩:=y4
 try dsimp only
 refine RK Ag<|ax<|kl 4 U (by exact fun _ h=>h)<|kl 6 U (by exact fun _ h=>h)<|kl 8 U (by exact fun _ h=>h)<|kl 14 U (by exact fun _ h=>h) ?_
 refine nq (L0:=[(0,(Value.func (.yield l) #[] #[])),(1,(vP g1)),(2,(vP g2)),(3,(vP b2))]) (F:=[(rd e_A e.length 1 (e.map iC)).ro,(rd t_A tms.length 1 (List.zipWith gG tms tb)).ro,(e7 (aU rz tms tb)).ro,(bU gw 274 (bY.cells (bY.mk ln ri (bp.mk e_A e.length e_C) (bp.mk t_A tms.length t_C) (bp.mk f_A fs.length f_C) (bp.mk b_A bs.length b_C)))).ro,(bU AX 263 [(vP gw)]),(bU AY 3 [(vI (b:Int))])]) (fun k (y:(List (Int×aa))×au)=>(lB (cE ln ri e tms) b mf mb k y.1)∧(J y.1 y.2)∧(Fo A0 w0 y.2)) (fun k y=>[(bU b2 277 [(Value.func (.yield l) #[] #[])]),y.2,(rd e_A e.length 1 (e.map iC)).ro,(rd t_A tms.length 1 (List.zipWith gG tms tb)).ro,(e7 (aU rz tms tb)).ro,(rd f_A fs.length 1 (List.zipWith gG fs fb)).ro,(e7 (aU nM fs fb)).ro,(rd b_A bs.length 1 (List.zipWith gG bs bb)).ro,(e7 (aU nM bs bb)).ro,(bU gw 274 (bY.cells (bY.mk ln ri (bp.mk e_A e.length e_C) (bp.mk t_A tms.length t_C) (bp.mk f_A fs.length f_C) (bp.mk b_A bs.length b_C)))).ro,(bU g1 263 [(vP gw)]).ro,(bU g2 3 [(vI (b:Int))]).ro]) (fun c (z:au)=>(c= .ret∧(Z z)∧(Fo A0 w0 z))) (fun _ z=>[(bU b2 277 [(Value.func (.yield l) #[] #[])]),z,(rd e_A e.length 1 (e.map iC)).ro,(rd t_A tms.length 1 (List.zipWith gG tms tb)).ro,(e7 (aU rz tms tb)).ro,(rd f_A fs.length 1 (List.zipWith gG fs fb)).ro,(e7 (aU nM fs fb)).ro,(rd b_A bs.length 1 (List.zipWith gG bs bb)).ro,(e7 (aU nM bs bb)).ro,(bU gw 274 (bY.cells (bY.mk ln ri (bp.mk e_A e.length e_C) (bp.mk t_A tms.length t_C) (bp.mk f_A fs.length f_C) (bp.mk b_A bs.length b_C)))).ro,(bU g1 263 [(vP gw)]).ro,(bU g2 3 [(vI (b:Int))]).ro]) [6,7,8,9,10,11,12,13,14,15,16,17] [3,2,1,0,4,5] (([]:List (Int×aa)),A0) rfl rfl (r8 ln ri e tms e_A e_C tb t_A t_C f_A fs.length f_C b_A bs.length b_C gw b AX AY om om) rfl rfl rfl (by exact ⟨lB.nil,Ae,Ad⟩) (by simp only [List.forall_mem_cons,List.not_mem_nil,false_imp_iff,implies_true,and_true]; exact ⟨⟨_,aT (i:=0) rfl,(dC (bP _))⟩,⟨_,aT (i:=1) rfl,(dC (bP _))⟩,⟨_,aT (i:=2) rfl,(dC (bP _))⟩,⟨_,aT (i:=3) rfl,(dC (bP _))⟩,⟨_,aT (i:=4) rfl,(bP _)⟩,⟨_,aT (i:=5) rfl,(bP _)⟩⟩) (by rintro k x k2 ⟨o,_,rfl,_⟩; rfl) rfl (aS rfl) ?_ ?_ ?_ ?_
 rotate_left 1
 ·rintro BA k ⟨ys,A⟩ AS AC
  obtain ⟨X,Y,a⟩:=AC
  try dsimp only at X Y a
  try dsimp only
  refine aG ?_
  refine hN _ _ _ (ox 0 U U<|gX (vs:=[]) trivial fun w hs=>JF 8 U (by exact lB.fin X AS) Y a hs)
 ·rintro BB id A AV
  simp at AV
 ·rintro BC A AW
  obtain ⟨hc,Ak,Al⟩:=AW
  try dsimp only
  refine hQ _ _ _ (ox 0 U U<|gX (vs:=[]) trivial fun w hs=>rQ 8 U Ak Al hs)
 rintro k x k2 ⟨ys,A⟩ lr ra rb S w1 K8 Qr9 Am hx AB Ah AP At AZ
 obtain ⟨o,ho,rfl,rfl⟩:=hx
 obtain ⟨X,Y,a⟩:=AB
 try dsimp only at X Y a
 try dsimp only
 refine WS fun _ AG=>rP 1 [] I ?_
 refine RK AG<|ak<|AL U cZ fun Au=>fO U cp U<|aF<|jB (fun _ _ h=>h) (aI [1,0,2,3,4,5,6,7,8,9,10,11,12,13])<|aR (Ah _ _ ?_)
 refine ax<|ai fun _ AH=>du cq 7 kr<|my 1 [] (mr 12 U I) U<|dS (SX (bI U U) U U)<|dP 3 [0,1] (mr 11 U (mr 13 U I)) ?_
 obtain ⟨ga,s⟩:=aL fb b om
 have AT:(List.zipWith gG fs fb)[b]? =some (gG mf ga):=dM hm1 s
 refine dS (IA b U (aD 7 U) n_ dc om om)<|dS (gp b 0 (Value.map (some ga)) U b_ (aD 7 U) AT U dc U)<|cH<|iH (kV:=dZ) (m:=bG iV mf) 8 U U oQ U ⟨⟨(hE dZ ga (bG iV mf)),(bW hm1 s (by simp [nM])),U⟩,fun h=>h⟩ (show i_ _ (hE dZ ga (bG iV mf)).holds from dx 8 U (bW hm1 s (by simp [nM]))) U fun Ap=>?_
 try dsimp only
 refine RK AH<|ax ?_
 have C:(∀ p∈mf,p∈mf)∧(nz (cE ln ri e tms) b mf mb o mf ys)∧(lB (cE ln ri e tms) b mf mb k ys)∧(J ys A)∧(Fo A0 w0 A):=by exact ⟨fun p hp=>hp,nz.start,X,Y,a⟩
 refine bK (ι:={z:FM×(List (Int×aa))×au // (∀ p∈z.1,p∈mf)∧(nz (cE ln ri e tms) b mf mb o z.1 z.2.1)∧(lB (cE ln ri e tms) b mf mb k z.2.1)∧(J z.2.1 z.2.2)∧(Fo A0 w0 z.2.2)}) [0,1,2,3,4,5,23] [1,2,3,5,6,7,8,9,10,11,12,13,14] U U (fun z=>[]) (fun z=>[(yf dZ Ap ga (bG iV mf) (bG iV z.1.1) none),z.1.2.2]) (fun _=>rfl) (fun _=>rfl) (fun z=>z.1.1.length) ⟨(mf,ys,A),C⟩ (dw.nil _) (aI [1,2,3,5,6,7,8,9,10,11,12,13,14,0,4]) ?_
 clear C
 rintro ⟨⟨left,ys,A⟩,⟨K,M,N,O,P⟩⟩ J15 AF
 try dsimp only at K M N O P
 try dsimp only
 refine WS fun _ j=>g9 oR.inj (f:=iV) 13 U U U U (fun Ab=>?_) (fun t v hm hn=>?_)
 ·refine rP 1 [] I ?_
  refine RK j<|ai fun _ Ar=>aW U<|bw<|ab<|ab<|ay<|aG ?_
  exact AP (ys,A) _ _ (by exact ⟨lB.next N M Ab,O,P⟩) (aI [0,2,14,3,4,5,6,7,8,9,10,11,12])
 try dsimp only
 refine a_ 1 U<|RK j<|ai fun _ AI=>aO U<|WK AI<|ax<|WS fun _ AJ=>rS (SX (g8 13 U U U) U U)<|a_ 2 U<|AL U tY fun Av=>fO U rK U<|a_ 1 U<|RK AJ<|ai fun _ AK=>du cq 8 kr<|my 1 [] (mr 12 U I) U<|dS (SX (bI U U) U U)<|dP 4 [0,1] (mr 11 U (mr 13 U I)) ?_
 obtain ⟨gb,AA⟩:=aL bb (b+1) om
 have AU:(List.zipWith gG bs bb)[(b+1)]? =some (gG mb gb):=dM hm2 AA
 refine dS (IA (b+1) U (aD 9 U) n_ dc om om)<|dS (gp (b+1) 0 (Value.map (some gb)) U b_ (aD 9 U) AU U dc U)<|cH<|iH (kV:=dZ) (m:=bG iV mb) 10 U U oQ U ⟨⟨(hE dZ gb (bG iV mb)),(bW hm2 AA (by simp [nM])),U⟩,fun h=>h⟩ (show i_ _ (hE dZ gb (bG iV mb)).holds from dx 10 U (bW hm2 AA (by simp [nM]))) U fun Aq=>?_
 try dsimp only
 refine RK AK<|ax ?_
 have C:(∀ p∈mb,p∈mb)∧(ni (cE ln ri e tms) b mb o (t,v) mb ys)∧(nz (cE ln ri e tms) b mf mb o left ys)∧(lB (cE ln ri e tms) b mf mb k ys)∧(J ys A)∧(Fo A0 w0 A):=by exact ⟨fun p hp=>hp,ni.start,M,N,O,P⟩
 refine bK (ι:={z:FM×(List (Int×aa))×au // (∀ p∈z.1,p∈mb)∧(ni (cE ln ri e tms) b mb o (t,v) z.1 z.2.1)∧(nz (cE ln ri e tms) b mf mb o left z.2.1)∧(lB (cE ln ri e tms) b mf mb k z.2.1)∧(J z.2.1 z.2.2)∧(Fo A0 w0 z.2.2)}) [0,1,2,3,4,5,6,7,23,37] [1,2,3,4,5,6,7,8,9,10,11,12,13,14,15] U U (fun z=>[]) (fun z=>[(yf dZ Aq gb (bG iV mb) (bG iV z.1.1) none),z.1.2.2]) (fun _=>rfl) (fun _=>rfl) (fun z=>z.1.1.length) ⟨(mb,ys,A),C⟩ (dw.nil _) (aI [1,2,3,4,5,6,7,8,9,10,11,12,13,14,15,0,16]) ?_
 clear C
 rintro ⟨⟨l2,T,A2⟩,⟨B,D,E,G,H,Aa⟩⟩ J23 V
 try dsimp only at B D E G H Aa
 try dsimp only
 refine WS fun _ r=>g9 oR.inj (f:=iV) 15 U U U U (fun Ac=>?_) (fun u z L AD=>?_)
 ·refine rP 1 [] I ?_
  refine RK r<|ai fun _ As=>aW U<|bw<|ab<|ab<|ay<|aG<|fP 14 U ep U ?_
  refine aR (AF ⟨((cj left t),T,A2),⟨mh K,nz.next hn hm E D Ac,G,H,Aa⟩⟩ _ _ _ U (dF hm) (aS U) (aI [1,2,3,4,5,6,7,8,9,10,11,12,13,14,16]))
 try dsimp only
 refine a_ 1 U<|RK r<|ai fun _ AM=>aO U<|WK AM<|ax<|WS fun _ AN=>rS (SX (g8 15 U U U) U U)<|a_ 2 U<|AL U tY fun Aw=>fO U rK U<|rP 1 [] I ?_
 refine RK AN<|ai fun _ AO=>dD cq [17,18] [] [] [0,1,2,3,4,5,6,7,8,9,10,11,12,13,14,15,16,17] [] U U U U U<|eS U (MV U)<|eS U (TL 13 U b_ U)<|eS U (SX (bI U U) U U)<|eS U (FA 10 U fx U)<|eS U (Ib (vS e_A e.length e_C) 12 U b_ U U)<|eS U (TL 14 U b_ U) ?_
 obtain ⟨y,hy⟩:=aL e b om
 have An:=bH iC hy
 refine eS U (IA b U (aD 5 U) cv dc om om)<|eS U (gp b 0 (vI y) U b_ (aD 5 U) An U dc U) ?_
 have A1:=hw.least y (aT hy)
 have Aj:=Ii hw _ _ (hfw.mem hm1 (K _ hm))
 have Ai:=K9 hw (hbw.mem hm2 (B _ L))
 have A3:=uA o.1
 have A4:=hw.opt ho
 dsimp only at Aj Ai
 refine eS U (BI U (gY ⟨om,om⟩))<|eS U (FA 0 U fx U)<|eS U (L1 (vI o.2.Lo) 3 U b_ U U)<|eS U (MX U)<|eS U (MV U)<|eS U (FA 1 U fx U)<|eS U (L1 (vI o.2.Hi) 3 U b_ U U)<|eS U (MN U)<|eS U (SX (bh (xs:=[(0,.tmp 54),(1,.tmp 58)]) (cs:=(aa.cells (aa.mk (max (v+y) o.2.Lo) (min z o.2.Hi)))) U U (bg gn U)) U U)<|eX U<|bX U fun T30 AQ=>AL U cZ fun Ax=>aF (AQ _ _ (aI [1,2,3,4,5,6,7,8,9,10,11,12,13,14,15,16,17,18]) ?_)
 refine bX U fun T32 AR=>fO U cp U<|aF (AR _ _ (aI [1,2,3,4,5,6,7,8,9,10,11,12,13,14,15,16,17,18]) ?_)
 refine fF U<|KK AO<|ai fun _ R=>du cq 19 kr<|dP 6 [] (mc 0 U I) ?_
 refine ji (t:=65) U (aQ fun d=>?_) (aP fun d=>?_)
 ·refine lv 3 U<|lv 10 U<|cH<|rP 3 [] I ?_
  refine RK R<|aW U<|bV<|aG<|fP 17 U ep U ?_
  refine aR (V ⟨((cj l2 u),T,A2),⟨mh B,ni.skip AD L D (by exact H2 hy d),E,G,H,Aa⟩⟩ _ _ _ U (dF L) (aS U) (aI [2,3,4,5,6,7,8,9,10,11,12,13,14,15,16,17,18]))
 refine dP 3 [0,1,2] (mr 14 U (mc 2 U (mc 1 U I))) ?_
 have A6:(0≤(dj t u).right∧(dj t u).right≤1000)∧0≤(dj t u).eQ∧(dj t u).eQ≤1000:=by simp only [dj]; omega
 have A5:(0≤(dj (dj t u) (fh o.1)).right∧(dj (dj t u) (fh o.1)).right≤1000)∧0≤(dj (dj t u) (fh o.1)).eQ∧(dj (dj t u) (fh o.1)).eQ≤1000:=by simp only [dj]; omega
 refine dS (CL (vN t u om om) (aJ) U)<|lv 1 U<|dS (CL (Le o.1) (aJ) U)<|dS (CL (vN (dj t u) (fh o.1) asm om) (aJ) U)<|dS (CL (Pg ln ri e tms e_A e_C tb t_A t_C fs bs fb f_A f_C bb b_A b_C gw (dj (dj t u) (fh o.1)) asm hsg) (bf [6,7,8,9,10,11,12,13]) U)<|dP 2 [] I ?_
 refine ji (t:=75) U (fun g=>?_) (fun g=>?_)
 ·refine lv 3 U<|cH<|rP 3 [] I ?_
  refine RK R<|aW U<|bV<|aG<|fP 17 U ep U ?_
  refine aR (V ⟨((cj l2 u),T,A2),⟨mh B,ni.skip AD L D (by exact Ho g),E,G,H,Aa⟩⟩ _ _ _ U (dF L) (aS U) (aI [2,3,4,5,6,7,8,9,10,11,12,13,14,15,16,17,18]))
 refine dP 3 [0,1] (mc 5 U (mc 0 U I)) ?_
 refine cH<|kq (k:=T) (k':=(T++[(o.1,(aa.mk (max (v+y) o.2.Lo) (min z o.2.Hi)))])) 18 (by first|exact Am|exact Nat.le_refl _) hY H Aa U U U (by exact ⟨(o.1,_),hO.2 ⟨o,ho,(t,v),K _ hm,(u,z),B _ L,(Br hy d g)⟩,U,U⟩) U U (fun B34 W AE=>?_) (fun B34 W AE=>?_)
 rotate_left 1
 ·refine rP 2 [] I ?_
  refine RK R<|aO U<|ao ?_
  exact AZ B34 _ _ (by exact ⟨U,W,AE⟩) (aI [3,5,18,6,7,8,9,10,11,12,13,14,15])
 refine rP 2 [] I ?_
 refine RK R<|aW U<|bV<|aG<|fP 17 U ep U ?_
 refine aR (V ⟨((cj l2 u),(T++[(o.1,(aa.mk (max (v+y) o.2.Lo) (min z o.2.Hi)))]),B34),⟨mh B,ni.Uw AD L D (Br hy d g),E.app,G.app,W,AE⟩⟩ _ _ _ U (dF L) (aS U) (aI [2,3,4,5,6,7,8,9,10,11,12,13,14,15,16,17,18]))
end
section
open Go.RowKit
theorem HE (ln:cb) (ri:eH) (e:List Int) (tms:List TM) (e_A:OA) (e_C:Nat) (tb:List Nat) (t_A:OA) (t_C:Nat) (fs:List FM) (bs:List FM) (fb:List Nat) (f_A:OA) (f_C:Nat) (bb:List Nat) (b_A:OA) (b_C gw:Nat) (hw:H7 (cE ln ri e tms)) (hsg:ri.ah.n≤1000) (hn:ln.ae.n=e.length) (hfw:xC (cE ln ri e tms) fs) (hfb:fb.length=fs.length):
 lD Tryz.prog 210 [(vP gw)] [(rd e_A e.length 1 (e.map iC)),(rd t_A tms.length 1 (List.zipWith gG tms tb)),(e7 (aU rz tms tb)),(rd f_A fs.length 1 (List.zipWith gG fs fb)),(e7 (aU nM fs fb)),(rd b_A bs.length 1 (List.zipWith gG bs bb)),(e7 (aU nM bs bb)),(bU gw 274 (bY.cells (bY.mk ln ri (bp.mk e_A e.length e_C) (bp.mk t_A tms.length t_C) (bp.mk f_A fs.length f_C) (bp.mk b_A bs.length b_C))))] (fun (x:(OA)×Nat)=>(vS x.1 ((jy (cE ln ri e tms)).length) x.2)) (fun (x:(OA)×Nat)=>True) (fun (x:(OA)×Nat)=>[(own x.1 x.2 3 1 ((jy (cE ln ri e tms)).map iC))]):=by
 have y:e.length≤6:=hw.n
 have u:fs.length=e.length+1:=hfw.len
 refine di kr Tryz.func210 U U fun w0 Q hQ hN=>?_
 try dsimp only
 refine WS fun _ X=>a_ 1 U<|RK X<|WS fun _ Y=>a_ 1 U<|RK Y<|ai fun _ Z=>WS fun _ b=>a_ 1 U<|rS (SX (bI U U) U U)<|rP 6 [] (mr 7 U I) ?_
 refine RK b<|ax<|fV 3 1 ?_
 have A:(0≤e.length+1):=by exact Nat.zero_le _
 refine bK (ι:={z:Nat×(OA)×Nat // (z.1≤e.length+1)}) [0,12] [1,2,3,4,5,6,7,8] U U (fun z=>[(3,(vS z.1.2.1 ((j7 (cE ln ri e tms) z.1.1).length) z.1.2.2)),(13,(vI (z.1.1:Int)))]) (fun z=>[(own z.1.2.1 z.1.2.2 3 1 ((j7 (cE ln ri e tms) z.1.1).map iC))]) (fun _=>rfl) (fun _=>rfl) (fun z=>e.length+1-z.1.1) ⟨(0,none,0),A⟩ (aS U) (aI [1,2,3,4,5,6,7,8,0]) ?_
 clear A
 rintro ⟨⟨n,a,c⟩,G⟩ J5 AB
 try dsimp only at G
 try dsimp only
 refine WS fun _ d=>rP 1 [] I ?_
 refine RK d<|ai fun _ g=>bM U (aQ fun s=>?_) (aP fun s=>?_)
 ·refine bw<|ab<|ab<|ay<|KK Z<|WS fun _ P=>?_
  rw [show j7 (cE ln ri e tms) n=jy (cE ln ri e tms) by (obtain rfl:n=e.length+1:=by omega); rfl]
  refine rP 2 [] I ?_
  refine RK P<|ao<|LX hQ (a,c) [8] [] I U U U U ?_
  trivial
 refine WK g<|ai fun _ R=>ax<|WS fun _ J=>a_ 2 U<|RK J<|WS fun _ K=>a_ 1 U<|rS (SX (bI U U) U U)<|rP 3 [] (mr 7 U I) ?_
 obtain ⟨m,B⟩:=aL fs n om
 obtain ⟨ma,hm0a⟩:=aL fb n om
 have hm0m:(List.zipWith gG fs fb)[n]? =some (gG m ma):=dM B hm0a
 refine rS (IA n U (aD 3 U) n_ dc om om)<|rS (gp n 0 (Value.map (some ma)) U b_ (aD 3 U) hm0m U dc U)<|iH (kV:=dZ) (m:=bG iV m) 4 U U oQ U ⟨⟨(hE dZ ma (bG iV m)),(bW B hm0a (by simp [nM])),U⟩,fun h=>h⟩ (show i_ _ (hE dZ ma (bG iV m)).holds from dx 4 U (bW B hm0a (by simp [nM]))) U fun l=>?_
 try dsimp only
 refine RK K<|ax ?_
 have A:(∀ p∈m,p∈m)∧(∀ p∈m,p∈m∨ku (cE ln ri e tms) p.1=false):=by exact ⟨fun p hp=>hp,fun p hp=> .inl hp⟩
 refine bK (ι:={z:FM // (∀ p∈z,p∈m)∧(∀ p∈m,p∈z∨ku (cE ln ri e tms) p.1=false)}) [0,3,4,12,13,23] [1,2,3,4,5,6,7,8,9] U U (fun z=>[]) (fun z=>[(yf dZ l ma (bG iV m) (bG iV z.1) none)]) (fun _=>rfl) (fun _=>rfl) (fun z=>z.1.length) ⟨m,A⟩ (dw.nil _) (aI [1,2,3,4,5,6,7,8,9,0]) ?_
 clear A
 rintro ⟨left,⟨C,D⟩⟩ J13 H
 try dsimp only
 refine WS fun _ F=>g9 oR.inj (f:=iV) 9 U U U U (fun W=>?_) (fun t v hm i=>?_)
 ·refine a_ 1 U<|RK F<|ai fun _ o=>aW U<|bw<|ab<|ab<|ay<|aG<|KK R<|ak<|rP 2 [] I ?_
  refine aF ?_
  rw [← GZ (w:=(cE ln ri e tms)) (k:=n) ((B8 (hfw.min _ _ B) (hfw.keys _ _ B)).symm.trans (Jv D W))]
  have S:(vI (((n+1):Nat):Int))=(vI ((n:Int)+1)):=by exact cI om
  refine aR (AB ⟨((n+1),a,c),(by first|omega|(simp only []; omega))⟩ _ _ _ U os (cO 3<|bo U S<|dw.nil _) (aI [0,1,2,3,4,5,6,7,8]))
 try dsimp only
 refine a_ 1 U<|RK F<|ai fun _ L=>aO U<|WK L<|ax<|WS fun _ M=>rS (SX (g8 9 U U U) U U)<|a_ 1 U<|AL U tY fun q=>fO U rK U<|RK M<|WS fun _ N=>rP 2 [] (mc 0 U I) ?_
 have j:=Ii hw _ _ (hfw.mem B (C _ hm))
 dsimp only at j
 refine rS (CL (Pg ln ri e tms e_A e_C tb t_A t_C fs bs fb f_A f_C bb b_A b_C gw t om hsg) (bf [1,2,3,4,5,6,7,8]) U)<|RK N<|bM U (fun E=>?_) (fun E=>?_)
 ·refine bV<|aG<|fP 10 U ep U ?_
  refine aR (H ⟨(cj left t),⟨mh C,Jf i hm D (by first|exact E|simpa using E)⟩⟩ _ _ _ U (dF hm) (aS U) (aI [1,2,3,4,5,6,7,8,9,10]))
 refine WS fun _ O=>rP 2 [] I ?_
 refine cV (xs:=[.tmp 32]) (cs:=[(vI (n:Int))]) U cv ja U U U U (by simp [Value.cells]) U U fun r=>?_
 have hy:jk (cE ln ri e tms) (fwd (cE ln ri e tms) n)=true:=(B8 (hfw.min _ _ B) (hfw.keys _ _ B)).symm.trans (Oo (C _ hm) E)
 refine c_ (es2:=(List.map iC (j7 (cE ln ri e tms) (n+1)))) (m':=(j7 (cE ln ri e tms) (n+1)).length) 10 U U U pZ U U sm (aZ (es:=List.map iC [(n:Int)]) 0 U U (by simp [bE]) U) (kb _) (by have:=x5 (w:=(cE ln ri e tms)) (k:=n); first|omega|(simp; omega)) (by have:=x5 (w:=(cE ln ri e tms)) (k:=n); simp only [maxLen]; omega) (by rw [EO hy]; simp) sm U fun AA V=>?_
 try dsimp only
 refine a_ 1 U<|RK O<|bw<|iE U<|ab<|ay<|aG<|KK R<|ak<|rP 2 [] I ?_
 refine aF ?_
 have T:(vI (((n+1):Nat):Int))=(vI ((n:Int)+1)):=by exact cI om
 refine aR (AB ⟨((n+1),AA,V),(by first|omega|(simp only []; omega))⟩ _ _ _ U os (cO 3<|bo U T<|dw.nil _) (aI [2,3,4,5,6,7,8,9,10]))
end
section
open Go.RowKit
theorem Jm (ln:cb) (ri:eH) (e:List Int) (tms:List TM) (e_A:OA) (e_C:Nat) (tb:List Nat) (t_A:OA) (t_C gw:Nat) (hw:H7 (cE ln ri e tms)) (hn:ln.ae.n=e.length) (htb:tb.length=tms.length):
 Dl Tryz.prog 209 [(vP gw)] [(rd e_A e.length 1 (e.map iC)),(rd t_A tms.length 1 (List.zipWith gG tms tb)),(e7 (aU rz tms tb))] (bU gw 274 (bY.cells (bY.mk ln ri (bp.mk e_A e.length e_C) (bp.mk t_A tms.length t_C) (bp.mk none 0 0) (bp.mk none 0 0)))) (fun (x:(List FM)×(List Nat)×(OA)×Nat×(List FM)×(List Nat)×(OA)×Nat)=>(vT [])) (fun (x:(List FM)×(List Nat)×(OA)×Nat×(List FM)×(List Nat)×(OA)×Nat)=>xC (cE ln ri e tms) x.1∧ug (cE ln ri e tms) x.2.2.2.2.1∧x.2.1.length=x.1.length∧x.2.2.2.2.2.1.length=x.2.2.2.2.1.length) (fun (x:(List FM)×(List Nat)×(OA)×Nat×(List FM)×(List Nat)×(OA)×Nat)=>(bu [(bU gw 274 (bY.cells (bY.mk ln ri (bp.mk e_A e.length e_C) (bp.mk t_A tms.length t_C) (bp.mk x.2.2.1 x.1.length x.2.2.2.1) (bp.mk x.2.2.2.2.2.2.1 x.2.2.2.2.1.length x.2.2.2.2.2.2.2)))),(own x.2.2.1 x.2.2.2.1 278 1 (List.zipWith gG x.1 x.2.1)),(bu (aU nM x.1 x.2.1)),(own x.2.2.2.2.2.2.1 x.2.2.2.2.2.2.2 278 1 (List.zipWith gG x.2.2.2.2.1 x.2.2.2.2.2.1)),(bu (aU nM x.2.2.2.2.1 x.2.2.2.2.2.1))])):=by
 have Cd:e.length≤6:=hw.n
 have Ce:tms.length=e.length:=hw.times
 refine mE kr Tryz.func209 U U fun w0 Q hQ hN=>?_
 try dsimp only
 refine WS fun _ Ac=>uT U U fun W=>RK Ac<|WS fun _ Ag=>fy 1 [] (mc 0 U I) U<|rS (SX (bI U U) U U)<|rP 5 [] (mc 1 U I) ?_
 refine RK Ag ?_
 refine og (ι:={z:(OA)×(OA) // True}) [0,1,2] [0,2,3,4] U U (fun z=>[]) (fun z=>[(own z.1.1 (ln.ae.n+1) 278 1 (List.map oC (List.replicate (ln.ae.n+1) (none:Option Nat)))),(own z.1.2 (ln.ae.n+1) 278 1 (List.map oC (List.replicate (ln.ae.n+1) (none:Option Nat)))),(bU gw 274 (bY.cells (bY.mk ln ri (bp.mk e_A e.length e_C) (bp.mk t_A tms.length t_C) (bp.mk z.1.1 (ln.ae.n+1) (ln.ae.n+1)) (bp.mk z.1.2 (ln.ae.n+1) (ln.ae.n+1)))))]) (fun _=>rfl) (fun _=>rfl) ?_ fun K4 Ah=>?_
 ·rintro ⟨⟨fA,bA⟩,_⟩
  try dsimp only
  refine CO 6 U U fun wz Sz hz=>?_
  have Ca:(List.replicate (ln.ae.n+1) (none:Option Nat)).length=(ln.ae.n+1):=List.length_replicate
  try dsimp only
  refine og (ι:={z:Nat // True}) [0,1,2] [0,1,2,3,4,6] U U (fun z=>[]) (fun z=>[(bu (aU nM [[((aC.mk 0 0),ri.Start)]] [z.1])),(own fA (ln.ae.n+1) 278 1 (List.map oC (ej [z.1] (ln.ae.n+1))))]) (fun _=>rfl) (fun _=>rfl) ?_ fun K5 B5=>?_
  ·rintro ⟨ga,_⟩
   try dsimp only
   refine ai fun _ Ai=>WS fun _ Aj=>rP 2 [] I ?_
   refine RK Aj<|ax<|oh ?_
   have C:(0≤ln.ae.n)∧(([[((aC.mk 0 0),ri.Start)]]).length=0+1)∧(([ga]).length=0+1)∧(pS (cE ln ri e tms) ([[((aC.mk 0 0),ri.Start)]])):=by exact ⟨Nat.zero_le _,rfl,rfl,pS.first⟩
   refine vK (ι:={z:Nat×(List FM)×(List Nat)×(List Nat) // (z.1≤ln.ae.n)∧(z.2.1.length=z.1+1)∧(z.2.2.1.length=z.1+1)∧(pS (cE ln ri e tms) z.2.1)}) (fun z=>z.1.2.2.2.map lz) (fun z=>[(0,(vP gw)),(1,(vP W)),(2,(vI (ln.ae.n:Int))),(52,(vI (ln.ae.n:Int))),(53,(vI (z.1.1:Int)))]) (fun z=>[(bu (z.1.2.2.2.map lP)),(bU gw 274 (bY.cells (bY.mk ln ri (bp.mk e_A e.length e_C) (bp.mk t_A tms.length t_C) (bp.mk fA (ln.ae.n+1) (ln.ae.n+1)) (bp.mk bA (ln.ae.n+1) (ln.ae.n+1))))).ro,(bU W 263 [(vP gw)]),(rd e_A e.length 1 (e.map iC)).ro,(rd t_A tms.length 1 (List.zipWith gG tms tb)).ro,(e7 (aU rz tms tb)).ro,(own bA (ln.ae.n+1) 278 1 (List.map oC (List.replicate (ln.ae.n+1) (none:Option Nat)))),(bu (aU nM z.1.2.1 z.1.2.2.1)),(own fA (ln.ae.n+1) 278 1 (List.map oC (ej z.1.2.2.1 (ln.ae.n+1))))]) (fun z=>ln.ae.n-z.1.1) ⟨(0,[[((aC.mk 0 0),ri.Start)]],[ga],([]:List Nat)),C⟩ U (aS U) (aI [0,1,2,3,4,5,6,7,8]) ?_
   clear C
   rintro ⟨⟨b,fs,fb,By⟩,⟨Aw,AJ,Ax,M⟩⟩ J8 B4
   try dsimp only at Aw AJ Ax M
   try dsimp only
   have Cb:(ej fb (ln.ae.n+1)).length=(ln.ae.n+1):=re om
   refine WS fun _ Ak=>rP 1 [] I ?_
   refine RK Ak<|ai fun _ AB=>cy U (aP fun B2=>?_) (aQ fun B2=>?_)
   ·refine WK AB<|ai fun _ BA=>ax<|WS fun _ BB=>rP 1 [] I ?_
    refine AL U ja fun s=>HJ U B1 U U<|RK BB<|ai fun _ BC=>dD cq [6,8] [6] [0] [0,1,2,3,4,5,6,7,8] [0,1,2,3,4,5,6,7,8,9] U U U U U<|eS U (EV 3 U b_ U)<|eS U (SX (bI U U) U U)<|eS U (FA 12 U fx U)<|eS U (Ib (vS fA (ln.ae.n+1) (ln.ae.n+1)) 2 U b_ U U)<|eS U (EV 0 U b_ U)<|eS U (BI U (gY ⟨om,om⟩)) ?_
    obtain ⟨CG,Bv⟩:=aL (ej fb (ln.ae.n+1)) (b+1) om
    have hx17m:(List.map oC (ej fb (ln.ae.n+1)))[(b+1)]? =some (oC CG):=by rw [fw,Bv]; rfl
    refine fS U (IA (b+1) U (ag (n:=(ln.ae.n+1)) 9 U sq) n_ dc om om) ?_
    refine eX U<|iD U fun T18 Bc=>nj (kV:=dZ) U U fun B=>?_
    try dsimp only
    refine aF (Bc _ _ (aI [1,2,3,4,5,6,7,8,9]) (aI [1,2,3,4,5,6,7,8,9,10]) ?_)
    refine bX U fun T20 Bd=>?_
    have Bm:((ej fb (ln.ae.n+1)).set (b+1) (some B))=(ej (fb++[B]) (ln.ae.n+1)):=by exact uG om om
    refine eC (k:=(b+1)) (o:=0) (vs:=[(Value.map (some B))]) (es':=(List.map oC (ej (fb++[B]) (ln.ae.n+1)))) (C':=[_,_,_,_,_,_,_,_,_,_,(own fA (ln.ae.n+1) 278 1 (List.map oC (ej (fb++[B]) (ln.ae.n+1))))]) 10 U U U LV U U U U hx17m U dc (by exact (List.map_set (f:=oC) (l:=(ej fb (ln.ae.n+1))) (i:=(b+1)) (a:=(some B))).symm.trans (congrArg _ Bm)) U<|aF (Bd _ _ (aI [1,2,3,4,5,6,7,8,9]) ?_)
    refine fF U<|KK BC<|ai fun _ BD=>?_
    have B9:(ej (fb++[B]) (ln.ae.n+1)).length=(ln.ae.n+1):=re (by simp; omega)
    obtain ⟨mb,N⟩:=aL fs b om
    obtain ⟨ga,Z⟩:=aL fb b om
    refine Ff 9 N Z U U U ?_
    try dsimp only
    refine du cq 7 kr<|my 1 [] (mc 6 U I) U<|dS (SX (bI U U) U U)<|dP 3 [0,1] (mr 5 U (mc 3 U I)) ?_
    have Bq:(List.map oC (ej (fb++[B]) (ln.ae.n+1)))[b]? =some (oC (some ga)):=rJ (oW (KL Z))
    refine dS (IA b U (ag (n:=(ln.ae.n+1)) 11 U sq) n_ dc om om) ?_
    refine dS (gp b 0 (Value.map (some ga)) U b_ (ag (n:=(ej (fb++[B]) (ln.ae.n+1)).length) 11 U sm) Bq U dc U)<|cH<|uL 0 U U oQ U U fun AS=>?_
    try dsimp only
    refine RK BD<|ax ?_
    have C:(∀ p∈mb,p∈mb)∧(w6 (cE ln ri e tms) b ([]:FM))∧(jK (cE ln ri e tms) b mb ([]:FM) mb):=by exact ⟨fun p hp=>hp,w6.start,jK.start⟩
    refine vK (ι:={z:FM×FM×(List Nat) // (∀ p∈z.1,p∈mb)∧(w6 (cE ln ri e tms) b z.2.1)∧(jK (cE ln ri e tms) b mb z.2.1 z.1)}) (fun z=>z.1.2.2.map lz) (fun z=>[(0,(vP gw)),(1,(vP W)),(2,(vI (ln.ae.n:Int))),(3,(vP s)),(52,(vI (ln.ae.n:Int))),(53,(vI (b:Int))),(71,(vP AS))]) (fun z=>[(yz dZ AS ga (bG iV mb) (bG iV z.1.1) none),(bu (fu nM fs fb b)),(hE dZ B (bG iV z.1.2.1)),(bU s 3 [(vI (b:Int))]),(bu (z.1.2.2.map lP)),(bU gw 274 (bY.cells (bY.mk ln ri (bp.mk e_A e.length e_C) (bp.mk t_A tms.length t_C) (bp.mk fA (ln.ae.n+1) (ln.ae.n+1)) (bp.mk bA (ln.ae.n+1) (ln.ae.n+1))))).ro,(bU W 263 [(vP gw)]),(rd e_A e.length 1 (e.map iC)).ro,(rd t_A tms.length 1 (List.zipWith gG tms tb)).ro,(e7 (aU rz tms tb)).ro,(own bA (ln.ae.n+1) 278 1 (List.map oC (List.replicate (ln.ae.n+1) (none:Option Nat)))),(own fA (ln.ae.n+1) 278 1 (List.map oC (ej (fb++[B]) (ln.ae.n+1))))]) (fun z=>z.1.1.length) ⟨(mb,([]:FM),By),C⟩ U (aS U) (aI [0,1,2,3,4,5,6,7,8,9,10,11]) ?_
    clear C
    rintro ⟨⟨left,m,AK⟩,⟨c,d,g⟩⟩ J26 A9
    try dsimp only at c d g
    try dsimp only
    refine WS fun _ AV=>sj oR.inj (f:=iV) 0 U U U U (fun B3=>?_) (fun t v hm Ay=>?_)
    ·refine a_ 1 U<|RK AV<|ai fun _ CR=>aW U<|bw<|ab<|ab<|ay<|aG<|KK BA<|ak<|rP 2 [] I ?_
     refine aF<|KM (C':=[(hE dZ ga (bG iV mb)),(bu (fu nM fs fb b)),(hE dZ B (bG iV m)),(bU s 3 [(vI (b:Int))]),(bu (AK.map lP)),(bU gw 274 (bY.cells (bY.mk ln ri (bp.mk e_A e.length e_C) (bp.mk t_A tms.length t_C) (bp.mk fA (ln.ae.n+1) (ln.ae.n+1)) (bp.mk bA (ln.ae.n+1) (ln.ae.n+1))))).ro,(bU W 263 [(vP gw)]),(rd e_A e.length 1 (e.map iC)).ro,(rd t_A tms.length 1 (List.zipWith gG tms tb)).ro,(e7 (aU rz tms tb)).ro,(own bA (ln.ae.n+1) 278 1 (List.map oC (List.replicate (ln.ae.n+1) (none:Option Nat)))),(own fA (ln.ae.n+1) 278 1 (List.map oC (ej (fb++[B]) (ln.ae.n+1))))]) 0 U JW U<|KB 1 0 N Z U U U ?_
     try dsimp only
     refine Cz (X':=aU nM (fs++[m]) (fb++[B])) 0 1 U U (zB om U) ?_
     try dsimp only
     have Bn:(vI (((b+1):Nat):Int))=(vI ((b:Int)+1)):=by exact cI om
     refine aR (B4 ⟨((b+1),(fs++[m]),(fb++[B]),AK),⟨om,by simp; omega,by simp; omega,M.add AJ N d g B3⟩⟩ _ _ _ U os (cO 4<|bo U Bn<|dw.nil _) (aI [2,3,4,5,6,7,8,0,9]))
    try dsimp only
    refine a_ 1 U<|RK AV<|ai fun _ BE=>aO U<|WK BE<|ax<|WS fun _ BF=>rS (SX (sI 0 U U U) U U)<|a_ 2 U<|AL U tY fun A1=>AL U ja fun A2=>t_ U rK U<|HJ U B1 U U<|RK BF<|WS fun _ BG=>rP 2 [0,1] (mc 8 U (mc 5 U I)) ?_
    refine cX (ud gw b) (aJ) U fun CK CU=>?_
    obtain ⟨AY,Aa⟩:=CK
    try dsimp only
    refine RK BG<|ax<|kl 11 U (by exact fun _ h=>h)<|kl 13 U (by exact fun _ h=>h)<|kl 15 U (by exact fun _ h=>h)<|kl 12 U (by exact fun _ h=>h) ?_
    refine nq (L0:=[(0,(vP gw)),(1,(vP W)),(2,(vI (ln.ae.n:Int))),(3,(vP s)),(4,(vP A1)),(5,(vP A2)),(52,(vI (ln.ae.n:Int))),(53,(vI (b:Int))),(71,(vP AS))]) (F:=[(rd e_A e.length 1 (e.map iC)).ro,(rd t_A tms.length 1 (List.zipWith gG tms tb)).ro,(e7 (aU rz tms tb)).ro,(bU gw 274 (bY.cells (bY.mk ln ri (bp.mk e_A e.length e_C) (bp.mk t_A tms.length t_C) (bp.mk fA (ln.ae.n+1) (ln.ae.n+1)) (bp.mk bA (ln.ae.n+1) (ln.ae.n+1))))).ro,(bU AY 263 [(vP gw)]),(bU Aa 3 [(vI (b:Int))])]) (fun k (y:FM)=>(m6 (cE ln ri e tms) b mb left y (t,v) k)) (fun k y=>[(bU A2 3 [(vI v)]),(bU A1 280 (aC.cells t)),(yz dZ AS ga (bG iV mb) (bG iV (cj left t)) (some (t,(vI v)))),(bu (fu nM fs fb b)),(hE dZ B (bG iV y)),(bU s 3 [(vI (b:Int))]),(bu (AK.map lP)),(bU gw 274 (bY.cells (bY.mk ln ri (bp.mk e_A e.length e_C) (bp.mk t_A tms.length t_C) (bp.mk fA (ln.ae.n+1) (ln.ae.n+1)) (bp.mk bA (ln.ae.n+1) (ln.ae.n+1))))).ro,(bU W 263 [(vP gw)]),(rd e_A e.length 1 (e.map iC)).ro,(rd t_A tms.length 1 (List.zipWith gG tms tb)).ro,(e7 (aU rz tms tb)).ro,(own bA (ln.ae.n+1) 278 1 (List.map oC (List.replicate (ln.ae.n+1) (none:Option Nat)))),(own fA (ln.ae.n+1) 278 1 (List.map oC (ej (fb++[B]) (ln.ae.n+1))))]) (fun _ (_:Unit)=>False) (fun _ _=>[]) [6,7,8,9,10,11,12,13,14,15,16,17,18,19] [3,2,1,0,4,5] m rfl rfl (r8 ln ri e tms e_A e_C tb t_A t_C fA (ln.ae.n+1) (ln.ae.n+1) bA (ln.ae.n+1) (ln.ae.n+1) gw b AY Aa om om) rfl rfl rfl (by exact m6.start d g) (by simp only [List.forall_mem_cons,List.not_mem_nil,false_imp_iff,implies_true,and_true]; exact ⟨⟨_,aT (i:=0) rfl,(dC (bP _))⟩,⟨_,aT (i:=1) rfl,(dC (bP _))⟩,⟨_,aT (i:=2) rfl,(dC (bP _))⟩,⟨_,aT (i:=3) rfl,(dC (bP _))⟩,⟨_,aT (i:=4) rfl,(bP _)⟩,⟨_,aT (i:=5) rfl,(bP _)⟩⟩) (by rintro k x k2 ⟨o,_,rfl,_⟩; rfl) rfl (aS rfl) ?_ ?_ (fun _ _ _ h=>h.elim) (fun _ _ h=>h.elim)
    rotate_left 1
    ·rintro CF k O AI Ar
     have D:=Ar
     try dsimp only
     refine aG<|aG<|Kl (X:=AK.map lP) 13 0 U U ?_
     try dsimp only
     refine fP 9 U yb U ?_
     refine aR (A9 ⟨((cj left t),O,(CF::AK)),⟨mh c,D.on,D.next Ay hm AI⟩⟩ _ _ _ U (dF hm) (aS U) (aI [9,10,11,12,0,4,14,1,2,3,18,19]))
    rintro k x k2 O l ra rb S w1 K39 Qr40 CC hx Aq BH H CI CN
    obtain ⟨o,ho,rfl,rfl⟩:=hx
    have D:=Aq
    try dsimp only
    refine WS fun _ BJ=>rP 1 [] I ?_
    refine RK BJ<|ak<|AL U cZ fun CW=>fO U cp U<|aF<|jB (fun _ _ h=>h) (aI [1,0,2,3,4,5,6,7,8,9,10,11,12,13,14,15])<|aR (BH _ _ ?_)
    refine ax<|ai fun _ BK=>dD cq [16,18] [] [] [0,1,2,3,4,5,6,7,8,9,10,11,12,13,14,15] [] U U U U U<|eS U (EV 2 U b_ U)<|eS U (EV 10 U b_ U)<|eS U (SX (bI U U) U U)<|eS U (FA 10 U fx U)<|eS U (Ib (vS e_A e.length e_C) 9 U b_ U U)<|eS U (EV 7 U b_ U) ?_
    obtain ⟨y,hy⟩:=aL e b om
    have Az:=bH iC hy
    refine eS U (IA b U (aD 11 U) cv dc om om)<|eS U (gp b 0 (vI y) U b_ (aD 11 U) Az U dc U) ?_
    have B8:=hw.least y (aT hy)
    have hp:=M.mem N (c _ hm)
    have B7:=Ii hw _ _ hp
    have CA:=uA o.1
    have CB:=hw.opt ho
    have Cc:=hw.now
    dsimp only at B7
    refine eS U (BI U (gY ⟨om,om⟩))<|eS U (FA 0 U fx U)<|eS U (L1 (vI o.2.Lo) 1 U b_ U U)<|eS U (MX U)<|eS U (LW 3 U b_ U U)<|eS U (MV U)<|eS U (CL (Le o.1) (aJ) U)<|eS U (CL (vN t (fh o.1) om om) (aJ) U)<|eS U (AG U)<|eX U<|bX U fun T45 Be=>AL U tY fun CX=>aF (Be _ _ (aI [1,2,3,4,5,6,7,8,9,10,11,12,13,14,15,16]) ?_)
    refine bX U fun T47 Bf=>fO U rK U<|aF (Bf _ _ (aI [1,2,3,4,5,6,7,8,9,10,11,12,13,14,15,16]) ?_)
    refine fF U<|KK BK<|ai fun _ BL=>du cq 15 kr<|my 1 [] (mc 11 U I) U<|dS (SX (bI U U) U U)<|dP 4 [0,1] (mr 10 U (mc 8 U I)) ?_
    have Br:(List.map oC (ej (fb++[B]) (ln.ae.n+1)))[(b+1)]? =some (oC (some B)):=rJ (oW (Af om))
    refine dS (IA (b+1) U (ag (n:=(ln.ae.n+1)) 16 U sq) n_ dc om om) ?_
    refine dS (gp (b+1) 0 (Value.map (some B)) U b_ (ag (n:=(ej (fb++[B]) (ln.ae.n+1)).length) 16 U sm) Br U dc U)<|my 1 [] (mc 0 U I) U<|dS (SX (kx (kV:=dZ) (x:=(dj t (fh o.1))) (l:=O) (f:=iV) (z:=0) U U U oQ oR VD (by exact aD 7 U)) U U)<|lv 5 U<|cH<|RK BL<|ai fun _ AC=>du cq 19 kr<|my 4 [0,1] (mc 2 U (mc 11 U I)) U<|dS (SX (bI U U) U U)<|my 3 [] (mr 10 U I) U<|dS (MN U)<|dP 2 [] I ?_
    refine ji (t:=121) U (aQ fun P=>?_) (aP fun P=>?_)
    ·refine dP 8 [] I ?_
     refine cH<|RK AC<|aW U<|bV<|aG ?_
     exact H O _ _ (by exact D.skip (KD hy P)) (aI [1,3,4,5,6,7,8,9,10,11,12,13,14,15,16])
    refine dP 3 [] I ?_
    refine iR (t:=124) U (fun R=>?_) (fun R=>?_)
    ·rw [Bool.not_eq_true'] at R
     refine lv 5 U<|cH<|RK AC<|aO U<|du cq 10 kr<|my 1 [] (mc 11 U I) U<|dS (SX (bI U U) U U)<|dP 4 [0,1] (mr 10 U (mc 8 U I)) ?_
     have Bs:(List.map oC (ej (fb++[B]) (ln.ae.n+1)))[(b+1)]? =some (oC (some B)):=rJ (oW (Af om))
     refine dS (IA (b+1) U (ag (n:=(ln.ae.n+1)) 16 U sq) n_ dc om om) ?_
     refine dS (gp (b+1) 0 (Value.map (some B)) U b_ (ag (n:=(ej (fb++[B]) (ln.ae.n+1)).length) 16 U sm) Bs U dc U)<|dP 2 [] (mc 0 U I) ?_
     refine cH<|iY (kV:=dZ) (x:=(dj t (fh o.1))) (C':=[_,_,_,_,_,_,_,(hE dZ B (bG iV (ew O (dj t (fh o.1)) (max (v+y) o.2.Lo)))),_,_,_,_,_,_,_,_,_]) 7 U U U U oQ oR U (gI _ _ _ _).symm U<|aF<|aG ?_
     exact H (ew O (dj t (fh o.1)) (max (v+y) o.2.Lo)) _ _ (by exact D.set hp ho (z3 hy P) (.inl (by simpa using R))) (aI [1,3,4,5,6,7,8,9,10,11,12,13,14,15,16])
    rw [Bool.not_eq_false'] at R
    refine dP 5 [] I ?_
    refine cH<|RK AC<|bM U (aQ fun u=>?_) (aP fun u=>?_)
    ·refine bV<|aG ?_
     exact H O _ _ (by exact D.ou (z3 hy P) (by simpa using R) u) (aI [1,3,4,5,6,7,8,9,10,11,12,13,14,15,16])
    refine du cq 10 kr<|my 1 [] (mc 11 U I) U<|dS (SX (bI U U) U U)<|dP 4 [0,1] (mr 10 U (mc 8 U I)) ?_
    have Bt:(List.map oC (ej (fb++[B]) (ln.ae.n+1)))[(b+1)]? =some (oC (some B)):=rJ (oW (Af om))
    refine dS (IA (b+1) U (ag (n:=(ln.ae.n+1)) 16 U sq) n_ dc om om) ?_
    refine dS (gp (b+1) 0 (Value.map (some B)) U b_ (ag (n:=(ej (fb++[B]) (ln.ae.n+1)).length) 16 U sm) Bt U dc U)<|dP 2 [] (mc 0 U I) ?_
    refine cH<|iY (kV:=dZ) (x:=(dj t (fh o.1))) (C':=[_,_,_,_,_,_,_,(hE dZ B (bG iV (ew O (dj t (fh o.1)) (max (v+y) o.2.Lo)))),_,_,_,_,_,_,_,_,_]) 7 U U U U oQ oR U (gI _ _ _ _).symm U<|aF<|aG ?_
    exact H (ew O (dj t (fh o.1)) (max (v+y) o.2.Lo)) _ _ (by exact D.set hp ho (z3 hy P) (.inr u)) (aI [1,3,4,5,6,7,8,9,10,11,12,13,14,15,16])
   refine bw<|ab<|ab<|ay<|KK Ai<|WS fun _ AD=>rP 1 [] I ?_
   refine AL U ja fun Bz=>HJ U B1 U U<|RK AD<|ax ?_
   rw [Hg]
   refine oh ?_
   have C:(0≤ln.ae.n+1)∧(([]:List FM).length=0)∧(([]:List Nat).length=0)∧(g4 (cE ln ri e tms) (ln.ae.n+1-0) ([]:List FM)):=by exact ⟨Nat.zero_le _,rfl,rfl,g4.none_⟩
   refine vK (ι:={z:Nat×(List FM)×(List Nat)×Nat×(List Nat) // (z.1≤ln.ae.n+1)∧(z.2.1.length=z.1)∧(z.2.2.1.length=z.1)∧(g4 (cE ln ri e tms) (ln.ae.n+1-z.1) z.2.1)}) (fun z=>z.1.2.2.2.2.map lz) (fun z=>[(0,(vP gw)),(1,(vP W)),(2,(vI (ln.ae.n:Int))),(12,(Value.pointer (some ⟨z.1.2.2.2.1,0,none⟩)))]) (fun z=>[(bu (aU nM z.1.2.1 z.1.2.2.1)),(bU z.1.2.2.2.1 3 [(vI ((ln.ae.n:Int)-(z.1.1:Int)))]),(bu (z.1.2.2.2.2.map lP)),(bU gw 274 (bY.cells (bY.mk ln ri (bp.mk e_A e.length e_C) (bp.mk t_A tms.length t_C) (bp.mk fA (ln.ae.n+1) (ln.ae.n+1)) (bp.mk bA (ln.ae.n+1) (ln.ae.n+1))))).ro,(bU W 263 [(vP gw)]),(rd e_A e.length 1 (e.map iC)).ro,(rd t_A tms.length 1 (List.zipWith gG tms tb)).ro,(e7 (aU rz tms tb)).ro,(own bA (ln.ae.n+1) 278 1 (List.map oC (gV z.1.2.2.1 (ln.ae.n+1)))),(bu (aU nM fs fb)),(own fA (ln.ae.n+1) 278 1 (List.map oC (ej fb (ln.ae.n+1))))]) (fun z=>ln.ae.n+1-z.1.1) ⟨(0,([]:List FM),([]:List Nat),Bz,By),C⟩ U (aS U) (aI [0,1,2,3,4,5,6,7,8,9,10]) ?_
   clear C
   rintro ⟨⟨j,bs,bb,gq,q⟩,⟨AP,AQ,AR,E⟩⟩ J57 AU
   try dsimp only at AP AQ AR E
   try dsimp only
   refine ai fun _ AE=>WS fun _ AF=>rP 2 [] (mc 1 U I) ?_
   refine RK AF<|bM U (aQ fun A6=>?_) (aP fun A6=>?_)
   ·refine bw<|ab<|ab<|ay ?_
    rw [show (List.map oC (ej fb (ln.ae.n+1)))=(List.zipWith gG fs fb) from by rw [yR om]; exact (zM om).symm]
    rw [show (List.map oC (gV bb (ln.ae.n+1)))=(List.zipWith gG bs bb) from by rw [HS om]; exact (zM om).symm]
    refine zN (C1:=[(own fA (ln.ae.n+1) 278 1 (List.zipWith gG fs fb)),(bu (aU nM fs fb)),(own bA (ln.ae.n+1) 278 1 (List.zipWith gG bs bb)),(bu (aU nM bs bb)),(bu (q.map lP))]) hz [10,9,8,0,2] U U (by simp only [fG,List.all_nil,KY,N7,Bool.and_true]; rfl) ?_
    rw [show (bU gw 274 (bY.cells (bY.mk ln ri (bp.mk e_A e.length e_C) (bp.mk t_A tms.length t_C) (bp.mk fA (ln.ae.n+1) (ln.ae.n+1)) (bp.mk bA (ln.ae.n+1) (ln.ae.n+1)))))=(bU gw 274 (bY.cells (bY.mk ln ri (bp.mk e_A e.length e_C) (bp.mk t_A tms.length t_C) (bp.mk fA fs.length (ln.ae.n+1)) (bp.mk bA bs.length (ln.ae.n+1))))) from by rw [show fs.length=(ln.ae.n+1) from by omega,show bs.length=(ln.ae.n+1) from by omega]]
    refine Qt [(bU gw 274 (bY.cells (bY.mk ln ri (bp.mk e_A e.length e_C) (bp.mk t_A tms.length t_C) (bp.mk fA fs.length (ln.ae.n+1)) (bp.mk bA bs.length (ln.ae.n+1))))),(own fA (ln.ae.n+1) 278 1 (List.zipWith gG fs fb)),(bu (aU nM fs fb)),(own bA (ln.ae.n+1) 278 1 (List.zipWith gG bs bb)),(bu (aU nM bs bb))] [(bu (q.map lP))] ?_
    refine hN _ _ _ (IW 1 U U<|gX (vs:=[]) trivial fun w hs=>SN (fs,fb,fA,(ln.ae.n+1),bs,bb,bA,(ln.ae.n+1)) 0 ?_ ?_ U (by show List.all _ _=true; simp only [fG,List.all_nil,KY,Bool.and_true]; rfl) hs)
    ·clear hs w hQ hN AF AE AD AB Ak Aj Ai Ag Ac; rfl
    ·clear hs w hQ hN AF AE AD AB Ak Aj Ai Ag Ac; exact ⟨M.ok (by show fs.length=e.length+1; omega),g4.ok (by have:=E; rwa [show ln.ae.n+1-j=0 by omega] at this) (by show bs.length=e.length+1; omega),dso,dso⟩
   refine WK AE<|ai fun _ AW=>ax<|ai fun _ BM=>?_
   obtain ⟨b,CZ⟩: ∃ b:Nat,b+j=ln.ae.n:=⟨ln.ae.n-j,om⟩
   rw [show (ln.ae.n:Int)-(j:Int)=(b:Int) from by omega]
   have CT:(gV bb (ln.ae.n+1)).length=(ln.ae.n+1):=yB om
   refine dD cq [5,12,13,15] [11] [0,1,2] [0,1,2,3,4,5,6,7,9,10] [0,1,2,3,4,5,6,7,8,9,10] U U U U U<|eS U (EV 4 U b_ U)<|eS U (SX (bI U U) U U)<|eS U (FA 13 U fx U)<|eS U (Ib (vS bA (ln.ae.n+1) (ln.ae.n+1)) 3 U b_ U U)<|eS U (EV 1 U b_ U)<|eS U (SX (bh (xs:=[]) (cs:=(aC.cells (aC.mk 0 0))) U U (bg Cy U)) U U)<|eS U (EV 4 U b_ U)<|eS U (SX (bI U U) U U)<|eS U (FA 7 U fx U)<|eS U (FA 8 U fx U)<|eS U (Ib (vI ri.f_) 3 U b_ U U) ?_
   obtain ⟨CH,Bw⟩:=aL (gV bb (ln.ae.n+1)) b om
   have hx63m:(List.map oC (gV bb (ln.ae.n+1)))[b]? =some (oC CH):=by rw [fw,Bw]; rfl
   refine fS U (IA b U (ag (n:=(ln.ae.n+1)) 8 U sq) n_ dc om om) ?_
   refine eX U<|iD U fun T64 Bg=>nj (kV:=dZ) U U fun A=>?_
   try dsimp only
   refine aF (Bg _ _ (aI [1,2,3,4,5,6,7,8,10,11]) (aI [1,2,3,4,5,6,7,8,9,10,11]) ?_)
   refine iD U fun T66 Bh=>?_
   have Bo:(ew ([]:List (aC×Int)) (aC.mk 0 0) ri.f_)=[((aC.mk 0 0),ri.f_)]:=by rfl
   refine zu (kV:=dZ) (x:=(aC.mk 0 0)) (C':=[(hE dZ A (bG iV ([((aC.mk 0 0),ri.f_)]))),_,_,_,_,_,_,_,_,_,_,_]) 0 U U U U oQ oR U ((gI _ _ _ _).symm.trans (congrArg _ Bo)) U<|aF (Bh _ _ (aI [1,2,3,4,5,6,7,8,10,11]) (aI [1,2,3,4,5,6,7,8,9,10,11]) ?_)
   refine iD U fun T68 Bi=>rS (MV U)<|aF (Bi _ _ (aI [1,2,3,4,5,6,7,8,10,11]) (aI [1,2,3,4,5,6,7,8,9,10,11]) ?_)
   refine bX U fun T69 Bj=>?_
   have Bp:((gV bb (ln.ae.n+1)).set b (some A))=(gV (A::bb) (ln.ae.n+1)):=by exact Gr om
   refine eC (k:=b) (o:=0) (vs:=[(Value.map (some A))]) (es':=(List.map oC (gV (A::bb) (ln.ae.n+1)))) (C':=[_,_,_,_,_,_,_,_,_,(own bA (ln.ae.n+1) 278 1 (List.map oC (gV (A::bb) (ln.ae.n+1)))),_,_]) 9 U U U LV U U U U hx63m U dc (by exact (List.map_set (f:=oC) (l:=(gV bb (ln.ae.n+1))) (i:=b) (a:=(some A))).symm.trans (congrArg _ Bp)) U<|aF (Bj _ _ (aI [1,2,3,4,5,6,7,8,10,11]) ?_)
   refine fF U<|KK BM<|ai fun _ BN=>WS fun _ BO=>rP 3 [] (mc 2 U I) ?_
   refine RK BO<|cy U (aP fun A7=>?_) (aQ fun A7=>?_)
   ·refine bw<|ab<|ay<|KK AW<|ai fun _ BQ=>WS fun _ BR=>fy 1 [] (mc 2 U I) U<|RK BR<|ak<|AL U ja fun B0=>HJ U B1 U U<|RK BQ<|ak<|rP 2 [] (mc 0 U I) ?_
    refine HJ U B1 U U<|aF ?_
    rw [show (b:Int)-1=(ln.ae.n:Int)-(((j+1):Nat):Int) from by omega]
    refine yX (ms:=bs) (m:=[((aC.mk 0 0),ri.f_)]) (a:=A) 2 1 U U U ?_
    try dsimp only
    refine aR (AU ⟨((j+1),([((aC.mk 0 0),ri.f_)]::bs),(A::bb),B0,q),⟨om,by simp; omega,by simp; omega,by exact g4.end_ (b:=b) E om om (by show e.length≤b; omega)⟩⟩ _ _ _ U os (aS U) (aI [0,1,3,4,5,6,7,8,9,10,11]))
   refine WK BN<|ai fun _ BS=>?_
   have B_:(gV (A::bb) (ln.ae.n+1)).length=(ln.ae.n+1):=yB (by simp; omega)
   obtain ⟨mb,N⟩:=aL bs 0 om
   obtain ⟨ga,Z⟩:=aL bb 0 om
   refine Ff 1 N Z U U U ?_
   try dsimp only
   refine du cq 8 kr<|my 1 [] (mc 6 U I) U<|dS (SX (bI U U) U U)<|dP 4 [0,1] (mr 5 U (mc 3 U I)) ?_
   have Bu:(List.map oC (gV (A::bb) (ln.ae.n+1)))[(b+1)]? =some (oC (some ga)):=rJ (sU (i:=1) (by simpa using Z) (by simp; omega))
   refine dS (IA (b+1) U (ag (n:=(ln.ae.n+1)) 10 U sq) n_ dc om om) ?_
   refine dS (gp (b+1) 0 (Value.map (some ga)) U b_ (ag (n:=(gV (A::bb) (ln.ae.n+1)).length) 10 U sm) Bu U dc U)<|cH<|uL 0 U U oQ U U fun AT=>?_
   try dsimp only
   refine RK BS<|ax ?_
   have C:(∀ p∈mb,p∈mb)∧(vG (cE ln ri e tms) b ([((aC.mk 0 0),ri.f_)]))∧(js (cE ln ri e tms) b mb ([((aC.mk 0 0),ri.f_)]) mb):=by exact ⟨fun p hp=>hp,vG.start (by show b<e.length; omega),js.start⟩
   refine vK (ι:={z:FM×FM×(List Nat) // (∀ p∈z.1,p∈mb)∧(vG (cE ln ri e tms) b z.2.1)∧(js (cE ln ri e tms) b mb z.2.1 z.1)}) (fun z=>z.1.2.2.map lz) (fun z=>[(0,(vP gw)),(1,(vP W)),(2,(vI (ln.ae.n:Int))),(12,(vP gq)),(171,(vP AT))]) (fun z=>[(yz dZ AT ga (bG iV mb) (bG iV z.1.1) none),(bu (fu nM bs bb 0)),(hE dZ A (bG iV z.1.2.1)),(bU gq 3 [(vI (b:Int))]),(bu (z.1.2.2.map lP)),(bU gw 274 (bY.cells (bY.mk ln ri (bp.mk e_A e.length e_C) (bp.mk t_A tms.length t_C) (bp.mk fA (ln.ae.n+1) (ln.ae.n+1)) (bp.mk bA (ln.ae.n+1) (ln.ae.n+1))))).ro,(bU W 263 [(vP gw)]),(rd e_A e.length 1 (e.map iC)).ro,(rd t_A tms.length 1 (List.zipWith gG tms tb)).ro,(e7 (aU rz tms tb)).ro,(own bA (ln.ae.n+1) 278 1 (List.map oC (gV (A::bb) (ln.ae.n+1)))),(bu (aU nM fs fb)),(own fA (ln.ae.n+1) 278 1 (List.map oC (ej fb (ln.ae.n+1))))]) (fun z=>z.1.1.length) ⟨(mb,[((aC.mk 0 0),ri.f_)],q),C⟩ U (aS U) (aI [0,1,2,3,4,5,6,7,8,9,10,11,12]) ?_
   clear C
   rintro ⟨⟨left,m,V⟩,⟨J,K,L⟩⟩ J80 A_
   try dsimp only at J K L
   try dsimp only
   refine WS fun _ AX=>sj oR.inj (f:=iV) 0 U U U U (fun A8=>?_) (fun t v hm Ay=>?_)
   ·refine a_ 1 U<|RK AX<|ai fun _ CS=>aW U<|bw<|ab<|ab<|ay<|aG<|KK AW<|ai fun _ BT=>WS fun _ BU=>fy 1 [] (mc 3 U I) U<|RK BU<|ak<|AL U ja fun A3=>HJ U B1 U U<|RK BT<|ak<|rP 2 [] (mc 0 U I) ?_
    refine HJ U B1 U U<|aF<|KM (C':=[(bU A3 3 [(vI ((b:Int)-1))]),(hE dZ ga (bG iV mb)),(bu (fu nM bs bb 0)),(hE dZ A (bG iV m)),(bU gq 3 [(vI (b:Int))]),(bu (V.map lP)),(bU gw 274 (bY.cells (bY.mk ln ri (bp.mk e_A e.length e_C) (bp.mk t_A tms.length t_C) (bp.mk fA (ln.ae.n+1) (ln.ae.n+1)) (bp.mk bA (ln.ae.n+1) (ln.ae.n+1))))).ro,(bU W 263 [(vP gw)]),(rd e_A e.length 1 (e.map iC)).ro,(rd t_A tms.length 1 (List.zipWith gG tms tb)).ro,(e7 (aU rz tms tb)).ro,(own bA (ln.ae.n+1) 278 1 (List.map oC (gV (A::bb) (ln.ae.n+1)))),(bu (aU nM fs fb)),(own fA (ln.ae.n+1) 278 1 (List.map oC (ej fb (ln.ae.n+1))))]) 1 U JW U<|KB 2 1 N Z U U U ?_
    try dsimp only
    rw [show (b:Int)-1=(ln.ae.n:Int)-(((j+1):Nat):Int) from by omega]
    refine yX (ms:=bs) (m:=m) (a:=A) 0 2 U U U ?_
    try dsimp only
    refine aR (AU ⟨((j+1),(m::bs),(A::bb),A3,V),⟨om,by simp; omega,by simp; omega,by exact g4.more (b:=b) E om om (by show b<e.length; omega) N K L A8⟩⟩ _ _ _ U os (aS U) (aI [0,1,3,4,5,6,7,8,9,10,11]))
   try dsimp only
   refine a_ 1 U<|RK AX<|ai fun _ BV=>aO U<|WK BV<|ax<|WS fun _ BW=>rS (SX (sI 0 U U U) U U)<|a_ 2 U<|AL U tY fun A4=>AL U ja fun A5=>t_ U rK U<|HJ U B1 U U<|RK BW<|WS fun _ BX=>rP 2 [0,1] (mc 8 U (mc 5 U I)) ?_
   refine cX (ud gw b) (aJ) U fun CM CV=>?_
   obtain ⟨AZ,Ab⟩:=CM
   try dsimp only
   refine RK BX<|ax<|kl 11 U (by exact fun _ h=>h)<|kl 13 U (by exact fun _ h=>h)<|kl 15 U (by exact fun _ h=>h)<|kl 12 U (by exact fun _ h=>h) ?_
   refine nq (L0:=[(0,(vP gw)),(1,(vP W)),(2,(vI (ln.ae.n:Int))),(12,(vP gq)),(13,(vP A4)),(14,(vP A5)),(171,(vP AT))]) (F:=[(rd e_A e.length 1 (e.map iC)).ro,(rd t_A tms.length 1 (List.zipWith gG tms tb)).ro,(e7 (aU rz tms tb)).ro,(bU gw 274 (bY.cells (bY.mk ln ri (bp.mk e_A e.length e_C) (bp.mk t_A tms.length t_C) (bp.mk fA (ln.ae.n+1) (ln.ae.n+1)) (bp.mk bA (ln.ae.n+1) (ln.ae.n+1))))).ro,(bU AZ 263 [(vP gw)]),(bU Ab 3 [(vI (b:Int))])]) (fun k (y:FM)=>(nu (cE ln ri e tms) b mb left y (t,v) k)) (fun k y=>[(bU A5 3 [(vI v)]),(bU A4 280 (aC.cells t)),(yz dZ AT ga (bG iV mb) (bG iV (cj left t)) (some (t,(vI v)))),(bu (fu nM bs bb 0)),(hE dZ A (bG iV y)),(bU gq 3 [(vI (b:Int))]),(bu (V.map lP)),(bU gw 274 (bY.cells (bY.mk ln ri (bp.mk e_A e.length e_C) (bp.mk t_A tms.length t_C) (bp.mk fA (ln.ae.n+1) (ln.ae.n+1)) (bp.mk bA (ln.ae.n+1) (ln.ae.n+1))))).ro,(bU W 263 [(vP gw)]),(rd e_A e.length 1 (e.map iC)).ro,(rd t_A tms.length 1 (List.zipWith gG tms tb)).ro,(e7 (aU rz tms tb)).ro,(own bA (ln.ae.n+1) 278 1 (List.map oC (gV (A::bb) (ln.ae.n+1)))),(bu (aU nM fs fb)),(own fA (ln.ae.n+1) 278 1 (List.map oC (ej fb (ln.ae.n+1))))]) (fun _ (_:Unit)=>False) (fun _ _=>[]) [6,7,8,9,10,11,12,13,14,15,16,17,18,19,20] [3,2,1,0,4,5] m rfl rfl (r8 ln ri e tms e_A e_C tb t_A t_C fA (ln.ae.n+1) (ln.ae.n+1) bA (ln.ae.n+1) (ln.ae.n+1) gw b AZ Ab om om) rfl rfl rfl (by exact nu.start K L) (by simp only [List.forall_mem_cons,List.not_mem_nil,false_imp_iff,implies_true,and_true]; exact ⟨⟨_,aT (i:=0) rfl,(dC (bP _))⟩,⟨_,aT (i:=1) rfl,(dC (bP _))⟩,⟨_,aT (i:=2) rfl,(dC (bP _))⟩,⟨_,aT (i:=3) rfl,(dC (bP _))⟩,⟨_,aT (i:=4) rfl,(bP _)⟩,⟨_,aT (i:=5) rfl,(bP _)⟩⟩) (by rintro k x k2 ⟨o,_,rfl,_⟩; rfl) rfl (aS rfl) ?_ ?_ (fun _ _ _ h=>h.elim) (fun _ _ h=>h.elim)
   rotate_left 1
   ·rintro Bx k O AI AO
    have D:=AO
    try dsimp only
    refine aG<|aG<|Kl (X:=V.map lP) 13 0 U U ?_
    try dsimp only
    refine fP 9 U yb U ?_
    refine aR (A_ ⟨((cj left t),O,(Bx::V)),⟨mh J,D.on,D.next Ay hm AI⟩⟩ _ _ _ U (dF hm) (aS U) (aI [9,10,11,12,0,4,14,1,2,3,18,19,20]))
   rintro k x k2 O l ra rb S w1 K95 Qr96 CC hx As BY A0 CJ CP
   obtain ⟨o,ho,rfl,rfl⟩:=hx
   have D:=As
   try dsimp only
   refine WS fun _ BZ=>rP 1 [] I ?_
   refine RK BZ<|ak<|AL U cZ fun CY=>fO U cp U<|aF<|jB (fun _ _ h=>h) (aI [1,0,2,3,4,5,6,7,8,9,10,11,12,13,14,15,16])<|aR (BY _ _ ?_)
   refine ax<|ai fun _ Ad=>dD cq [16,18] [] [] [0,1,2,3,4,5,6,7,8,9,10,11,12,13,14,15,16] [] U U U U U<|eS U (EV 2 U b_ U)<|eS U (FA 1 U fx U)<|eS U (L1 (vI o.2.Hi) 1 U b_ U U) ?_
   have hp:=E.Vd (b:=b) om N (J _ hm)
   have B6:=K9 hw hp
   have CA:=uA o.1
   have CB:=hw.opt ho
   dsimp only at B6
   refine eS U (MN U)<|eS U (EV 10 U b_ U)<|eS U (SX (bI U U) U U)<|eS U (FA 10 U fx U)<|eS U (Ib (vS e_A e.length e_C) 9 U b_ U U)<|eS U (EV 7 U b_ U) ?_
   obtain ⟨y,hy⟩:=aL e b om
   have Az:=bH iC hy
   refine eS U (IA b U (aD 11 U) cv dc om om)<|eS U (gp b 0 (vI y) U b_ (aD 11 U) Az U dc U) ?_
   have B8:=hw.least y (aT hy)
   refine eS U (BI U (qk ⟨om,om⟩))<|eS U (LW 3 U b_ U U)<|eS U (MV U)<|eS U (CL (Le o.1) (aJ) U)<|eS U (CL (vN t (fh o.1) om om) (aJ) U)<|eS U (AG U)<|eX U<|bX U fun T101 Al=>AL U tY fun CQ=>aF (Al _ _ (aI [1,2,3,4,5,6,7,8,9,10,11,12,13,14,15,16,17]) ?_)
   refine bX U fun T103 Am=>fO U rK U<|aF (Am _ _ (aI [1,2,3,4,5,6,7,8,9,10,11,12,13,14,15,16,17]) ?_)
   refine fF U<|KK Ad<|ai fun _ Ae=>du cq 14 kr<|my 1 [] (mc 11 U I) U<|dS (SX (bI U U) U U)<|dP 3 [0,1] (mr 10 U (mc 8 U I)) ?_
   have At:(List.map oC (gV (A::bb) (ln.ae.n+1)))[b]? =some (oC (some A)):=rJ (sU (i:=0) rfl (by simp; omega))
   refine dS (IA b U (ag (n:=(ln.ae.n+1)) 15 U sq) n_ dc om om) ?_
   refine dS (gp b 0 (Value.map (some A)) U b_ (ag (n:=(gV (A::bb) (ln.ae.n+1)).length) 15 U sm) At U dc U)<|my 1 [] (mc 0 U I) U<|dS (SX (kx (kV:=dZ) (x:=(dj t (fh o.1))) (l:=O) (f:=iV) (z:=0) U U U oQ oR VD (by exact aD 7 U)) U U)<|lv 5 U<|cH<|RK Ae<|WS fun _ Y=>fy 3 [0,1] (mc 3 U (mc 2 U I)) U<|rS (MN U)<|rP 4 [] (mc 2 U I) ?_
   refine bZ (t:=217) U (aQ fun T=>?_) (aP fun T=>?_)
   ·refine rP 8 [] I ?_
    refine RK Y<|aW U<|bV<|aG ?_
    exact A0 O _ _ (by exact D.skip (Nw T)) (aI [1,3,4,5,6,7,8,9,10,11,12,13,14,15,16,17])
   refine rP 3 [] I ?_
   refine cN (t:=220) U (fun AM=>?_) (fun AM=>?_)
   ·rw [Bool.not_eq_true'] at AM
    refine a_ 5 U<|RK Y<|aO U<|du cq 9 kr<|my 1 [] (mc 11 U I) U<|dS (SX (bI U U) U U)<|dP 3 [0,1] (mr 10 U (mc 8 U I)) ?_
    have Au:(List.map oC (gV (A::bb) (ln.ae.n+1)))[b]? =some (oC (some A)):=rJ (sU (i:=0) rfl (by simp; omega))
    refine dS (IA b U (ag (n:=(ln.ae.n+1)) 15 U sq) n_ dc om om) ?_
    refine dS (gp b 0 (Value.map (some A)) U b_ (ag (n:=(gV (A::bb) (ln.ae.n+1)).length) 15 U sm) Au U dc U)<|dP 2 [] (mc 0 U I) ?_
    refine cH<|iY (kV:=dZ) (x:=(dj t (fh o.1))) (C':=[_,_,_,_,_,_,_,(hE dZ A (bG iV (ew O (dj t (fh o.1)) ((min v o.2.Hi)-y)))),_,_,_,_,_,_,_,_,_,_]) 7 U U U U oQ oR U (gI _ _ _ _).symm U<|aF<|aG ?_
    exact A0 (ew O (dj t (fh o.1)) ((min v o.2.Hi)-y)) _ _ (by exact D.set (by show b<e.length; omega) hp ho (AN hy T) (.inl (by simpa using AM))) (aI [1,3,4,5,6,7,8,9,10,11,12,13,14,15,16,17])
   rw [Bool.not_eq_false'] at AM
   refine rP 5 [] I ?_
   refine RK Y<|bM U (aQ fun AA=>?_) (aP fun AA=>?_)
   ·refine bV<|aG ?_
    exact A0 O _ _ (by exact D.ou (AN hy T) (by simpa using AM) AA) (aI [1,3,4,5,6,7,8,9,10,11,12,13,14,15,16,17])
   refine du cq 9 kr<|my 1 [] (mc 11 U I) U<|dS (SX (bI U U) U U)<|dP 3 [0,1] (mr 10 U (mc 8 U I)) ?_
   have Av:(List.map oC (gV (A::bb) (ln.ae.n+1)))[b]? =some (oC (some A)):=rJ (sU (i:=0) rfl (by simp; omega))
   refine dS (IA b U (ag (n:=(ln.ae.n+1)) 15 U sq) n_ dc om om) ?_
   refine dS (gp b 0 (Value.map (some A)) U b_ (ag (n:=(gV (A::bb) (ln.ae.n+1)).length) 15 U sm) Av U dc U)<|dP 2 [] (mc 0 U I) ?_
   refine cH<|iY (kV:=dZ) (x:=(dj t (fh o.1))) (C':=[_,_,_,_,_,_,_,(hE dZ A (bG iV (ew O (dj t (fh o.1)) ((min v o.2.Hi)-y)))),_,_,_,_,_,_,_,_,_,_]) 7 U U U U oQ oR U (gI _ _ _ _).symm U<|aF<|aG ?_
   exact A0 (ew O (dj t (fh o.1)) ((min v o.2.Hi)-y)) _ _ (by exact D.set (by show b<e.length; omega) hp ho (AN hy T) (.inr AA)) (aI [1,3,4,5,6,7,8,9,10,11,12,13,14,15,16,17])
  refine dD cq [4,11,12,14] [10] [0,1,2] [0,1,2,3,4,6] [0,1,2,3,4,5,6] U U U U U<|eS U (EV 1 U b_ U)<|eS U (SX (bI U U) U U)<|eS U (FA 12 U fx U)<|eS U (Ib (vS fA (ln.ae.n+1) (ln.ae.n+1)) 0 U b_ U U)<|eS U (SX (bh (xs:=[]) (cs:=(aC.cells (aC.mk 0 0))) U U (bg Cy U)) U U)<|eS U (EV 1 U b_ U)<|eS U (SX (bI U U) U U)<|eS U (FA 7 U fx U)<|eS U (FA 7 U fx U)<|eS U (Ib (vI ri.Start) 0 U b_ U U) ?_
  obtain ⟨x6,CD⟩:=aL (List.replicate (ln.ae.n+1) (none:Option Nat)) 0 om
  have hx7m:(List.map oC (List.replicate (ln.ae.n+1) (none:Option Nat)))[0]? =some (oC x6):=by rw [fw,CD]; rfl
  refine fS U (IA 0 U (ag (n:=(ln.ae.n+1)) 5 U sq) n_ dc U om) ?_
  refine eX U<|iD U fun T8 Ao=>nj (kV:=dZ) U U fun r=>?_
  try dsimp only
  refine aF (Ao _ _ (aI [1,2,3,4,5,7]) (aI [1,2,3,4,5,6,7]) ?_)
  refine iD U fun T10 G=>?_
  have Bk:(ew ([]:List (aC×Int)) (aC.mk 0 0) ri.Start)=[((aC.mk 0 0),ri.Start)]:=by rfl
  refine zu (kV:=dZ) (x:=(aC.mk 0 0)) (C':=[(hE dZ r (bG iV ([((aC.mk 0 0),ri.Start)]))),_,_,_,_,_,_,_]) 0 U U U U oQ oR U ((gI _ _ _ _).symm.trans (congrArg _ Bk)) U<|aF (G _ _ (aI [1,2,3,4,5,7]) (aI [1,2,3,4,5,6,7]) ?_)
  refine iD U fun T12 Ba=>rS (MV U)<|aF (Ba _ _ (aI [1,2,3,4,5,7]) (aI [1,2,3,4,5,6,7]) ?_)
  refine bX U fun T13 Bb=>?_
  have Bl:((List.replicate (ln.ae.n+1) (none:Option Nat)).set 0 (some r))=(ej [r] (ln.ae.n+1)):=by rw [yq]; exact uG rfl sm
  refine eC (k:=0) (o:=0) (vs:=[(Value.map (some r))]) (es':=(List.map oC (ej [r] (ln.ae.n+1)))) (C':=[_,_,_,_,_,_,(own fA (ln.ae.n+1) 278 1 (List.map oC (ej [r] (ln.ae.n+1)))),_]) 6 U U U LV U U U U hx7m U dc (by exact (List.map_set (f:=oC) (l:=(List.replicate (ln.ae.n+1) (none:Option Nat))) (i:=0) (a:=(some r))).symm.trans (congrArg _ Bl)) U<|aF (Bb _ _ (aI [1,2,3,4,5,7]) ?_)
  refine fF U<|Dz<|Cz (X:=[]) (X':=aU nM [[((aC.mk 0 0),ri.Start)]] [r]) 0 1 U U U ?_
  try dsimp only
  refine aR (jB (aS U) (aI [1,2,3,4,5,7,0,6]) (B5 ⟨r,trivial⟩))
 refine pa cq [0,1,2,3,5,6,8,9,11,12] [4,7,10,13] [false,false,false,false,false,false,false,false,false,false] [] [(bU W 263 [(vP gw)]),(rd e_A e.length 1 (e.map iC)).ro,(rd t_A tms.length 1 (List.zipWith gG tms tb)).ro,(e7 (aU rz tms tb)).ro] [] kr (aI [0,2,3,4]) (aI [])<|eS U (EV 0 U b_ U)<|eS U (EV 0 U b_ U)<|eS U (MV U)<|eS U (BI U (gY ⟨om,om⟩))<|eS U (MV U)<|eS U (BI U (gY ⟨om,om⟩))<|eS U (SX (bI U U) U U)<|eS U (FA 12 U fx U)<|eS U (SX (bI U U) U U)<|eS U (FA 13 U fx U)<|eX U<|iQ [4,7] kr (eI ?_<|eI ?_<|kQ)
 rotate_left 1
 ·refine NO U U [4,10,13] fun T5 An=>?_
  refine xS (n:=(ln.ae.n+1)) (es:=(List.map oC (List.replicate (ln.ae.n+1) (none:Option Nat)))) U U U BP om om (by simp only [maxLen]; omega) (by rw [List.map_replicate]; rfl) U fun b6=>?_
  try dsimp only
  refine aF (An _ _ (aI [1,3,4,5]) ?_)
  refine N1 4<|NO U U [10,13] fun T7 AH=>?_
  refine xS (n:=(ln.ae.n+1)) (es:=(List.map oC (List.replicate (ln.ae.n+1) (none:Option Nat)))) U U U BP om om (by simp only [maxLen]; omega) (by rw [List.map_replicate]; rfl) U fun b8=>?_
  try dsimp only
  refine aF (AH _ _ (aI [2,4,5,6]) ?_)
  refine N1 10<|NO U U [13] fun T9 Ap=>Rt (bY.cells (bY.mk ln ri (bp.mk e_A e.length e_C) (bp.mk t_A tms.length t_C) (bp.mk (some ⟨b8,0,none⟩) (ln.ae.n+1) (ln.ae.n+1)) (bp.mk none 0 0))) U zd U U<|aF (Ap _ _ (aI [2,4,5,6]) ?_)
  refine N1 13<|NO U U [] fun T10 G=>Rt (bY.cells (bY.mk ln ri (bp.mk e_A e.length e_C) (bp.mk t_A tms.length t_C) (bp.mk (some ⟨b8,0,none⟩) (ln.ae.n+1) (ln.ae.n+1)) (bp.mk (some ⟨b6,0,none⟩) (ln.ae.n+1) (ln.ae.n+1)))) U zd U U<|aF (G _ _ (aI [2,4,5,6]) ?_)
  refine pW ?_
  refine aR (jB (aS U) (aI [2,4,5,6,0,1,3]) (Ah ⟨((some ⟨b8,0,none⟩),(some ⟨b6,0,none⟩)),trivial⟩))
 refine NO U U [7,10,13] fun T5 An=>?_
 refine xS (n:=(ln.ae.n+1)) (es:=(List.map oC (List.replicate (ln.ae.n+1) (none:Option Nat)))) U U U BP om om (by simp only [maxLen]; omega) (by rw [List.map_replicate]; rfl) U fun b6=>?_
 try dsimp only
 refine aF (An _ _ (aI [1,3,4,5]) ?_)
 refine iQ [7,10] kr (eI ?_<|eI ?_<|kQ)
 rotate_left 1
 ·refine NO U U [7,13] fun T7 AH=>VQ (bY.cells (bY.mk ln ri (bp.mk e_A e.length e_C) (bp.mk t_A tms.length t_C) (bp.mk (some ⟨b6,0,none⟩) (ln.ae.n+1) (ln.ae.n+1)) (bp.mk none 0 0))) U zd U U<|aF (AH _ _ (aI [1,3,4,5]) ?_)
  refine N1 7<|NO U U [13] fun T8 Ao=>?_
  refine xS (n:=(ln.ae.n+1)) (es:=(List.map oC (List.replicate (ln.ae.n+1) (none:Option Nat)))) U U U BP om om (by simp only [maxLen]; omega) (by rw [List.map_replicate]; rfl) U fun r=>?_
  try dsimp only
  refine aF (Ao _ _ (aI [2,4,5,6]) ?_)
  refine N1 13<|NO U U [] fun T10 G=>Rt (bY.cells (bY.mk ln ri (bp.mk e_A e.length e_C) (bp.mk t_A tms.length t_C) (bp.mk (some ⟨b6,0,none⟩) (ln.ae.n+1) (ln.ae.n+1)) (bp.mk (some ⟨r,0,none⟩) (ln.ae.n+1) (ln.ae.n+1)))) U zd U U<|aF (G _ _ (aI [2,4,5,6]) ?_)
  refine pW ?_
  refine aR (jB (aS U) (aI [2,4,5,6,1,0,3]) (Ah ⟨((some ⟨b6,0,none⟩),(some ⟨r,0,none⟩)),trivial⟩))
 refine NO U U [10,13] fun T7 AH=>?_
 refine xS (n:=(ln.ae.n+1)) (es:=(List.map oC (List.replicate (ln.ae.n+1) (none:Option Nat)))) U U U BP om om (by simp only [maxLen]; omega) (by rw [List.map_replicate]; rfl) U fun b8=>?_
 try dsimp only
 refine aF (AH _ _ (aI [2,4,5,6]) ?_)
 refine N1 10<|NO U U [13] fun T9 Ap=>Rt (bY.cells (bY.mk ln ri (bp.mk e_A e.length e_C) (bp.mk t_A tms.length t_C) (bp.mk (some ⟨b6,0,none⟩) (ln.ae.n+1) (ln.ae.n+1)) (bp.mk none 0 0))) U zd U U<|aF (Ap _ _ (aI [2,4,5,6]) ?_)
 refine N1 13<|NO U U [] fun T10 G=>Rt (bY.cells (bY.mk ln ri (bp.mk e_A e.length e_C) (bp.mk t_A tms.length t_C) (bp.mk (some ⟨b6,0,none⟩) (ln.ae.n+1) (ln.ae.n+1)) (bp.mk (some ⟨b8,0,none⟩) (ln.ae.n+1) (ln.ae.n+1)))) U zd U U<|aF (G _ _ (aI [2,4,5,6]) ?_)
 refine pW ?_
 refine aR (jB (aS U) (aI [2,4,5,6,1,0,3]) (Ah ⟨((some ⟨b6,0,none⟩),(some ⟨b8,0,none⟩)),trivial⟩))
end
section
open Go.RowKit
theorem EA (l:aX) (kA:OA) (kC:Nat) (az:List RA) (cA:OA) (cC:Nat) (bA:OA) (bC g1:Nat) (bm:Int) (g2:Nat) (hin:eu l az):
 dV Tryz.prog 206 [(vP g1),(vP g2)] [(rd kA l.aN.length 9 (l.aN.map al.cells)),(rd cA l.aj.length 2 (List.zipWith av.cells l.aj az)),(e7 (aU av.g0 l.aj az)),(rd bA l.ae.length 4 (l.ae.map bB.cells)),(bU g1 31 (cb.cells (ly l kA kC cA cC bA bC))),(bU g2 3 [(vI bm)])] (vI (ju l bm)):=by
 have K:=hin.sM
 have J:=hin.sO
 have H:=hin.oq
 have AA:=hin.sN
 refine bx kr Tryz.func206 U U fun L Q hQ hN=>?_
 try dsimp only
 refine WS fun _ B=>a_ 1 U<|RK B<|ai fun _ C=>WS fun _ D=>rP 5 [0,1] (mr 4 U (mr 5 U I)) ?_
 refine cV (xs:=[.tmp 7]) (cs:=[(vI bm)]) U cv ja U U U U (by simp [Value.cells]) U U fun G=>?_
 refine rS (CL (dV.eq (iO 0 ((l.ae.length:Int)-1) ([bm]) (some ⟨G,0,none⟩) 1 (by (simp; done))) cR) (aq (aZ 0 U U (by simp [bE]) U)<|aJ) U) ?_
 refine rP 1 [] I ?_
 refine RK D<|cy U (bk fun A=>?_) (bj fun A=>?_)
 ·refine WS fun _ E=>rP 1 [] I ?_
  refine RK E<|ao<|Q1 hQ U U U ?_
  exact cI (if_neg om).symm
 refine WK C<|WS fun _ F=>rP 1 [] I ?_
 refine RK F<|ao<|Q1 hQ U U U ?_
 exact cI (if_pos om).symm
end
section
open Go.RowKit
theorem ME (l:aX) (kA:OA) (kC:Nat) (az:List RA) (cA:OA) (cC:Nat) (bA:OA) (bC:Nat) (r:cx) (sgA:OA) (sgC:Nat) (f:Value) (X:au) (me:Int) (gm:Nat) (hf:Ef Tryz.prog f [] [X] (.int .i64 me)) (hin:eu l az) (hsl:r.ah.length≤1000000):
 lD Tryz.prog 205 [(vA (cb.cells (ly l kA kC cA cC bA bC))),(vA (eH.cells (mA r sgA sgC))),(vS (some ⟨gm,0,none⟩) 1 1)] [(rd kA l.aN.length 9 (l.aN.map al.cells)),(rd cA l.aj.length 2 (List.zipWith av.cells l.aj az)),(e7 (aU av.g0 l.aj az)),(rd bA l.ae.length 4 (l.ae.map bB.cells)),(rd sgA r.ah.length 2 (r.ah.map aM.cells)),X,(bU gm 266 [f])] (fun (x:Bool×Int×Nat×(OA)×Nat×(OA)×Nat×(List Nat)×(List FM)×(List Nat)×(OA)×Nat×(List FM)×(List Nat)×(OA)×Nat)=>bif x.1 then (vT [(Value.pointer (some ⟨x.2.2.1,0,none⟩)),(vI 0)]) else (vT [(Value.pointer none),(vI x.2.1)])) (fun (x:Bool×Int×Nat×(OA)×Nat×(OA)×Nat×(List Nat)×(List FM)×(List Nat)×(OA)×Nat×(List FM)×(List Nat)×(OA)×Nat)=>(x.1=true→(eA l r me=0∧xC (ck l r) x.2.2.2.2.2.2.2.2.1∧ug (ck l r) x.2.2.2.2.2.2.2.2.2.2.2.2.1∧x.2.2.2.2.2.2.2.2.2.1.length=x.2.2.2.2.2.2.2.2.1.length∧x.2.2.2.2.2.2.2.2.2.2.2.2.2.1.length=x.2.2.2.2.2.2.2.2.2.2.2.2.1.length∧x.2.2.2.2.2.2.2.1.length=(dT l r.ah r.ah.length).length))∧(x.1=false→(x.2.1=eA l r me∧ ¬ eA l r me=0))) (fun (x:Bool×Int×Nat×(OA)×Nat×(OA)×Nat×(List Nat)×(List FM)×(List Nat)×(OA)×Nat×(List FM)×(List Nat)×(OA)×Nat)=>bif x.1 then [(bU x.2.2.1 274 (bY.cells (bY.mk (ly l kA kC cA cC bA bC) (mA r sgA sgC) (bp.mk x.2.2.2.1 ((cG l l.ae.length).length) x.2.2.2.2.1) (bp.mk x.2.2.2.2.2.1 ((dT l r.ah r.ah.length).length) x.2.2.2.2.2.2.1) (bp.mk x.2.2.2.2.2.2.2.2.2.2.1 x.2.2.2.2.2.2.2.2.1.length x.2.2.2.2.2.2.2.2.2.2.2.1) (bp.mk x.2.2.2.2.2.2.2.2.2.2.2.2.2.2.1 x.2.2.2.2.2.2.2.2.2.2.2.2.1.length x.2.2.2.2.2.2.2.2.2.2.2.2.2.2.2)))),(own x.2.2.2.1 x.2.2.2.2.1 3 1 ((cG l l.ae.length).map iC)),(own x.2.2.2.2.2.1 x.2.2.2.2.2.2.1 64 1 (List.zipWith gG (dT l r.ah r.ah.length) x.2.2.2.2.2.2.2.1)),(bu (aU rz (dT l r.ah r.ah.length) x.2.2.2.2.2.2.2.1)),(own x.2.2.2.2.2.2.2.2.2.2.1 x.2.2.2.2.2.2.2.2.2.2.2.1 278 1 (List.zipWith gG x.2.2.2.2.2.2.2.2.1 x.2.2.2.2.2.2.2.2.2.1)),(bu (aU nM x.2.2.2.2.2.2.2.2.1 x.2.2.2.2.2.2.2.2.2.1)),(own x.2.2.2.2.2.2.2.2.2.2.2.2.2.2.1 x.2.2.2.2.2.2.2.2.2.2.2.2.2.2.2 278 1 (List.zipWith gG x.2.2.2.2.2.2.2.2.2.2.2.2.1 x.2.2.2.2.2.2.2.2.2.2.2.2.2.1)),(bu (aU nM x.2.2.2.2.2.2.2.2.2.2.2.2.1 x.2.2.2.2.2.2.2.2.2.2.2.2.2.1))] else []):=by
 have B3:=hin.sM
 have B1:=hin.sO
 have Bz:=hin.oq
 have B0:=hin.sN
 have B2:=hin.side
 refine di kr Tryz.func205 U U fun w0 Q hQ hN=>?_
 try dsimp only
 refine WS fun _ Ba=>fQ U fun b2=>fQ U fun b3=>a_ 2 U<|RK Ba<|ai fun _ Bb=>WS fun _ Bc=>fy 1 [] (mc 1 U I) U<|rS (CL (Bt l kA kC az cA cC bA bC hin) (bf [2,3,4,5]) U)<|a_ 1 U<|RK Bc<|WS fun _ Bd=>rP 2 [] I ?_
 refine RK Bd<|cy U (bk fun h=>?_) (bj fun h=>?_)
 ·refine WS fun _ Be=>rP 3 [] I ?_
  refine RK Be<|ao<|LX hQ (false,(dp l),0,none,0,none,0,[],[],[],none,0,[],[],none,0) [] [] I U (by rfl) U U ?_
  exact rG<|LS (nV (r:=r) (me:=me) h) h
 refine WK Bb<|ai fun _ Bf=>WS fun _ AB=>?_
 have C:dp l=0:=h
 obtain ⟨BK,d⟩:=gH C
 have Bh:=d.head
 unfold gl at Bh
 refine rP 2 [] (mc 0 U I) ?_
 refine cV (xs:=[.tmp 24]) (cs:=[(vI r.Start)]) U cv ja U U U U (by simp [Value.cells]) U U fun BQ=>?_
 refine rS (CL (dV.eq (iO 0 86400000 ([r.Start]) (some ⟨BQ,0,none⟩) 1 (by (simp; done))) cR) (aq (aZ 0 U U (by simp [bE]) U)<|aJ) U) ?_
 refine rP 2 [] I ?_
 refine cN (t:=28) U (bk fun BU=>?_) (bj fun BU=>?_)
 ·refine a_ 14 U<|RK AB<|aO U<|WS fun _ AM=>rP 2 [] I ?_
  refine RK AM<|ao<|LX hQ (false,51,0,none,0,none,0,[],[],[],none,0,[],[],none,0) [] [] I U (by rfl) U U ?_
  exact rG<|pQ (jd (me:=me) C (fun q:ff l r=>by have q1:=q.time; have q2:=q.len; omega))
 refine rP 4 [] (mc 1 U I) ?_
 refine cV (xs:=[.tmp 32]) (cs:=[(vI r.f_)]) U cv ja U U U U (by simp [Value.cells]) U U fun BR=>?_
 refine rS (CL (dV.eq (iO r.Start 86400000 ([r.f_]) (some ⟨BR,0,none⟩) 1 (by (simp; done))) cR) (aq (aZ 0 U U (by simp [bE]) U)<|aJ) U) ?_
 refine rP 3 [] I ?_
 refine cN (t:=37) U (bk fun BW=>?_) (bj fun BW=>?_)
 ·refine a_ 5 U<|RK AB<|aO U<|WS fun _ AN=>rP 2 [] I ?_
  refine RK AN<|ao<|LX hQ (false,51,0,none,0,none,0,[],[],[],none,0,[],[],none,0) [] [] I U (by rfl) U U ?_
  exact rG<|pQ (jd (me:=me) C (fun q:ff l r=>by have q1:=q.time; have q2:=q.len; omega))
 refine rP 5 [] (mc 2 U I) ?_
 refine RK AB<|cy U (aP fun BX=>?_) (aQ fun BX=>?_)
 ·refine WS fun _ AO=>rP 2 [] I ?_
  refine RK AO<|ao<|LX hQ (false,51,0,none,0,none,0,[],[],[],none,0,[],[],none,0) [] [] I U (by rfl) U U ?_
  exact rG<|pQ (jd (me:=me) C (fun q:ff l r=>by have q1:=q.time; have q2:=q.len; omega))
 refine WK Bf<|WS fun _ AP=>rS (SX (bh (xs:=[(0,.const (vI (-1)))]) (cs:=(aM.cells (aM.mk (-1) 0))) U U (bg Ga U)) U U)<|AL U FH fun V=>fO U wi U<|RK AP<|ai fun _ AQ=>dD cq [5,6,7,8] [] [] [0,1,2,3,4,5,6,7,8,9,10,11] [] U U U U U<|eS U (LW 4 U b_ U U)<|eS U (LW 3 U b_ U U)<|eS U (FA 3 U fx U)<|eS U (L1 (vS bA l.ae.length bC) 4 U b_ U U)<|eS U (LN U Qf)<|eX U<|bX U fun T18 Ay=>?_
 refine xS (n:=l.ae.length) (es:=(List.map oC (List.replicate l.ae.length (none:Option Nat)))) U U U SH om om (by simp only [maxLen]; omega) (by rw [List.map_replicate]; rfl) U fun B=>?_
 try dsimp only
 refine aF (Ay _ _ (aI [1,2,3,4,5,6,7,8,9,10,11,12]) ?_)
 refine bX U fun T20 Az=>rS (SX (bh (xs:=[(0,.tmp 44),(1,.tmp 45),(3,.tmp 49)]) (cs:=(bY.cells (bY.mk (ly l kA kC cA cC bA bC) (mA r sgA sgC) (bp.mk none 0 0) (bp.mk (some ⟨B,0,none⟩) l.ae.length l.ae.length) (bp.mk none 0 0) (bp.mk none 0 0)))) U U (bg R_ U)) U U)<|aF (Az _ _ (aI [1,2,3,4,5,6,7,8,9,10,11,12]) ?_)
 refine bX U fun T21 A0=>fQ U fun Bu=>aF (A0 _ _ (aI [2,3,4,5,6,7,8,9,10,11,12,13]) ?_)
 refine bX U fun T23 A1=>rS (AG U)<|aF (A1 _ _ (aI [2,3,4,5,6,7,8,9,10,11,12,13]) ?_)
 refine fF U<|KK AQ<|ai fun _ AR=>WS fun _ AS=>rP 4 [] (mc 6 U I) ?_
 refine RK AS<|ax ?_
 rw [yq]
 refine fV 3 1<|oh ?_
 have E:(0≤l.ae.length)∧(([]:List Nat).length=0):=by exact ⟨Nat.zero_le _,rfl⟩
 refine bK (ι:={z:Nat×(OA)×Nat×(List Nat) // (z.1≤l.ae.length)∧(z.2.2.2.length=z.1)}) [2,3,4,6,7,9,10,54] [4,7,8,9,10,11,12,13,14,15] U U (fun z=>[(55,(vI (z.1.1:Int)))]) (fun z=>[(bu (aU rz (List.replicate z.1.1 ([]:TM)) z.1.2.2.2)),(own z.1.2.1 z.1.2.2.1 3 1 ((cG l z.1.1).map iC)),(bU Bu 274 (bY.cells (bY.mk (ly l kA kC cA cC bA bC) (mA r sgA sgC) (bp.mk z.1.2.1 ((cG l z.1.1).length) z.1.2.2.1) (bp.mk (some ⟨B,0,none⟩) l.ae.length l.ae.length) (bp.mk none 0 0) (bp.mk none 0 0)))),(own (some ⟨B,0,none⟩) l.ae.length 64 1 (List.map oC (ej z.1.2.2.2 l.ae.length)))]) (fun _=>rfl) (fun _=>rfl) (fun z=>l.ae.length-z.1.1) ⟨(0,none,0,([]:List Nat)),E⟩ (aS U) (aI [4,7,8,9,10,11,12,13,14,15,0,1,2,3]) ?_
 clear E
 rintro ⟨⟨b,a,c,fb⟩,⟨AC,Y⟩⟩ J26 AK
 try dsimp only at AC Y
 try dsimp only
 have Bi:(ej fb l.ae.length).length=l.ae.length:=re om
 refine WS fun _ AT=>rP 1 [] I ?_
 refine RK AT<|ai fun _ AU=>cy U (aP fun BV=>?_) (aQ fun BV=>?_)
 ·refine WK AU<|ai fun _ AV=>ax<|WS fun _ AW=>rP 2 [] I ?_
  refine RK AW<|ai fun _ AX=>dD cq [12,13,16] [4] [0] [0,1,2,3,4,5,6,7,8,9,10,13] [0,1,2,3,4,5,6,7,8,9,10,11,12,13] U U U U U<|eS U (MV U)<|eS U (MV U)<|eS U (SX (bI U U) U U)<|eS U (FA 10 U fx U)<|fS U (L1 (vS a ((cG l b).length) c) 12 U b_ U U)<|eS U (LW 2 U b_ U U)<|eS U (MV U)<|eS U (CL (OR l kA kC az cA cC bA bC (b:Int) hin asm (by exact d.vy) om) (bf [3,4,5,6]) U) ?_
  have B4:=FV BK d.vy b
  have B5:=d.Q0 b om
  simp only [Int.toNat_natCast]
  refine eS U (BI U (Gf ⟨om,om⟩))<|eS U (FA 1 U fx U)<|eS U (L1 (vI l.gT) 2 U b_ U U) ?_
  refine eS U (CL (OG (1000*(lX l (b:Int).toNat)) l.gT om (by (simp; omega))) (aJ) U) ?_
  refine eS U (SX (bI U U) U U)<|eS U (FA 10 U fx U)<|eX U<|iD U fun T33 A2=>cV (xs:=[.tmp 69]) (cs:=[(vI (o7 (1000*(lX l (b:Int).toNat)) l.gT))]) U cv ja U U U U (by simp [Value.cells]) U U fun Bv=>aF (A2 _ _ (aI [1,2,3,4,5,6,7,8,9,10,11,14]) (aI [1,2,3,4,5,6,7,8,9,10,11,12,13,14]) ?_)
  refine bX U fun T35 A3=>?_
  refine c_ (es2:=(List.map iC (cG l (b+1)))) (m':=(cG l (b+1)).length) 12 U U U pZ U U (by simp [dW]) (aZ (es:=List.map iC [(o7 (1000*(lX l (b:Int).toNat)) l.gT)]) 0 U U (by simp [bE]) U) (kb _) (by have:=dW (l:=l) (n:=b); first|omega|(simp; omega)) (by simp only [maxLen,dW]; omega) (by rw [uX]; simp [dR]) (by simp [dW]) U fun e g=>?_
  try dsimp only
  refine aF (A3 _ _ (aI [1,2,3,4,5,6,7,8,9,10,11,14]) ?_)
  refine bX U fun T38 A4=>jf (vs:=[(vS e ((cG l (b+1)).length) g)]) (cs':=(bY.cells (bY.mk (ly l kA kC cA cC bA bC) (mA r sgA sgC) (bp.mk e ((cG l (b+1)).length) g) (bp.mk (some ⟨B,0,none⟩) l.ae.length l.ae.length) (bp.mk none 0 0) (bp.mk none 0 0)))) (C':=[_,_,_,_,_,_,_,_,_,_,_,_,_,(bU Bu 274 (bY.cells (bY.mk (ly l kA kC cA cC bA bC) (mA r sgA sgC) (bp.mk e ((cG l (b+1)).length) g) (bp.mk (some ⟨B,0,none⟩) l.ae.length l.ae.length) (bp.mk none 0 0) (bp.mk none 0 0)))),_]) 13 U U U Ai U U U U U U U<|aF (A4 _ _ (aI [1,2,3,4,5,6,7,8,9,10,11,14]) ?_)
  refine fF U<|KK AX<|ak<|a_ 1 U<|rS (SX (bI U U) U U)<|rP 3 [] (mc 13 U I) ?_
  refine nj (kV:=iV) U U fun J=>?_
  try dsimp only
  obtain ⟨Bm,BM⟩:=aL (ej fb l.ae.length) b om
  have hx41m:(List.map oC (ej fb l.ae.length))[b]? =some (oC Bm):=by rw [fw,BM]; rfl
  refine rS (IA b U (ag (n:=l.ae.length) 15 U sq) FJ dc om om) ?_
  have A5:((ej fb l.ae.length).set b (some J))=(ej (fb++[J]) l.ae.length):=by exact uG om om
  refine eC (k:=b) (o:=0) (vs:=[(Value.map (some J))]) (es':=(List.map oC (ej (fb++[J]) l.ae.length))) (C':=[_,_,_,_,_,_,_,_,_,_,_,_,_,_,_,(own (some ⟨B,0,none⟩) l.ae.length 64 1 (List.map oC (ej (fb++[J]) l.ae.length)))]) 15 U U U MF U U U U hx41m U dc (by exact (List.map_set (f:=oC) (l:=(ej fb l.ae.length)) (i:=b) (a:=(some J))).symm.trans (congrArg _ A5)) U<|aF<|aG<|KK AV<|ak<|rP 2 [] I ?_
  refine aF<|Cz (X':=aU rz (List.replicate (b+1) ([]:TM)) (fb++[J])) 12 0 U U (M1 Y) ?_
  try dsimp only
  have A6:(vI (((b+1):Nat):Int))=(vI ((b:Int)+1)):=by exact cI om
  refine aR (AK ⟨((b+1),e,g,(fb++[J])),⟨om,by simp; omega⟩⟩ _ _ _ U os (cO 8<|bo U A6<|dw.nil _) (aI [2,3,4,5,6,7,8,9,10,11,0,12,13,14]))
 refine bw<|ab<|ab<|ay<|KK AR<|ai fun _ AY=>WS fun _ AZ=>rP 4 [] (mc 1 U I) ?_
 refine RK AZ<|ax ?_
 rw [show (List.replicate b ([]:TM))=dT l r.ah 0 from by rw [Ek,show b=l.ae.length by omega]]
 rw [show cG l b=cG l l.ae.length from by rw [show b=l.ae.length by omega]]
 have E:(0≤r.ah.length)∧(qJ l r.ah 0):=by exact ⟨Nat.zero_le _,zy⟩
 refine bK (ι:={z:Nat // (z≤r.ah.length)∧(qJ l r.ah z)}) [2,3,4,6,7,9,10,83,84] [1,2,3,4,5,6,7,8,9,11,12,13] U U (fun z=>[(85,(vI (z.1:Int)))]) (fun z=>[(bU V 123 (aM.cells (mG r.ah z.1))),(bu (aU rz (dT l r.ah z.1) fb))]) (fun _=>rfl) (fun _=>rfl) (fun z=>r.ah.length-z.1) ⟨0,E⟩ (aS U) (aI [1,2,3,4,5,6,7,8,9,11,12,13,0,10]) ?_
 clear E
 rintro ⟨i,⟨BP,A⟩⟩ J46 T
 try dsimp only
 have Bj:(dT l r.ah i).length=l.ae.length:=jg
 have Bi:(ej fb l.ae.length).length=l.ae.length:=re om
 refine WS fun _ Aa=>rP 1 [] I ?_
 refine RK Aa<|ai fun _ Ab=>bM U (aQ fun BY=>?_) (aP fun BY=>?_)
 ·refine bw<|ab<|ab<|ay<|KK AY<|ai fun _ Am=>ai fun _ An=>?_
  have j:ff l r:=Co om om A om
  refine ak<|a_ 3 U<|RK An<|ax<|jE 2<|eg fun R81 Ax=>WS fun _ Ao=>rS (SX (bS (r:= .bool true) U U U gQ) U U)<|RK Ao<|ai fun _ Ap=>aO U<|WK Ap<|ai fun _ Aq=>ax<|WS fun _ Ar=>rS (TR 0 0 U OF U dc U)<|fy 2 [] (mr 8 U I) U<|RK Ar<|WS fun _ As=>a_ 1 U<|rS (SX (sf U U U (hf) (bf [7])) U U)<|a_ 1 U<|RK As<|WS fun _ At=>rP 2 [] I ?_
  refine RK At<|cy U (bk fun K=>?_) (bj fun K=>?_)
  ·refine WS fun _ Au=>rP 3 [] I ?_
   refine RK Au<|ao<|LX hQ (false,me,0,none,0,none,0,[],[],[],none,0,[],[],none,0) [] [] I U (by rfl) U U ?_
   exact rG<|LS (qp C j K) K
  refine bV<|aG<|KK Aq<|ak<|rS (SX (bS (r:= .int .i64 1) U U U (gY ⟨dc,dc⟩)) U U)<|rP 1 [] I ?_
  refine RK Ax<|eg fun R89 Bq=>WS fun _ Av=>rS (SX (bS (r:= .bool false) U U U gQ) U U)<|RK Av<|ai fun _ Bp=>aW U<|bw<|ab<|ab<|ay<|KK Am<|ai fun _ Aw=>?_
  rw [show dT l r.ah i=dT l r.ah r.ah.length from by rw [show i=r.ah.length by omega]]
  have AE:(dT l r.ah r.ah.length).length=l.ae.length:=jg
  rw [show (List.map oC (ej fb l.ae.length))=(List.zipWith gG (dT l r.ah r.ah.length) fb) from U0 om AE]
  rw [show (bU Bu 274 (bY.cells (bY.mk (ly l kA kC cA cC bA bC) (mA r sgA sgC) (bp.mk a ((cG l l.ae.length).length) c) (bp.mk (some ⟨B,0,none⟩) l.ae.length l.ae.length) (bp.mk none 0 0) (bp.mk none 0 0))))=(bU Bu 274 (bY.cells (bY.mk (ly l kA kC cA cC bA bC) (mA r sgA sgC) (bp.mk a ((cG l l.ae.length).length) c) (bp.mk (some ⟨B,0,none⟩) ((dT l r.ah r.ah.length).length) l.ae.length) (bp.mk none 0 0) (bp.mk none 0 0)))) from by rw [AE]]
  have BL:=oM BK d j
  have Br:(cG l l.ae.length).length=l.ae.length:=dW
  refine ak<|rP 1 [] I ?_
  refine iP 10 U U U U (Jm (ly l kA kC cA cC bA bC) (mA r sgA sgC) (cG l l.ae.length) (dT l r.ah r.ah.length) a c fb (some ⟨B,0,none⟩) l.ae.length Bu (by exact BL) (by exact dW.symm) (by rw [AE]; omega)) U (dU 9 U U (j0 sm) (dU 11 U U (j0 (by rw [List.length_zipWith]; omega)) (dU 13 U U sX kd))) U (fun BN Bg=>?_)
  obtain ⟨G,S,P,R,F,O,N,H⟩:=BN
  refine MJ (X:=[(bU Bu 274 (bY.cells (bY.mk (ly l kA kC cA cC bA bC) (mA r sgA sgC) (bp.mk a ((cG l l.ae.length).length) c) (bp.mk (some ⟨B,0,none⟩) ((dT l r.ah r.ah.length).length) l.ae.length) (bp.mk P G.length R) (bp.mk N F.length H)))),(own P R 278 1 (List.zipWith gG G S)),(bu (aU nM G S)),(own N H 278 1 (List.zipWith gG F O)),(bu (aU nM F O))]) 10 U U ?_
  try dsimp only
  obtain ⟨AD,BG,BH,BJ⟩:=Bg
  dsimp only at AD BG BH BJ
  refine RK Aw<|ai fun _ v=>WS fun _ w=>rP 1 [] I ?_
  refine cX (HE (ly l kA kC cA cC bA bC) (mA r sgA sgC) (cG l l.ae.length) (dT l r.ah r.ah.length) a c fb (some ⟨B,0,none⟩) l.ae.length G F S P R O N H Bu (by exact BL) (by (simp; omega)) (by exact dW.symm) (by exact AD) asm) (aq (ag (n:=(cG l l.ae.length).length) 14 U sm)<|aq (ag (n:=(dT l r.ah r.ah.length).length) 15 U (by rw [List.length_zipWith]; omega))<|aq (dy 17 U xN)<|aq (ag (n:=G.length) 1 U (by rw [List.length_zipWith]; omega))<|aq (dy 2 U xN)<|aq (ag (n:=F.length) 3 U (by rw [List.length_zipWith]; omega))<|aq (dy 4 U xN)<|fq 0 U U<|aJ) U fun BO Bl=>?_
  obtain ⟨Bn,Bo⟩:=BO
  try dsimp only
  refine rP 2 [] I ?_
  refine RK w<|bM U (aQ fun W=>?_) (aP fun W=>?_)
  ·refine WK v<|WS fun _ AA=>rP 3 [] I ?_
   refine RK AA<|ao ?_
   refine LX hQ (true,0,Bu,a,c,(some ⟨B,0,none⟩),l.ae.length,fb,G,S,P,R,F,O,N,H) [1,15,16,18,2,3,4,5] [] I U (by (show List.all _ _=true; simp only [cond_true,fG,List.all_nil,KY,SY,Bool.and_true]; rfl)) U U ?_
   exact ⟨fun _=>⟨lR C j (by first|rfl|exact K) (fun q=>W (congrArg (fun z:List Int=>(z.length:Int)) q)),AD,BG,BH,BJ,dso⟩,Ng⟩
  refine WS fun _ y=>rP 2 [] I ?_
  refine RK y<|ao<|LX hQ (false,8,0,none,0,none,0,[],[],[],none,0,[],[],none,0) [] [] I U (by rfl) U U ?_
  exact rG<|pQ (pM (me:=me) C j (by first|rfl|exact K) (show jy (ck l r)=[] from jC (Int.natCast_eq_zero.1 W)))
 refine WK Ab<|ai fun _ Bs=>ax<|WS fun _ Ac=>rP 1 [] I ?_
 obtain ⟨x,hx⟩:=aL r.ah i om
 have Bk:=bH aM.cells hx
 refine rS (IA i U (aD 6 U) z5 dc om om)<|rS (oE i 0 (aM.cells x) U b_ (aD 6 U) Bk U dc U U)<|AL U FH fun Bw=>a_ 1 U<|fO U wi U<|RK Ac<|ai fun _ p=>WS fun _ L=>rP 6 [0,1] (mc 2 U (mc 0 U I)) ?_
 refine cV (xs:=[.tmp 95]) (cs:=[(vI x.gf)]) U cv ja U U U U (by simp [Value.cells]) U U fun BS=>?_
 refine rS (CL (dV.eq (iO 0 ((l.ae.length:Int)-1) ([x.gf]) (some ⟨BS,0,none⟩) 1 (by (simp; done))) cR) (aq (aZ 0 U U (by simp [bE]) U)<|aJ) U) ?_
 refine rP 2 [] I ?_
 refine cN (t:=99) U (bk fun BZ=>?_) (bj fun BZ=>?_)
 ·refine a_ 27 U<|RK L<|aO U<|WS fun _ Ad=>rP 2 [] I ?_
  refine RK Ad<|ao<|LX hQ (false,51,0,none,0,none,0,[],[],[],none,0,[],[],none,0) [] [] I U (by rfl) U U ?_
  exact rG<|pQ (jd (me:=me) C (vZ hx (by unfold j5 lf; omega)))
 refine rP 2 [] (mc 1 U I) ?_
 refine cV (xs:=[.tmp 101]) (cs:=[(vI x.Read)]) U cv ja U U U U (by simp [Value.cells]) U U fun BT=>?_
 refine rS (CL (dV.eq (iO 0 86400000 ([x.Read]) (some ⟨BT,0,none⟩) 1 (by (simp; done))) cR) (aq (aZ 0 U U (by simp [bE]) U)<|aJ) U) ?_
 refine rP 3 [] I ?_
 refine cN (t:=106) U (bk fun AF=>?_) (bj fun AF=>?_)
 ·refine a_ 20 U<|RK L<|aO U<|WS fun _ Ae=>rP 2 [] I ?_
  refine RK Ae<|ao<|LX hQ (false,51,0,none,0,none,0,[],[],[],none,0,[],[],none,0) [] [] I U (by rfl) U U ?_
  exact rG<|pQ (jd (me:=me) C (vZ hx (by unfold j5 lf; omega)))
 refine rP 7 [0,1] (mc 2 U (mc 15 U I)) ?_
 refine cN (t:=113) U (aP fun AH=>?_) (aQ fun AH=>?_)
 ·refine a_ 13 U<|RK L<|aO U<|WS fun _ Af=>rP 2 [] I ?_
  refine RK Af<|ao<|LX hQ (false,51,0,none,0,none,0,[],[],[],none,0,[],[],none,0) [] [] I U (by rfl) U U ?_
  exact rG<|pQ (jd (me:=me) C (vZ hx (by unfold j5 lf; omega)))
 refine rP 6 [0,1] (mc 2 U (mc 15 U I)) ?_
 refine bZ (t:=119) U (aQ fun AI=>?_) (aP fun AI=>?_)
 ·refine a_ 7 U<|RK L<|aW U<|WK p<|ai fun _ u=>WS fun _ Ak=>fy 2 [0,1] (mc 4 U (mc 2 U I)) U<|rS (CL (Lx l kA kC az cA cC bA bC x hin asm om) (bf [5,6,7,8]) U)<|AL U cZ fun By=>fO U cp U<|RK Ak<|WS fun _ Al=>rP 5 [] (mc 0 U I) ?_
  refine RK Al<|bM U (aQ fun D=>?_) (aP fun D=>?_)
  ·refine WK u<|ak<|rP 1 [] (mc 3 U I) ?_
   refine jf (vs:=(aM.cells x)) (cs':=(aM.cells x)) (C':=[_,_,_,_,_,_,_,_,_,_,_,_,_,_,_,_,(bU V 123 (aM.cells x)),_]) 16 U U U wi U U U U U U U<|aF<|aG<|KK Bs ?_
   have BC:(aM.cells x)=(aM.cells (mG r.ah (i+1))):=by rw [po hx]
   rw [BC]
   refine ak<|rP 2 [] I ?_
   refine aF ?_
   rw [show (dT l r.ah i)=(dT l r.ah (i+1)) from (xw hx D).symm]
   have BD:(vI (((i+1):Nat):Int))=(vI ((i:Int)+1)):=by exact cI om
   refine aR (T ⟨(i+1),⟨om,lI A hx (by unfold j5 lf; omega)⟩⟩ _ _ _ U os (cO 9<|bo U BD<|dw.nil _) (aI [4,5,6,7,8,9,10,11,12,13,14,15,16,17]))
  obtain ⟨mb,Z⟩:=aL (dT l r.ah i) ((x.gf).toNat) om
  obtain ⟨ga,M⟩:=aL fb ((x.gf).toNat) om
  refine Ff 17 Z M U U U ?_
  try dsimp only
  refine du cq 10 kr<|lv 1 U<|dS (SX (bI U U) U U)<|dP 4 [0,1] (mc 16 U (mc 5 U I)) ?_
  have BF:(List.map oC (ej fb l.ae.length))[(x.gf).toNat]? =some (oC (some ga)):=rJ (oW M)
  refine dS (IA ((x.gf).toNat) U (ag (n:=l.ae.length) 17 U sq) FJ dc om om) ?_
  refine dS (gp ((x.gf).toNat) 0 (Value.map (some ga)) U b_ (ag (n:=(ej fb l.ae.length).length) 17 U sm) BF U dc U)<|my 2 [] (mc 2 U I) U<|cH<|iY (kV:=iV) (x:=(i:Int)) (C':=[(hE iV ga (bG db (ew mb (i:Int) (cz l x)))),_,_,_,_,_,_,_,_,_,_,_,_,_,_,_,_,_,_]) 0 U U U U l8 (dK oz) U (gI _ _ _ _).symm U<|RK u<|ak<|rP 1 [] (mc 5 U I) ?_
  refine jf (vs:=(aM.cells x)) (cs':=(aM.cells x)) (C':=[_,_,_,_,_,_,_,_,_,_,_,_,_,_,_,_,_,_,(bU V 123 (aM.cells x))]) 18 U U U wi U U U U U U U<|aF<|aG<|KK Bs ?_
  have BA:(aM.cells x)=(aM.cells (mG r.ah (i+1))):=by rw [po hx]
  rw [BA]
  refine ak<|rP 2 [] I ?_
  refine aF ?_
  refine LY (f:=rz) (ms:=(dT l r.ah i)) (m:=(ew mb (i:Int) (cz l x))) 1 0 (by rw [jg]; omega) M U U U ?_
  rw [yF hx om D Z]
  have BB:(vI (((i+1):Nat):Int))=(vI ((i:Int)+1)):=by exact cI om
  refine aR (T ⟨(i+1),⟨om,lI A hx (by unfold j5 lf; omega)⟩⟩ _ _ _ U os (cO 9<|bo U BB<|dw.nil _) (aI [5,6,7,8,9,10,11,12,13,14,15,16,17,0]))
 refine rP 7 [0,1] (mc 2 U (mc 15 U I)) ?_
 refine RK L<|cy U (aP fun AJ=>?_) (aQ fun AJ=>?_)
 ·refine WS fun _ Ag=>rP 2 [] I ?_
  refine RK Ag<|ao<|LX hQ (false,51,0,none,0,none,0,[],[],[],none,0,[],[],none,0) [] [] I U (by rfl) U U ?_
  exact rG<|pQ (jd (me:=me) C (vZ hx (by unfold j5 lf; omega)))
 refine WK p<|ai fun _ s=>WS fun _ Ah=>fy 2 [0,1] (mc 4 U (mc 2 U I)) U<|rS (CL (Lx l kA kC az cA cC bA bC x hin asm om) (bf [5,6,7,8]) U)<|AL U cZ fun Bx=>fO U cp U<|RK Ah<|WS fun _ Aj=>rP 5 [] (mc 0 U I) ?_
 refine RK Aj<|bM U (aQ fun D=>?_) (aP fun D=>?_)
 ·refine WK s<|ak<|rP 1 [] (mc 3 U I) ?_
  refine jf (vs:=(aM.cells x)) (cs':=(aM.cells x)) (C':=[_,_,_,_,_,_,_,_,_,_,_,_,_,_,_,_,(bU V 123 (aM.cells x)),_]) 16 U U U wi U U U U U U U<|aF<|aG<|KK Bs ?_
  have A9:(aM.cells x)=(aM.cells (mG r.ah (i+1))):=by rw [po hx]
  rw [A9]
  refine ak<|rP 2 [] I ?_
  refine aF ?_
  rw [show (dT l r.ah i)=(dT l r.ah (i+1)) from (xw hx D).symm]
  have A_:(vI (((i+1):Nat):Int))=(vI ((i:Int)+1)):=by exact cI om
  refine aR (T ⟨(i+1),⟨om,lI A hx (by unfold j5 lf; omega)⟩⟩ _ _ _ U os (cO 9<|bo U A_<|dw.nil _) (aI [4,5,6,7,8,9,10,11,12,13,14,15,16,17]))
 obtain ⟨mb,Z⟩:=aL (dT l r.ah i) ((x.gf).toNat) om
 obtain ⟨ga,M⟩:=aL fb ((x.gf).toNat) om
 refine Ff 17 Z M U U U ?_
 try dsimp only
 refine du cq 10 kr<|lv 1 U<|dS (SX (bI U U) U U)<|dP 4 [0,1] (mc 16 U (mc 5 U I)) ?_
 have BE:(List.map oC (ej fb l.ae.length))[(x.gf).toNat]? =some (oC (some ga)):=rJ (oW M)
 refine dS (IA ((x.gf).toNat) U (ag (n:=l.ae.length) 17 U sq) FJ dc om om) ?_
 refine dS (gp ((x.gf).toNat) 0 (Value.map (some ga)) U b_ (ag (n:=(ej fb l.ae.length).length) 17 U sm) BE U dc U)<|my 2 [] (mc 2 U I) U<|cH<|iY (kV:=iV) (x:=(i:Int)) (C':=[(hE iV ga (bG db (ew mb (i:Int) (cz l x)))),_,_,_,_,_,_,_,_,_,_,_,_,_,_,_,_,_,_]) 0 U U U U l8 (dK oz) U (gI _ _ _ _).symm U<|RK s<|ak<|rP 1 [] (mc 5 U I) ?_
 refine jf (vs:=(aM.cells x)) (cs':=(aM.cells x)) (C':=[_,_,_,_,_,_,_,_,_,_,_,_,_,_,_,_,_,_,(bU V 123 (aM.cells x))]) 18 U U U wi U U U U U U U<|aF<|aG<|KK Bs ?_
 have A7:(aM.cells x)=(aM.cells (mG r.ah (i+1))):=by rw [po hx]
 rw [A7]
 refine ak<|rP 2 [] I ?_
 refine aF ?_
 refine LY (f:=rz) (ms:=(dT l r.ah i)) (m:=(ew mb (i:Int) (cz l x))) 1 0 (by rw [jg]; omega) M U U U ?_
 rw [yF hx om D Z]
 have A8:(vI (((i+1):Nat):Int))=(vI ((i:Int)+1)):=by exact cI om
 refine aR (T ⟨(i+1),⟨om,lI A hx (by unfold j5 lf; omega)⟩⟩ _ _ _ U os (cO 9<|bo U A8<|dw.nil _) (aI [5,6,7,8,9,10,11,12,13,14,15,16,17,0]))
end
section
open Go.RowKit
theorem Ma (l:aX) (kA:OA) (kC:Nat) (az:List RA) (cA:OA) (cC:Nat) (bA:OA) (bC:Nat) (r:cx) (sgA:OA) (sgC:Nat) (bq_:Int) (hin:eu l az) (hsl:r.ah.length≤1000000):
 dV Tryz.prog 204 [(vA (cb.cells (ly l kA kC cA cC bA bC))),(vA (eH.cells (mA r sgA sgC))),(vI bq_)] [(rd kA l.aN.length 9 (l.aN.map al.cells)),(rd cA l.aj.length 2 (List.zipWith av.cells l.aj az)),(e7 (aU av.g0 l.aj az)),(rd bA l.ae.length 4 (l.ae.map bB.cells)),(rd sgA r.ah.length 2 (r.ah.map aM.cells))] (vT [(vA (aa.cells (eZ l r bq_))),(vI (eP l r bq_))]):=by
 have A2:=hin.sM
 have Av:=hin.sO
 have Aq:=hin.oq
 have At:=hin.sN
 have A0:=hin.side
 refine bx kr Tryz.func204 U U fun w0 Q hQ hN=>?_
 try dsimp only
 refine WS fun _ AF=>fQ U fun b2=>fQ U fun b3=>uT U U fun b4=>AL U cZ fun b5=>a_ 1 U<|RK AF<|WS fun _ p=>rP 2 [0,1] (mc 3 U (mc 2 U I)) ?_
 refine rS (FU U)<|cV (xs:=[.tmp 17]) (cs:=[(Value.func (.func 206) [].toArray [(vP b2),(vP b4)].toArray)]) U OF Rl U U U U (by simp [Value.cells]) U U fun b7=>cX (ME l kA kC az cA cC bA bC r sgA sgC (Value.func (.func 206) [].toArray [(vP b2),(vP b4)].toArray) (e7 [(rd kA l.aN.length 9 (l.aN.map al.cells)),(rd cA l.aj.length 2 (List.zipWith av.cells l.aj az)),(e7 (aU av.g0 l.aj az)),(rd bA l.ae.length 4 (l.ae.map bB.cells)),(bU b2 31 (cb.cells (ly l kA kC cA cC bA bC))),(bU b4 3 [(vI bq_)])]) (ju l bq_) b7 (by exact nc (fi:=[]) (ca:=[(vP b2),(vP b4)]) (l4 (EA l kA kC az cA cC bA bC b2 bq_ b4 (by first|assumption|omega)) (bf [0,1,2,3,4,5]))) hin hsl) (lH [5,6,7,8,9]<|aq (l0 (bf [5,6,7,8,4,2]))<|fq 0 U U<|aJ) U fun y8 AW=>?_
 obtain ⟨AX,Al,E,H,AD,g,j,m,B,L,J,K,A,G,d,f⟩:=y8
 cases AX
 ·obtain ⟨AS,he⟩:=AW.2 rfl
  try dsimp only at AS he
  subst AS
  try dsimp only [cond_true,cond_false,List.cons_append,List.nil_append]
  refine a_ 5 U<|RK p<|ai fun _ Am=>WS fun _ AO=>rP 2 [] I ?_
  refine RK AO<|bM U (bj fun AN=>?_) (bk fun AN=>?_)
  ·exact absurd AN he
  refine WS fun _ AP=>rS (SX (bh (xs:=[]) (cs:=(aa.cells (aa.mk 0 0))) U U (bg gn U)) U U)<|a_ 1 U<|t_ U cp U<|rP 1 [] I ?_
  refine RK AP<|ao<|lp hQ [0] (mc 1 U I) U ?_
  (have e:=nm (b:=bq_) he; rw [e.1,e.2]<;>rfl)
 obtain ⟨he,D,C,Ab,Aa,Ae⟩:=AW.1 rfl
 try dsimp only [cond_true,cond_false,List.cons_append,List.nil_append]
 dsimp only at D C Ab Aa Ae
 obtain ⟨AZ,AJ,Ad,Ax⟩:=jH he
 obtain ⟨Af,AU⟩:=gH AZ
 have Ac:=AU.head
 unfold gl at Ac
 have Ag:=oM Af AU AJ
 have Az:=AJ.time
 have Ay:=AJ.len
 have AT:(cG l l.ae.length).length=l.ae.length:=dW
 have AV:(dT l r.ah r.ah.length).length=l.ae.length:=jg
 have Aw:B.length=l.ae.length+1:=by have:=D.len; rw [show (ck l r).n=l.ae.length from dW] at this; exact this
 have Au:A.length=l.ae.length+1:=by have:=C.len; rw [show (ck l r).n=l.ae.length from dW] at this; exact this
 obtain ⟨Ar,As⟩:=DO Ad
 obtain ⟨b,AG⟩: ∃ b:Nat,bq_=(b:Int):=⟨bq_.toNat,om⟩
 rw [AG]
 refine a_ 5 U<|RK p<|ai fun _ N=>WS fun _ O=>a_ 1 U<|rS (SX (bS (r:= .bool false) U U U j6) U U)<|RK O<|aW U<|WK N<|WS fun _ P=>rS (SX (bh (xs:=[(0,.const (vI 1))]) (cs:=(aa.cells (aa.mk 1 0))) U U (bg gn U)) U U)<|AL U cZ fun AK=>fO U cp U<|RK P<|WS fun _ R=>fy 1 [] (mc 0 U I) U<|AL U cZ fun AM=>fO U cp U<|RK R<|ai fun _ T=>WS fun _ AC=>rP 2 [] (mc 12 U I) ?_
 obtain ⟨mf,Y⟩:=aL B b om
 obtain ⟨mb,Z⟩:=aL A (b+1) om
 refine cX (LG E b) (aJ) U fun Ai An=>?_
 obtain ⟨AA,AB⟩:=Ai
 try dsimp only
 refine RK AC<|ax ?_
 refine nq (L0:=[(3,(vP b2)),(4,(vP b3)),(5,(vP b4)),(6,(vP b5)),(7,(vI 0)),(10,(vP AK)),(11,(vP AM))]) (F:=[(own H AD 3 1 ((cG l l.ae.length).map iC)),(own g j 64 1 (List.zipWith gG (dT l r.ah r.ah.length) m)),(bu (aU rz (dT l r.ah r.ah.length) m)),(own J K 278 1 (List.zipWith gG B L)),(bu (aU nM B L)),(own d f 278 1 (List.zipWith gG A G)),(bu (aU nM A G)),(bU E 274 (bY.cells (bY.mk (ly l kA kC cA cC bA bC) (mA r sgA sgC) (bp.mk H ((cG l l.ae.length).length) AD) (bp.mk g ((dT l r.ah r.ah.length).length) j) (bp.mk J B.length K) (bp.mk d A.length f)))),(bU AA 263 [(vP E)]),(bU AB 3 [(vI (b:Int))])]) (fun k (y:aa)=>(j8 k y)∧(∀ q∈k,q∈pO (ck l r) b mf mb)) (fun k y=>[(bU AM 40 (aa.cells y)),(bU AK 40 (aa.cells (aa.mk 1 0))),(bU b5 40 (aa.cells (aa.mk 0 0))),(bU b4 3 [(vI (b:Int))]),(bU b3 43 (eH.cells (mA r sgA sgC))),(bU b2 31 (cb.cells (ly l kA kC cA cC bA bC))),(rd kA l.aN.length 9 (l.aN.map al.cells)).ro,(rd cA l.aj.length 2 (List.zipWith av.cells l.aj az)).ro,(e7 (aU av.g0 l.aj az)).ro,(rd bA l.ae.length 4 (l.ae.map bB.cells)).ro,(rd sgA r.ah.length 2 (r.ah.map aM.cells)).ro]) (fun _ (_:Unit)=>False) (fun _ _=>[]) [2,3,13,14,15,16,17,18,19,20,21] [5,6,7,8,9,10,11,4,0,1] l6 rfl rfl (HR (ly l kA kC cA cC bA bC) (mA r sgA sgC) (cG l l.ae.length) (dT l r.ah r.ah.length) H AD m g j B A L J K G d f E b AA AB mf mb (by rw [AT]; omega) (by exact Ag) (by rw [AV]; omega) (by exact D) om (by exact C) om (by show r.ah.length≤1000; omega) (by exact Y) (by exact Z)) rfl rfl rfl (by exact ⟨CJ,fun q hq=>by cases hq⟩) (by simp only [List.forall_mem_cons,List.not_mem_nil,false_imp_iff,implies_true,and_true]; exact ⟨⟨_,aT (i:=0) rfl,(j0 sm)⟩,⟨_,aT (i:=1) rfl,(j0 (by rw [List.length_zipWith]; omega))⟩,⟨_,aT (i:=2) rfl,sX⟩,⟨_,aT (i:=3) rfl,(j0 (by rw [List.length_zipWith]; omega))⟩,⟨_,aT (i:=4) rfl,sX⟩,⟨_,aT (i:=5) rfl,(j0 (by rw [List.length_zipWith]; omega))⟩,⟨_,aT (i:=6) rfl,sX⟩,⟨_,aT (i:=7) rfl,(bP _)⟩,⟨_,aT (i:=8) rfl,(bP _)⟩,⟨_,aT (i:=9) rfl,(bP _)⟩⟩) (by rintro k x k2 ⟨o,_,rfl,_⟩; rfl) rfl (aS rfl) ?_ ?_ (fun _ _ _ h=>h.elim) (fun _ _ h=>h.elim)
 ·rintro k x k2 h lr ra rb S w1 K41 Qr42 A1 hx AH AQ X Ah Aj
  obtain ⟨q,hq,rfl,rfl⟩:=hx
  obtain ⟨a,c⟩:=AH
  try dsimp only
  refine ak<|AL U cZ fun Ao=>fO U cp U<|aF<|jB (fun _ _ h=>h) (aI [1,0,2,3,4,5,6,7,8,9,10,11,12])<|aR (AQ _ _ ?_)
  refine ax<|ai fun _ s=>WS fun _ AR=>rP 2 [0,1] (mc 2 U (mc 3 U I)) ?_
  refine rS (BI U (S7 _ _ h (aa.mk 1 0)))<|RK AR<|bM U (bj fun M=>?_) (bk fun M=>?_)
  ·refine WK s<|ak<|rP 1 [] (mc 1 U I) ?_
   refine HO U cp U<|aF<|aG ?_
   exact X q.2 _ _ (by refine ⟨zf a (mK hq) ?_,fun z hz=>?_⟩; (first|exact if_neg M|exact if_pos M); (rcases List.mem_append.1 hz with hz|hz; exact c z hz; (rw [List.mem_singleton.1 hz]; exact hq))) (aI [0,2,3,4,5,6,7,8,9,10,11,12])
  refine ak<|fy 4 [0,1] (mc 1 U (mc 2 U I)) U<|rS (MN U)<|fy 4 [0,1] (mc 1 U (mc 2 U I)) U<|rS (MX U)<|rS (SX (bh (xs:=[(0,.tmp 40),(1,.tmp 45)]) (cs:=(aa.cells (aa.mk (min q.2.Lo h.Lo) (max q.2.Hi h.Hi)))) U U (bg gn U)) U U)<|t_ U cp U<|RK s<|ak<|rP 1 [] (mc 1 U I) ?_
  refine HO U cp U<|aF<|aG ?_
  exact X (aa.mk (min q.2.Lo h.Lo) (max q.2.Hi h.Hi)) _ _ (by refine ⟨zf a (mK hq) ?_,fun z hz=>?_⟩; (first|exact if_neg M|exact if_pos M); (rcases List.mem_append.1 hz with hz|hz; exact c z hz; (rw [List.mem_singleton.1 hz]; exact hq))) (aI [0,2,3,4,5,6,7,8,9,10,11,12])
 rintro A4 k h v AI
 obtain ⟨a,c⟩:=AI
 try dsimp only
 refine aG<|KK T<|ai fun _ V=>WS fun _ W=>rP 2 [0,1] (mc 11 U (mc 12 U I)) ?_
 refine rS (BI U (tU _ _ h (aa.mk 1 0)))<|RK W<|bM U (aQ fun AE=>?_) (aP fun AE=>?_)
 ·refine WK V<|WS fun _ u=>fy 1 [] (mc 11 U I) U<|jf (vs:=(aa.cells h)) (cs':=(aa.cells h)) (C':=[_,_,_,_,_,_,_,_,_,_,_,_,_,(bU b5 40 (aa.cells h)),_,_,_,_,_,_,_,_]) 13 U U U cp U U U U U U U<|rP 1 [] I ?_
  refine RK u<|ao<|hQ _ _ _ (ox 0 U U<|gX (vs:=[(vA (aa.cells h)),(vI 0)]) ⟨⟨_,U,.inl ⟨_,_,b_,ph (vs:=(aa.cells h)) 13 U U,U,U⟩⟩,U,trivial⟩ fun w hs=>EG ?_ hs)
  show (vT [(vA (aa.cells h)),(vI 0)])=(vT [(vA (aa.cells (eZ l r bq_))),(vI (eP l r bq_))])
  clear hs w hQ hN u W V AC T R P O N p AF
  (rw [AG] at he ⊢; have hh:h=mm l r b:=zz (D.min _ _ Y) (C.max _ _ Z) (D.keys _ _ Y) (C.keys _ _ Z) c v a; (have e:=nT he (fun q=>AE (hh.trans q)); rw [e.1,e.2,hh]<;>rfl))
 refine WS fun _ t=>rS (SX (bh (xs:=[]) (cs:=(aa.cells (aa.mk 0 0))) U U (bg gn U)) U U)<|jf (vs:=(aa.cells (aa.mk 0 0))) (cs':=(aa.cells (aa.mk 0 0))) (C':=[_,_,_,_,_,_,_,_,_,_,_,_,_,(bU b5 40 (aa.cells (aa.mk 0 0))),_,_,_,_,_,_,_,_]) 13 U U U cp U U U U U U U<|rP 1 [] I ?_
 refine RK t<|ao<|hQ _ _ _ (ox 0 U U<|gX (vs:=[(vA (aa.cells (aa.mk 0 0))),(vI 6)]) ⟨⟨_,U,.inl ⟨_,_,b_,ph (vs:=(aa.cells (aa.mk 0 0))) 13 U U,U,U⟩⟩,U,trivial⟩ fun w hs=>EG ?_ hs)
 show (vT [(vA (aa.cells (aa.mk 0 0))),(vI 6)])=(vT [(vA (aa.cells (eZ l r bq_))),(vI (eP l r bq_))])
 clear hs w hQ hN t W V AC T R P O N p AF
 (rw [AG] at he ⊢; have hh:h=mm l r b:=zz (D.min _ _ Y) (C.max _ _ Z) (D.keys _ _ Y) (C.keys _ _ Z) c v a; (have e:=qt he (hh.symm.trans AE); rw [e.1,e.2]<;>rfl))
theorem Rc (l:aX) (kA:OA) (kC:Nat) (az:List RA) (cA:OA) (cC:Nat) (bA:OA) (bC:Nat) (r:cx) (sgA:OA) (sgC:Nat) (hin:eu l az) (hsl:r.ah.length≤1000000):
 dV Tryz.prog 203 [(vA (cb.cells (ly l kA kC cA cC bA bC))),(vA (eH.cells (mA r sgA sgC)))] [(rd kA l.aN.length 9 (l.aN.map al.cells)),(rd cA l.aj.length 2 (List.zipWith av.cells l.aj az)),(e7 (aU av.g0 l.aj az)),(rd bA l.ae.length 4 (l.ae.map bB.cells)),(rd sgA r.ah.length 2 (r.ah.map aM.cells))] (vT [(vA (aa.cells (zP l r))),(vI (eP l r l.cu))]):=by
 have N:=hin.sM
 have J:=hin.sO
 have H:=hin.oq
 have AA:=hin.sN
 have M:=hin.side
 refine bx kr Tryz.func203 U U fun T Q hQ hN=>?_
 try dsimp only
 refine WS fun _ C=>fQ U fun O=>fQ U fun P=>AL U cZ fun R=>a_ 1 U<|RK C<|WS fun _ D=>fy 4 [0,1] (mc 2 U (mc 1 U I)) U<|rS (CL (Ma l kA kC az cA cC bA bC r sgA sgC l.cu hin hsl) (bf [3,4,5,6,7]) U)<|a_ 3 U<|AL U cZ fun S=>fO U cp U<|a_ 1 U<|RK D<|ai fun _ E=>WS fun _ F=>rP 2 [] I ?_
 refine RK F<|cy U (bk fun A=>?_) (bj fun A=>?_)
 ·refine WS fun _ G=>rS (SX (bh (xs:=[]) (cs:=(aa.cells (aa.mk 0 0))) U U (bg gn U)) U U)<|a_ 1 U<|t_ U cp U<|rP 1 [] I ?_
  refine RK G<|ao<|lp hQ [0] (mc 1 U I) U ?_
  (rw [Es A]<;>rfl)
 refine WK E<|WS fun _ B=>rP 4 [0,1] (mc 0 U (mc 2 U I)) ?_
 have K:=wj A
 have L:=(u6 A).time
 refine fy 6 [0,1] (mc 0 U (mc 2 U I)) U<|rS (SX (bh (xs:=[(0,.tmp 24),(1,.tmp 29)]) (cs:=(aa.cells (aa.mk (((eZ l r l.cu).Lo)-r.Start) (((eZ l r l.cu).Hi)-r.Start)))) U U (bg gn U)) U U)<|t_ U cp U<|rP 1 [] I ?_
 refine RK B<|ao<|lp hQ [0] (mc 1 U I) U ?_
 (rw [Ad A,A]<;>rfl)
end
section
open Go.RowKit
theorem My (l:aX) (kA:OA) (kC:Nat) (az:List RA) (cA:OA) (cC:Nat) (bA:OA) (bC:Nat) (d:aw) (sgA:OA) (sgC:Nat) (hin:eu l az):
 dV Tryz.prog 197 [(vA (cb.cells (ly l kA kC cA cC bA bC))),(vA (bq.cells (bq.mk d.Out d.eK d.Time (mA d.ct sgA sgC))))] [(rd kA l.aN.length 9 (l.aN.map al.cells)),(rd cA l.aj.length 2 (List.zipWith av.cells l.aj az)),(e7 (aU av.g0 l.aj az)),(rd bA l.ae.length 4 (l.ae.map bB.cells)),(rd sgA d.ct.ah.length 2 (d.ct.ah.map aM.cells))] (vT [(vA (aa.cells d.Time)),(vB (decide (d.eK=false∧d.Time=dv∧mj d.ct)))]):=by
 refine bx kr Tryz.func197 U U fun K Q hQ hN=>?_
 try dsimp only
 refine WS fun _ B=>fQ U fun H=>fQ U fun AA=>AL U cZ fun J=>rP 1 [] I ?_
 refine RK B<|ai fun _ A=>dD cq [15] [] [] [1,2,3,4,5,6,7] [] U U U U U<|eS U (FA 2 U fx U)<|eS U (LP (aa.cells d.Time) 0 U b_ U U U)<|eS U (FA 1 U fx U)<|eS U (L1 (vB d.eK) 0 U b_ U U)<|eS U (NT U)<|eS U (MV U)<|rj (t:=11) U (fun G=>?_) (fun G=>?_)
 rotate_left 1
 ·rw [Bool.not_eq_false'] at G
  refine eS U (OX U)<|eS U (OX U)<|eS U (OX U)<|eS U (OX U)<|eS U (PK U)<|eS U (MV U)<|eS U (OX U)<|eS U (OX U)<|eS U (PK U)<|eS U (AG U)<|eX U<|bX U fun T10 C=>fO U cp U<|aF (C _ _ (aI [1,2,3,4,5,6,7]) ?_)
  refine fF U<|KK A<|ao<|lp hQ [0] (mc 0 U I) U ?_
  clear hQ hN C T10 A B
  refine congrArg (fun z=>Value.tuple #[_,vB z]) ?_
  first|rfl|(simp_all [dv]; done)
 rw [Bool.not_eq_true'] at G
 refine eS U (FA 2 U fx U)<|eS U (LP (aa.cells d.Time) 0 U b_ U U U)<|eS U (SX (bh (xs:=[]) (cs:=(aa.cells (aa.mk 0 0))) U U (bg gn U)) U U)<|eS U (BI U (tU _ _ d.Time (aa.mk 0 0)))<|eS U (PK U)<|eS U (MV U)<|rj (t:=17) U (fun D=>?_) (fun D=>?_)
 rotate_left 1
 ·replace D:=DF D
  refine eS U (OX U)<|eS U (OX U)<|eS U (PK U)<|eS U (AG U)<|eX U<|bX U fun T9 F=>fO U cp U<|aF (F _ _ (aI [1,2,3,4,5,6,7]) ?_)
  refine fF U<|KK A<|ao<|lp hQ [0] (mc 0 U I) U ?_
  clear hQ hN F T9 A B
  refine congrArg (fun z=>Value.tuple #[_,vB z]) ?_
  first|rfl|(simp_all [dv]; done)
 replace D:=DT D
 refine eS U (LW 0 U b_ U U)<|eS U (CL (IJ d sgA sgC) (bf [6]) U)<|eS U (PK U)<|eS U (AG U)<|eX U<|bX U fun T8 E=>fO U cp U<|aF (E _ _ (aI [1,2,3,4,5,6,7]) ?_)
 refine fF U<|KK A<|ao<|lp hQ [0] (mc 0 U I) U ?_
 clear hQ hN E T8 A B
 refine congrArg (fun z=>Value.tuple #[_,vB z]) ?_
 first|rfl|(simp_all [dv]; done)
theorem MS (l:aX) (kA:OA) (kC:Nat) (az:List RA) (cA:OA) (cC:Nat) (bA:OA) (bC:Nat) (d:aw) (sgA:OA) (sgC:Nat) (hin:eu l az):
 dV Tryz.prog 200 [(vA (cb.cells (ly l kA kC cA cC bA bC))),(vA (bq.cells (bq.mk d.Out d.eK d.Time (mA d.ct sgA sgC))))] [(rd kA l.aN.length 9 (l.aN.map al.cells)),(rd cA l.aj.length 2 (List.zipWith av.cells l.aj az)),(e7 (aU av.g0 l.aj az)),(rd bA l.ae.length 4 (l.ae.map bB.cells)),(rd sgA d.ct.ah.length 2 (d.ct.ah.map aM.cells))] (vT [(vA (aa.cells d.Time)),(vB (decide (iv d.Time∧mj d.ct)))]):=by
 refine bx kr Tryz.func200 U U fun AA Q hQ hN=>?_
 try dsimp only
 refine WS fun _ B=>fQ U fun F=>fQ U fun G=>AL U cZ fun H=>rP 1 [] I ?_
 refine RK B<|ai fun _ A=>dD cq [9] [] [] [1,2,3,4,5,6,7] [] U U U U U<|eS U (FA 2 U fx U)<|eS U (LP (aa.cells d.Time) 0 U b_ U U U)<|eS U (FA 2 U fx U)<|eS U (LP (aa.cells d.Time) 0 U b_ U U U)<|eS U (CL (F6 d.Time) (aJ) U)<|eS U (MV U)<|rj (t:=11) U (fun C=>?_) (fun C=>?_)
 rotate_left 1
 ·replace C:=DF C
  refine eS U (OX U)<|eS U (OX U)<|eS U (PK U)<|eS U (AG U)<|eX U<|bX U fun T8 E=>fO U cp U<|aF (E _ _ (aI [1,2,3,4,5,6,7]) ?_)
  refine fF U<|KK A<|ao<|lp hQ [0] (mc 0 U I) U ?_
  clear hQ hN E T8 A B
  refine congrArg (fun z=>Value.tuple #[_,vB z]) ?_
  first|rfl|(simp_all; done)
 replace C:=DT C
 refine eS U (LW 0 U b_ U U)<|eS U (CL (IJ d sgA sgC) (bf [6]) U)<|eS U (PK U)<|eS U (AG U)<|eX U<|bX U fun T7 D=>fO U cp U<|aF (D _ _ (aI [1,2,3,4,5,6,7]) ?_)
 refine fF U<|KK A<|ao<|lp hQ [0] (mc 0 U I) U ?_
 clear hQ hN D T7 A B
 refine congrArg (fun z=>Value.tuple #[_,vB z]) ?_
 first|rfl|(simp_all; done)
theorem NA (l:aX) (kA:OA) (kC:Nat) (az:List RA) (cA:OA) (cC:Nat) (bA:OA) (bC:Nat) (d:aw) (sgA:OA) (sgC:Nat) (hin:eu l az) (hsl:d.ct.ah.length≤1000000):
 dV Tryz.prog 202 [(vA (cb.cells (ly l kA kC cA cC bA bC))),(vA (bq.cells (bq.mk d.Out d.eK d.Time (mA d.ct sgA sgC))))] [(rd kA l.aN.length 9 (l.aN.map al.cells)),(rd cA l.aj.length 2 (List.zipWith av.cells l.aj az)),(e7 (aU av.g0 l.aj az)),(rd bA l.ae.length 4 (l.ae.map bB.cells)),(rd sgA d.ct.ah.length 2 (d.ct.ah.map aM.cells))] (vT [(vA (aa.cells (zP l d.ct))),(vB (decide (eP l d.ct l.cu=0∧d.Time=dv)))]):=by
 have K:=hin.sM
 have AA:=hin.sO
 have G:=hin.oq
 have H:=hin.sN
 have J:=hin.side
 refine bx kr Tryz.func202 U U fun P Q hQ hN=>?_
 try dsimp only
 refine WS fun _ C=>fQ U fun L=>fQ U fun M=>AL U cZ fun N=>a_ 1 U<|RK C<|WS fun _ D=>fy 2 [] (mc 2 U I) U<|rS (LP (eH.cells (mA d.ct sgA sgC)) 1 U b_ U U U)<|rS (CL (Rc l kA kC az cA cC bA bC d.ct sgA sgC hin hsl) (bf [3,4,5,6,7]) U)<|a_ 3 U<|AL U cZ fun O=>fO U cp U<|rP 1 [] I ?_
 refine RK D<|ai fun _ A=>dD cq [9] [] [] [0,2,3,4,5,6,7,8] [] U U U U U<|eS U (LW 0 U b_ U U)<|eS U (MV U)<|eS U (BI U mq)<|eS U (MV U)<|rj (t:=18) U (fun E=>?_) (fun E=>?_)
 rotate_left 1
 ·replace E:=DF E
  refine eS U (OX U)<|eS U (OX U)<|eS U (OX U)<|eS U (OX U)<|eS U (PK U)<|eS U (AG U)<|eX U<|bX U fun T10 B=>t_ U cp U<|aF (B _ _ (aI [0,2,3,4,5,6,7,8]) ?_)
  refine fF U<|KK A<|ao<|lp hQ [0] (mc 1 U I) U ?_
  clear hQ hN B T10 A D C
  refine congrArg (fun z=>Value.tuple #[_,vB z]) ?_
  first|rfl|(simp_all [dv]; done)
 replace E:=DT E
 refine eS U (FA 2 U fx U)<|eS U (LP (aa.cells d.Time) 1 U b_ U U U)<|eS U (SX (bh (xs:=[]) (cs:=(aa.cells (aa.mk 0 0))) U U (bg gn U)) U U)<|eS U (BI U (tU _ _ d.Time (aa.mk 0 0)))<|eS U (PK U)<|eS U (AG U)<|eX U<|bX U fun T9 F=>t_ U cp U<|aF (F _ _ (aI [0,2,3,4,5,6,7,8]) ?_)
 refine fF U<|KK A<|ao<|lp hQ [0] (mc 1 U I) U ?_
 clear hQ hN F T9 A D C
 refine congrArg (fun z=>Value.tuple #[_,vB z]) ?_
 first|rfl|(simp_all [dv]; done)
theorem G2 (d:aw) (sgA:OA) (sgC g1:Nat):
 dV Tryz.prog 85 [(vA (mH.cells (mH.mk (Value.func (.func 196) [].toArray [].toArray) (Value.func (.func 197) [].toArray [].toArray)))),(vP g1)] [(rd sgA d.ct.ah.length 2 (d.ct.ah.map aM.cells)),(bU g1 45 (bq.cells (bq.mk d.Out d.eK d.Time (mA d.ct sgA sgC))))] (vB d.Out):=by
 refine bx kr Tryz.func85 U U fun D Q hQ hN=>?_
 try dsimp only
 refine WS fun _ A=>fQ U fun C=>a_ 1 U<|RK A<|WS fun _ B=>fy 3 [0,1] (mc 0 U (mr 2 U I)) U<|rS (CL (RB d sgA sgC) (bf [1]) U)<|rP 1 [] I ?_
 refine RK B<|ao<|Q1 hQ U U U ?_
 rfl
theorem GK (d:aw) (sgA:OA) (sgC g1:Nat):
 dV Tryz.prog 85 [(vA (mH.cells (mH.mk (Value.func (.func 199) [].toArray [].toArray) (Value.func (.func 200) [].toArray [].toArray)))),(vP g1)] [(rd sgA d.ct.ah.length 2 (d.ct.ah.map aM.cells)),(bU g1 45 (bq.cells (bq.mk d.Out d.eK d.Time (mA d.ct sgA sgC))))] (vB d.eK):=by
 refine bx kr Tryz.func85 U U fun D Q hQ hN=>?_
 try dsimp only
 refine WS fun _ A=>fQ U fun C=>a_ 1 U<|RK A<|WS fun _ B=>fy 3 [0,1] (mc 0 U (mr 2 U I)) U<|rS (CL (SR d sgA sgC) (bf [1]) U)<|rP 1 [] I ?_
 refine RK B<|ao<|Q1 hQ U U U ?_
 rfl
theorem HC (d:aw) (sgA:OA) (sgC g1:Nat):
 dV Tryz.prog 85 [(vA (mH.cells (mH.mk (Value.func (.func 201) [].toArray [].toArray) (Value.func (.func 202) [].toArray [].toArray)))),(vP g1)] [(rd sgA d.ct.ah.length 2 (d.ct.ah.map aM.cells)),(bU g1 45 (bq.cells (bq.mk d.Out d.eK d.Time (mA d.ct sgA sgC))))] (vB true):=by
 refine bx kr Tryz.func85 U U fun D Q hQ hN=>?_
 try dsimp only
 refine WS fun _ A=>fQ U fun C=>a_ 1 U<|RK A<|WS fun _ B=>fy 3 [0,1] (mc 0 U (mr 2 U I)) U<|rS (CL (Su d sgA sgC) (bf [1]) U)<|rP 1 [] I ?_
 refine RK B<|ao<|Q1 hQ U U U ?_
 rfl
end
section
open Go.RowKit
theorem wk (d:aw) (sgA:OA) (sgC g1:Nat):
 dV Tryz.prog 84 [(vS eJ 3 3),(Value.func (.func 85) [].toArray [(vP g1)].toArray)] [(rd eJ 3 2 dJ),(rd sgA d.ct.ah.length 2 (d.ct.ah.map aM.cells)),(bU g1 45 (bq.cells (bq.mk d.Out d.eK d.Time (mA d.ct sgA sgC))))] (vI (oB d)):=by
 refine bx kr Tryz.func84 U U fun b Q hQ hN=>?_
 try dsimp only
 refine WS fun _ F=>a_ 1 U<|RK F<|ai fun _ AA=>WS fun _ G=>a_ 3 U<|RK G<|ax<|jE 4<|eg fun R4 Z=>WS fun _ H=>rS (SX (bS (r:= .bool true) U U U gQ) U U)<|RK H<|ai fun _ AB=>aO U<|WK AB<|ai fun _ J=>ax<|WS fun _ K=>a_ 2 U<|RK K<|WS fun _ L=>rP 3 [] I ?_
 refine rS (IA 0 U (aD 0 U) Ky dc U om)<|rS (oE 0 0 (mH.cells (mH.mk (Value.func (.func 196) [].toArray [].toArray) (Value.func (.func 197) [].toArray [].toArray))) U b_ (aD 0 U) (show dJ[0]? =some [(Value.func (.func 196) [].toArray [].toArray),(Value.func (.func 197) [].toArray [].toArray)] from U) U dc U U)<|rS (CL (G2 d sgA sgC g1) (bf [1,2]) U)<|RK L<|cy U (fun X=>?_) (fun X=>?_)
 ·refine WS fun _ M=>rP 2 [] I ?_
  refine RK M<|ao<|Q1 hQ U U U ?_
  clear hQ hN M L K J AB H G AA F
  refine cI ?_
  simp [oB, *]
 refine bV<|aG<|KK J<|ak<|rS (SX (bS (r:= .int .i64 1) U U U (gY ⟨dc,dc⟩)) U U)<|a_ 1 U<|RK Z<|eg fun R12 W=>WS fun _ A=>rS (SX (bS (r:= .bool true) U U U gQ) U U)<|RK A<|ai fun _ B=>aO U<|WK B<|ai fun _ C=>ax<|WS fun _ D=>a_ 2 U<|RK D<|WS fun _ E=>rP 3 [] I ?_
 refine rS (IA 1 U (aD 0 U) Ky dc U om)<|rS (oE 1 0 (mH.cells (mH.mk (Value.func (.func 199) [].toArray [].toArray) (Value.func (.func 200) [].toArray [].toArray))) U b_ (aD 0 U) (show dJ[1]? =some [(Value.func (.func 199) [].toArray [].toArray),(Value.func (.func 200) [].toArray [].toArray)] from U) U dc U U)<|rS (CL (GK d sgA sgC g1) (bf [1,2]) U)<|RK E<|cy U (fun Y=>?_) (fun Y=>?_)
 ·refine WS fun _ N=>rP 2 [] I ?_
  refine RK N<|ao<|Q1 hQ U U U ?_
  clear hQ hN N E D C B A L K J AB H G AA F
  refine cI ?_
  simp [oB, *]
 refine bV<|aG<|KK C<|ak<|rS (SX (bS (r:= .int .i64 2) U U U (gY ⟨dc,dc⟩)) U U)<|a_ 1 U<|RK W<|eg fun R20 a=>WS fun _ O=>rS (SX (bS (r:= .bool true) U U U gQ) U U)<|RK O<|ai fun _ P=>aO U<|WK P<|ai fun _ V=>ax<|WS fun _ R=>a_ 2 U<|RK R<|WS fun _ S=>a_ 3 U<|rS (IA 2 U (aD 0 U) Ky dc U om)<|rS (oE 2 0 (mH.cells (mH.mk (Value.func (.func 201) [].toArray [].toArray) (Value.func (.func 202) [].toArray [].toArray))) U b_ (aD 0 U) (show dJ[2]? =some [(Value.func (.func 201) [].toArray [].toArray),(Value.func (.func 202) [].toArray [].toArray)] from U) U dc U U)<|rS (CL (HC d sgA sgC g1) (bf [1,2]) U)<|RK S<|aO U<|WS fun _ T=>rP 2 [] I ?_
 refine RK T<|ao<|Q1 hQ U U U ?_
 clear hQ hN T S R V P O E D C B A L K J AB H G AA F
 refine cI ?_
 simp [oB, *]
end
section
open Go.RowKit
theorem TD (d:aw) (sgA:OA) (sgC g1:Nat) (hk:d.Out=true):
 dV Tryz.prog 84 [(vS eJ 3 3),(Value.func (.func 85) [].toArray [(vP g1)].toArray)] [(rd eJ 3 2 dJ),(rd sgA d.ct.ah.length 2 (d.ct.ah.map aM.cells)),(bU g1 45 (bq.cells (bq.mk d.Out d.eK d.Time (mA d.ct sgA sgC))))] (vI 0):=by
 have h:=wk d sgA sgC g1
 have e:oB d=0:=by simp [oB,hk]
 rw [e] at h
 exact h
theorem Th (d:aw) (sgA:OA) (sgC g1:Nat) (hk:d.Out=false∧d.eK=true):
 dV Tryz.prog 84 [(vS eJ 3 3),(Value.func (.func 85) [].toArray [(vP g1)].toArray)] [(rd eJ 3 2 dJ),(rd sgA d.ct.ah.length 2 (d.ct.ah.map aM.cells)),(bU g1 45 (bq.cells (bq.mk d.Out d.eK d.Time (mA d.ct sgA sgC))))] (vI 1):=by
 have h:=wk d sgA sgC g1
 have e:oB d=1:=by simp [oB,hk]
 rw [e] at h
 exact h
theorem SJ (d:aw) (sgA:OA) (sgC g1:Nat) (hk:d.Out=false∧d.eK=false):
 dV Tryz.prog 84 [(vS eJ 3 3),(Value.func (.func 85) [].toArray [(vP g1)].toArray)] [(rd eJ 3 2 dJ),(rd sgA d.ct.ah.length 2 (d.ct.ah.map aM.cells)),(bU g1 45 (bq.cells (bq.mk d.Out d.eK d.Time (mA d.ct sgA sgC))))] (vI 2):=by
 have h:=wk d sgA sgC g1
 have e:oB d=2:=by simp [oB,hk]
 rw [e] at h
 exact h
theorem CW (l:aX) (kA:OA) (kC:Nat) (az:List RA) (cA:OA) (cC:Nat) (bA:OA) (bC:Nat) (d:aw) (sgA:OA) (sgC:Nat) (hin:eu l az) (hsl:d.ct.ah.length≤1000000) (hk:d.Out=true):
 dV Tryz.prog 62 [(vA (cb.cells (ly l kA kC cA cC bA bC))),(vA (bq.cells (bq.mk d.Out d.eK d.Time (mA d.ct sgA sgC))))] [(rd eJ 3 2 dJ),(rd kA l.aN.length 9 (l.aN.map al.cells)),(rd cA l.aj.length 2 (List.zipWith av.cells l.aj az)),(e7 (aU av.g0 l.aj az)),(rd bA l.ae.length 4 (l.ae.map bB.cells)),(rd sgA d.ct.ah.length 2 (d.ct.ah.map aM.cells))] (vT [(vA (aa.cells (df l d))),(vB (decide (g7 l d)))]):=by
 refine bx kr Tryz.func62 U U fun AA Q hQ hN=>?_
 try dsimp only
 refine WS fun _ A=>fQ U fun G=>fQ U fun D=>AL U cZ fun H=>a_ 1 U<|RK A<|WS fun _ B=>rS (SX (EY U U zt) U U)<|rS (FU U)<|rS (CL (TD d sgA sgC D hk) (M8 3 8 1 U U U U U U) U)<|a_ 1 U<|RK B<|ai fun _ C=>du cq 9 kr<|lv 1 U<|dS (SX (Em (k:=0) U U U zt U om) U U)<|dS (nN ((0*2)+1) U (aD 3 U) (Nat.mul_pos om dc) fx U)<|dS (gp 0 1 (Value.func (.func 197) [].toArray [].toArray) U b_ (aD 3 U) (show dJ[0]? =some [(Value.func (.func 196) [].toArray [].toArray),(Value.func (.func 197) [].toArray [].toArray)] from U) U dc U)<|my 2 [0,1] (mc 2 U (mc 1 U I)) U<|dS (CL (My l kA kC az cA cC bA bC d sgA sgC hin) (bf [4,5,6,7,8]) U)<|lv 2 U<|cH<|fO U cp U<|rP 1 [] I ?_
 refine RK C<|ao<|lp hQ [0] (mc 0 U I) U ?_
 have E:=FI (l:=l) hk
 have F:=qh (l:=l) hk
 simp only [E,F]
theorem Bw (l:aX) (kA:OA) (kC:Nat) (az:List RA) (cA:OA) (cC:Nat) (bA:OA) (bC:Nat) (d:aw) (sgA:OA) (sgC:Nat) (hin:eu l az) (hsl:d.ct.ah.length≤1000000) (hk:d.Out=false∧d.eK=true):
 dV Tryz.prog 62 [(vA (cb.cells (ly l kA kC cA cC bA bC))),(vA (bq.cells (bq.mk d.Out d.eK d.Time (mA d.ct sgA sgC))))] [(rd eJ 3 2 dJ),(rd kA l.aN.length 9 (l.aN.map al.cells)),(rd cA l.aj.length 2 (List.zipWith av.cells l.aj az)),(e7 (aU av.g0 l.aj az)),(rd bA l.ae.length 4 (l.ae.map bB.cells)),(rd sgA d.ct.ah.length 2 (d.ct.ah.map aM.cells))] (vT [(vA (aa.cells (df l d))),(vB (decide (g7 l d)))]):=by
 refine bx kr Tryz.func62 U U fun AA Q hQ hN=>?_
 try dsimp only
 refine WS fun _ A=>fQ U fun G=>fQ U fun D=>AL U cZ fun H=>a_ 1 U<|RK A<|WS fun _ B=>rS (SX (EY U U zt) U U)<|rS (FU U)<|rS (CL (Th d sgA sgC D hk) (M8 3 8 1 U U U U U U) U)<|a_ 1 U<|RK B<|ai fun _ C=>du cq 9 kr<|lv 1 U<|dS (SX (Em (k:=1) U U U zt U om) U U)<|dS (nN ((1*2)+1) U (aD 3 U) (Nat.mul_pos om dc) fx U)<|dS (gp 1 1 (Value.func (.func 200) [].toArray [].toArray) U b_ (aD 3 U) (show dJ[1]? =some [(Value.func (.func 199) [].toArray [].toArray),(Value.func (.func 200) [].toArray [].toArray)] from U) U dc U)<|my 2 [0,1] (mc 2 U (mc 1 U I)) U<|dS (CL (MS l kA kC az cA cC bA bC d sgA sgC hin) (bf [4,5,6,7,8]) U)<|lv 2 U<|cH<|fO U cp U<|rP 1 [] I ?_
 refine RK C<|ao<|lp hQ [0] (mc 0 U I) U ?_
 have E:=vX (l:=l) hk
 have F:=tW (l:=l) hk
 simp only [E,F]
theorem BF (l:aX) (kA:OA) (kC:Nat) (az:List RA) (cA:OA) (cC:Nat) (bA:OA) (bC:Nat) (d:aw) (sgA:OA) (sgC:Nat) (hin:eu l az) (hsl:d.ct.ah.length≤1000000) (hk:d.Out=false∧d.eK=false):
 dV Tryz.prog 62 [(vA (cb.cells (ly l kA kC cA cC bA bC))),(vA (bq.cells (bq.mk d.Out d.eK d.Time (mA d.ct sgA sgC))))] [(rd eJ 3 2 dJ),(rd kA l.aN.length 9 (l.aN.map al.cells)),(rd cA l.aj.length 2 (List.zipWith av.cells l.aj az)),(e7 (aU av.g0 l.aj az)),(rd bA l.ae.length 4 (l.ae.map bB.cells)),(rd sgA d.ct.ah.length 2 (d.ct.ah.map aM.cells))] (vT [(vA (aa.cells (df l d))),(vB (decide (g7 l d)))]):=by
 refine bx kr Tryz.func62 U U fun AA Q hQ hN=>?_
 try dsimp only
 refine WS fun _ A=>fQ U fun G=>fQ U fun D=>AL U cZ fun H=>a_ 1 U<|RK A<|WS fun _ B=>rS (SX (EY U U zt) U U)<|rS (FU U)<|rS (CL (SJ d sgA sgC D hk) (M8 3 8 1 U U U U U U) U)<|a_ 1 U<|RK B<|ai fun _ C=>du cq 9 kr<|lv 1 U<|dS (SX (Em (k:=2) U U U zt U om) U U)<|dS (nN ((2*2)+1) U (aD 3 U) (Nat.mul_pos om dc) fx U)<|dS (gp 2 1 (Value.func (.func 202) [].toArray [].toArray) U b_ (aD 3 U) (show dJ[2]? =some [(Value.func (.func 201) [].toArray [].toArray),(Value.func (.func 202) [].toArray [].toArray)] from U) U dc U)<|my 2 [0,1] (mc 2 U (mc 1 U I)) U<|dS (CL (NA l kA kC az cA cC bA bC d sgA sgC hin hsl) (bf [4,5,6,7,8]) U)<|lv 2 U<|cH<|fO U cp U<|rP 1 [] I ?_
 refine RK C<|ao<|lp hQ [0] (mc 0 U I) U ?_
 have E:=v7 (l:=l) hk
 have F:=tF (l:=l) hk
 simp only [E,F]
theorem E4 (l:aX) (kA:OA) (kC:Nat) (az:List RA) (cA:OA) (cC:Nat) (bA:OA) (bC:Nat) (d:aw) (sgA:OA) (sgC:Nat) (hin:eu l az) (hsl:d.ct.ah.length≤1000000):
 dV Tryz.prog 62 [(vA (cb.cells (ly l kA kC cA cC bA bC))),(vA (bq.cells (bq.mk d.Out d.eK d.Time (mA d.ct sgA sgC))))] [(rd eJ 3 2 dJ),(rd kA l.aN.length 9 (l.aN.map al.cells)),(rd cA l.aj.length 2 (List.zipWith av.cells l.aj az)),(e7 (aU av.g0 l.aj az)),(rd bA l.ae.length 4 (l.ae.map bB.cells)),(rd sgA d.ct.ah.length 2 (d.ct.ah.map aM.cells))] (vT [(vA (aa.cells (df l d))),(vB (decide (g7 l d)))]):=by
 by_cases ho:d.Out=true
 ·exact CW l kA kC az cA cC bA bC d sgA sgC hin hsl ho
 by_cases hf:d.eK=true
 ·exact Bw l kA kC az cA cC bA bC d sgA sgC hin hsl ⟨by simpa using ho,hf⟩
 ·exact BF l kA kC az cA cC bA bC d sgA sgC hin hsl ⟨by simpa using ho,by simpa using hf⟩
end
section
open Go.RowKit
theorem I8 (r:bT) (kA:OA) (kC:Nat) (az:List RA) (cA:OA) (cC:Nat) (bA:OA) (bC:Nat) (slA:OA) (slC:Nat) (drA:OA) (drC:Nat) (ha:List cM) (heA:OA) (heC:Nat) (tz:List RA) (tA:OA) (tC:Nat) (ms:Value) (gw h:Nat) (gm g1 g2:Nat) (hin:eW r az ha) (htz:tz.length=r.ar.length) (hh:h<r.ar.length) (hok:j3 r (h+1)):
 Dl Tryz.prog 72 [(vI (h:Int)),(vP g1),(vP g2)] [(rd kA r.an.aN.length 9 (r.an.aN.map al.cells)),(rd cA r.an.aj.length 2 (List.zipWith av.cells r.an.aj az)),(e7 (aU av.g0 r.an.aj az)),(rd bA r.an.ae.length 4 (r.an.ae.map bB.cells)),(rd slA r.aK.length 1 (r.aK.map iC)),(rd drA r.bL.length 1 (r.bL.map iC)),(rd heA r.ar.length 1 (List.zipWith cJ r.ar ha)),(e7 (aU im r.ar ha)),(rd tA ((cL r).length) 1 (List.zipWith D7 (cL r) tz)),(e7 (aU Mo (cL r) tz)),(bU gw 91 (fM.cells (fM.mk (oD r kA kC cA cC bA bC slA slC drA drC heA heC) (bp.mk tA ((cL r).length) tC) ms))),(bU g1 81 [(vP gw)]),(bU g2 64 [(Value.map (some gm))])] (hE iV gm (bG db (dY r.an r.ar r.aK.length h 0))) (fun (x:Unit)=>(vT [])) (fun (x:Unit)=>True) (fun (x:Unit)=>(hE iV gm (bG db (dY r.an r.ar r.aK.length (h+1) 0)))):=by
 have v:=hin.line
 have AI:=hin.iN
 have AJ:=hin.has
 have AC:=hin.iM
 have AA:=hin.draw
 have AD:=dB (r:=r)
 refine mE kr Tryz.func72 U U fun w0 Q hQ hN=>?_
 try dsimp only
 refine WS fun _ g=>fy 1 [] (mr 12 U I) U<|rS (SX (bI U U) U U)<|rP 3 [] (mr 11 U I) ?_
 obtain ⟨ht,B⟩:=aL r.ar h om
 obtain ⟨A,C⟩:=aL ha h om
 have Z:(List.zipWith cJ r.ar ha)[h]? =some (cJ ht A):=dM B C
 have s:=hin.lq _ _ _ B C
 have AB:=s.oq
 have N:=hok h ht om B
 obtain ⟨tr,G⟩:=aL (cL r) h om
 obtain ⟨tra,F⟩:=aL tz h om
 have c:(List.zipWith D7 (cL r) tz)[h]? =some (D7 tr tra):=dM G F
 refine rS (IA h U (aD 9 U) MR dc om om)<|rS (gp h 0 (vS tra.1 tr.length tra.2) U b_ (aD 9 U) c U dc U) ?_
 have AM:=yV B G
 have AF:tr.length=r.aK.length:=by rw [AM,List.length_map]; exact N.1
 have AE:=N.1
 refine rP 2 [] I ?_
 refine RK g<|ax ?_
 have E:(0≤r.aK.length):=by exact Nat.zero_le _
 refine bK (ι:={z:Nat // (z≤r.aK.length)}) [0,1,2,14,15] [1,2,3,4,5,6,7,8,9,10,11,12,13] U U (fun z=>[(16,(vI (z.1:Int)))]) (fun z=>[(hE iV gm (bG db (dY r.an r.ar r.aK.length h z.1)))]) (fun _=>rfl) (fun _=>rfl) (fun z=>r.aK.length-z.1) ⟨0,E⟩ (aS U) (aI [1,2,3,4,5,6,7,8,9,10,11,12,13,0]) ?_
 clear E
 rintro ⟨i,u⟩ J2 K
 try dsimp only
 have a:i<r.aK.length→(dY r.an r.ar r.aK.length h i).lookup (i:Int)=eN r.an r.ar i h:=Ie
 refine WS fun _ k=>rP 1 [] I ?_
 refine RK k<|ai fun _ m=>bM U (aQ fun h5=>?_) (aP fun h5=>?_)
 ·refine bw<|ab<|ab<|ay ?_
  rw [show (dY r.an r.ar r.aK.length h i)=(dY r.an r.ar r.aK.length (h+1) 0) from by rw [show i=r.aK.length by omega]; exact Ot]
  refine LM hN () 13 [] I U U U U ?_
  trivial
 refine WK m<|ai fun _ L=>ax<|WS fun _ n=>rP 1 [] I ?_
 obtain ⟨x,hx⟩:=aL tr i om
 have y:=bH aa.cells hx
 refine rS (IA i U (show i_ _ (rd tra.1 tr.length 2 (tr.map aa.cells)).holds from (dx 9 U (bW G F (by simp [Mo])))) jF dc om om)<|rS (oE i 0 (aa.cells x) U b_ (show i_ _ (rd tra.1 tr.length 2 (tr.map aa.cells)).holds from (dx 9 U (bW G F (by simp [Mo])))) y U dc U U)<|AL U cZ fun b8=>a_ 1 U<|fO U cp U<|RK n<|WS fun _ o=>fy 2 [] (mr 13 U I) U<|rS (SX (kx (kV:=iV) (x:=(i:Int)) (l:=(dY r.an r.ar r.aK.length h i)) (f:=db) (z:=(aa.mk 0 0)) U U U l8 (dK oz) xH (by exact aD 14 U)) U U)<|a_ 3 U<|AL U cZ fun AG=>fO U cp U<|a_ 1 U<|RK o<|ai fun _ P=>WS fun _ H=>fy 1 [] (mr 13 U I) U<|rS (SX (bI U U) U U)<|fy 4 [] (mr 12 U I) U<|rS (IA h U (aD 8 U) rF dc om om)<|rS (gp h 0 (vS A.1.1 ht.length A.1.2) U b_ (aD 8 U) Z U dc U)<|rP 1 [] I ?_
 obtain ⟨d,hd⟩:=aL ht i om
 obtain ⟨da,p⟩:=aL A.2 i om
 have q:(List.zipWith aw.cells ht A.2)[i]? =some (aw.cells d da):=dM hd p
 refine rS (IA i U (show i_ _ (rd A.1.1 ht.length 7 (List.zipWith aw.cells ht A.2)).holds from (dx 9 U (bW B C cf))) wK dc om om)<|rS (nN (i*7) U (show i_ _ (rd A.1.1 ht.length 7 (List.zipWith aw.cells ht A.2)).holds from (dx 9 U (bW B C cf))) (Nat.mul_pos om dc) fx U)<|rS (gp i 0 (vB d.Out) U b_ (show i_ _ (rd A.1.1 ht.length 7 (List.zipWith aw.cells ht A.2)).holds from (dx 9 U (bW B C cf))) q U dc U)<|rP 1 [] I ?_
 refine cN (t:=39) U (fun J=>?_) (fun J=>?_)
 ·refine a_ 3 U<|RK H<|aO U<|WS fun _ R=>rP 2 [] (mr 14 U I) ?_
  have T:(cj (dY r.an r.ar r.aK.length h i) (i:Int))=(dY r.an r.ar r.aK.length h (i+1)):=by exact Gm (by exact HX B hd J)
  refine pf (kV:=iV) (x:=(i:Int)) (C':=[_,_,_,_,_,_,_,_,_,_,_,_,_,_,_,(hE iV gm (bG db (dY r.an r.ar r.aK.length h (i+1))))]) 15 U U U U l8 (dK oz) U ((lL _ _ _).symm.trans (congrArg _ T)) U<|RK R<|bw<|ab<|ay<|KK L<|ak<|rP 2 [] I ?_
  refine aF ?_
  have AH:(vI (((i+1):Nat):Int))=(vI ((i:Int)+1)):=by exact cI om
  refine aR (K ⟨(i+1),(by first|omega|(simp only []; omega))⟩ _ _ _ U os (cO 5<|bo U AH<|dw.nil _) (aI [2,3,4,5,6,7,8,9,10,11,12,13,14,15]))
 refine rP 3 [] I ?_
 refine RK H<|cy U (fun D=>?_) (fun D=>?_)
 ·rw [Bool.not_eq_true'] at D
  refine WS fun _ S=>rP 2 [] (mr 14 U I) ?_
  have V:(cj (dY r.an r.ar r.aK.length h i) (i:Int))=(dY r.an r.ar r.aK.length h (i+1)):=by exact Gm (by exact DG ((a om).symm.trans (Option.not_isSome_iff_eq_none.1 (by rw [D]; decide))))
  refine pf (kV:=iV) (x:=(i:Int)) (C':=[_,_,_,_,_,_,_,_,_,_,_,_,_,_,_,(hE iV gm (bG db (dY r.an r.ar r.aK.length h (i+1))))]) 15 U U U U l8 (dK oz) U ((lL _ _ _).symm.trans (congrArg _ V)) U<|RK S<|bw<|ab<|ay<|KK L<|ak<|rP 2 [] I ?_
  refine aF ?_
  have W:(vI (((i+1):Nat):Int))=(vI ((i:Int)+1)):=by exact cI om
  refine aR (K ⟨(i+1),(by first|omega|(simp only []; omega))⟩ _ _ _ U os (cO 5<|bo U W<|dw.nil _) (aI [2,3,4,5,6,7,8,9,10,11,12,13,14,15]))
 rw [Bool.not_eq_false'] at D
 refine WK P<|ak ?_
 obtain ⟨O,b⟩:=Option.isSome_iff_exists.1 D
 have M:eN r.an r.ar i h=some O:=(a om).symm.trans b
 have e:=Mf AM hx hd
 have AK:=As (fun j x hj hx=>hok j x om hx) om M
 have w:=vU (N.2 d (aT hd))
 rw [← e] at w
 rw [show ((List.lookup (i:Int) (dY r.an r.ar r.aK.length h i)).getD (aa.mk 0 0))=O from by rw [b]; rfl]
 refine fy 6 [0,1,2] (mr 14 U (mc 0 U (mc 1 U I))) U<|rS (BI U (s9 om om om))<|fy 5 [0,1] (mc 0 U (mc 1 U I)) U<|rS (BI U (s9 om om om))<|rP 1 [] I ?_
 refine rS (SX (bh (xs:=[(0,.tmp 52),(1,.tmp 58)]) (cs:=(aa.cells (aa.mk (O.Lo+(x.Lo/10)) (O.Hi+(x.Hi/10))))) U U (bg gn U)) U U) ?_
 have X:(ew (dY r.an r.ar r.aK.length h i) (i:Int) (aa.mk (O.Lo+(x.Lo/10)) (O.Hi+(x.Hi/10))))=(dY r.an r.ar r.aK.length h (i+1)):=by exact Nt om (by rw [M]; rfl) (by rw [e]; exact Du B hd (by rw [J]; decide) M)
 refine iY (kV:=iV) (x:=(i:Int)) (C':=[_,_,_,_,_,_,_,_,_,_,_,_,_,_,_,(hE iV gm (bG db (dY r.an r.ar r.aK.length h (i+1))))]) 15 U U U U l8 (dK oz) U ((gI _ _ _ _).symm.trans (congrArg _ X)) U<|aF<|aG<|KK L<|ak<|rP 2 [] I ?_
 refine aF ?_
 have Y:(vI (((i+1):Nat):Int))=(vI ((i:Int)+1)):=by exact cI om
 refine aR (K ⟨(i+1),(by first|omega|(simp only []; omega))⟩ _ _ _ U os (cO 5<|bo U Y<|dw.nil _) (aI [2,3,4,5,6,7,8,9,10,11,12,13,14,15]))
theorem Pn (r:bT) (kA:OA) (kC:Nat) (az:List RA) (cA:OA) (cC:Nat) (bA:OA) (bC:Nat) (slA:OA) (slC:Nat) (drA:OA) (drC:Nat) (ha:List cM) (heA:OA) (heC:Nat) (tz:List RA) (tA:OA) (tC:Nat) (ms:Value) (gw n:Nat) (hin:eW r az ha) (htz:tz.length=r.ar.length) (hn:n≤r.ar.length) (hok:j3 r n):
 lD Tryz.prog 46 [(vP gw),(vI (n:Int))] [(rd kA r.an.aN.length 9 (r.an.aN.map al.cells)),(rd cA r.an.aj.length 2 (List.zipWith av.cells r.an.aj az)),(e7 (aU av.g0 r.an.aj az)),(rd bA r.an.ae.length 4 (r.an.ae.map bB.cells)),(rd slA r.aK.length 1 (r.aK.map iC)),(rd drA r.bL.length 1 (r.bL.map iC)),(rd heA r.ar.length 1 (List.zipWith cJ r.ar ha)),(e7 (aU im r.ar ha)),(rd tA ((cL r).length) 1 (List.zipWith D7 (cL r) tz)),(e7 (aU Mo (cL r) tz)),(bU gw 91 (fM.cells (fM.mk (oD r kA kC cA cC bA bC slA slC drA drC heA heC) (bp.mk tA ((cL r).length) tC) ms)))] (fun (x:Nat)=>(Value.map (some x))) (fun (x:Nat)=>True) (fun (x:Nat)=>[(hE iV x (bG db (eB r n)))]):=by
 have c:=hin.line
 have m:=hin.iN
 have o:=hin.has
 have e:=hin.iM
 have d:=hin.draw
 have f:=dB (r:=r)
 refine di kr Tryz.func46 U U fun q Q hQ hN=>?_
 try dsimp only
 refine WS fun _ V=>uT U U fun k=>rP 1 [] I ?_
 refine RK V<|WS fun _ W=>nj (kV:=iV) U U fun B=>?_
 try dsimp only
 refine AL U S8 fun l=>HJ U MF U U<|RK W<|ai fun _ X=>WS fun _ Y=>fy 1 [] (mc 2 U I) U<|rS (SX (bI U U) U U)<|rP 5 [] (mr 13 U I) ?_
 refine RK Y<|ax ?_
 skip
 have A:(0≤r.aK.length):=by exact Nat.zero_le _
 refine bK (ι:={z:Nat // (z≤r.aK.length)}) [1,2,5,15] [0,2,3,4,5,6,7,8,9,10,11,12,13] U U (fun z=>[(16,(vI (z.1:Int)))]) (fun z=>[(hE iV B (bG db (dY r.an r.ar z.1 0 0)))]) (fun _=>rfl) (fun _=>rfl) (fun z=>r.aK.length-z.1) ⟨0,A⟩ (aS U) (aI [0,2,3,4,5,6,7,8,9,10,11,12,13,1]) ?_
 clear A
 rintro ⟨i,a⟩ J8 AA
 try dsimp only
 refine WS fun _ Z=>rP 1 [] I ?_
 refine RK Z<|ai fun _ D=>cy U (aP fun S=>?_) (aQ fun S=>?_)
 ·refine WK D<|ai fun _ E=>ax<|WS fun _ F=>a_ 2 U<|RK F<|ak<|rP 2 [] (mc 0 U I) ?_
  refine rS (SX (bh (xs:=[]) (cs:=(aa.cells (aa.mk 0 0))) U U (bg gn U)) U U) ?_
  have O:(ew (dY r.an r.ar i 0 0) (i:Int) (aa.mk 0 0))=(dY r.an r.ar (i+1) 0 0):=by exact NW
  refine iY (kV:=iV) (x:=(i:Int)) (C':=[_,_,_,_,_,_,_,_,_,_,_,_,_,(hE iV B (bG db (dY r.an r.ar (i+1) 0 0)))]) 13 U U U U l8 (dK oz) U ((gI _ _ _ _).symm.trans (congrArg _ O)) U<|aF<|aG<|KK E<|ak<|rP 2 [] I ?_
  refine aF ?_
  have P:(vI (((i+1):Nat):Int))=(vI ((i:Int)+1)):=by exact cI om
  refine aR (AA ⟨(i+1),(by first|omega|(simp only []; omega))⟩ _ _ _ U os (cO 4<|bo U P<|dw.nil _) (aI [0,1,2,3,4,5,6,7,8,9,10,11,12,13]))
 refine bw<|ab<|ab<|ay<|KK X<|WS fun _ G=>rS (FU U)<|a_ 1 U<|RK G<|ai fun _ H=>WS fun _ AB=>rP 2 [] I ?_
 refine RK AB<|ax ?_
 rw [show (dY r.an r.ar i 0 0)=(dY r.an r.ar r.aK.length 0 0) from by rw [show i=r.aK.length by omega]]
 have A:(0≤n):=by exact Nat.zero_le _
 refine bK (ι:={z:Nat // (z≤n)}) [2,5,7,24] [0,1,2,3,4,5,6,7,8,9,10,11,12] U U (fun z=>[(25,(vI (z.1:Int)))]) (fun z=>[(hE iV B (bG db (dY r.an r.ar r.aK.length z.1 0)))]) (fun _=>rfl) (fun _=>rfl) (fun z=>n-z.1) ⟨0,A⟩ (aS U) (aI [0,1,2,3,4,5,6,7,8,9,10,11,12,13]) ?_
 clear A
 rintro ⟨h,b⟩ J19 C
 try dsimp only
 refine WS fun _ J=>rP 1 [] I ?_
 refine RK J<|ai fun _ K=>bM U (aQ fun T=>?_) (aP fun T=>?_)
 ·refine bw<|ab<|ab<|ay<|KK H<|ai fun _ N=>?_
  rw [show (dY r.an r.ar r.aK.length h 0)=(eB r n) from by rw [show h=n by omega]; exact MA]
  refine ak<|rP 2 [] (mc 0 U I) ?_
  refine RK N<|ao<|LX hQ B [13] [] I U U U U ?_
  trivial
 refine WK K<|ai fun _ L=>ax<|WS fun _ M=>a_ 2 U<|RK M<|ak<|rP 2 [] I ?_
 refine iP 13 U U U U (I8 r kA kC az cA cC bA bC slA slC drA drC ha heA heC tz tA tC ms gw h B k l hin htz om (by exact fun j x hj hx=>hok j x om hx)) U (dU 2 U U (dC (bP _)) (dU 3 U U (dC (bP _)) (dU 4 U U (dC (bP _)) (dU 5 U U (dC (bP _)) (dU 6 U U (dC (bP _)) (dU 7 U U (dC (bP _)) (dU 8 U U (dC (bP _)) (dU 9 U U (dC (bP _)) (dU 10 U U (dC (bP _)) (dU 11 U U (dC (bP _)) (dU 12 U U (dC (bP _)) (dU 1 U U (bP _) (dU 0 U U (bP _) kd))))))))))))) U (fun p g=>?_)
 try dsimp only
 refine aF<|aG<|KK L<|ak<|rP 2 [] I ?_
 refine aF ?_
 have R:(vI (((h+1):Nat):Int))=(vI ((h:Int)+1)):=by exact cI om
 refine aR (C ⟨(h+1),(by first|omega|(simp only []; omega))⟩ _ _ _ U os (cO 4<|bo U R<|dw.nil _) (aI [0,1,2,3,4,5,6,7,8,9,10,11,12,13]))
end
section
open Go.RowKit
theorem ob (r:bT) (kA:OA) (kC:Nat) (az:List RA) (cA:OA) (cC:Nat) (bA:OA) (bC:Nat) (slA:OA) (slC:Nat) (drA:OA) (drC:Nat) (ha:List cM) (heA:OA) (heC:Nat) (hin:eW r az ha):
 lD Tryz.prog 36 [(vA (cm.cells (oD r kA kC cA cC bA bC slA slC drA drC heA heC)))] [(rd eJ 3 2 dJ),(rd kA r.an.aN.length 9 (r.an.aN.map al.cells)),(rd cA r.an.aj.length 2 (List.zipWith av.cells r.an.aj az)),(e7 (aU av.g0 r.an.aj az)),(rd bA r.an.ae.length 4 (r.an.ae.map bB.cells)),(rd slA r.aK.length 1 (r.aK.map iC)),(rd drA r.bL.length 1 (r.bL.map iC)),(rd heA r.ar.length 1 (List.zipWith cJ r.ar ha)),(e7 (aU im r.ar ha))] (fun (x:Bool×Int×Nat×Nat×(OA)×Nat×(List RA))=>bif x.1 then (vT [(Value.pointer (some ⟨x.2.2.1,0,none⟩)),(vI 0)]) else (vT [(Value.pointer none),(vI x.2.1)])) (fun (x:Bool×Int×Nat×Nat×(OA)×Nat×(List RA))=>(x.1=true→(cr r=0∧x.2.2.2.2.2.2.length=r.ar.length))∧(x.1=false→(x.2.1=cr r∧ ¬ cr r=0))) (fun (x:Bool×Int×Nat×Nat×(OA)×Nat×(List RA))=>bif x.1 then [(bU x.2.2.1 91 (fM.cells (fM.mk (oD r kA kC cA cC bA bC slA slC drA drC heA heC) (bp.mk x.2.2.2.2.1 ((cL r).length) x.2.2.2.2.2.1) (Value.map (some x.2.2.2.1))))),(own x.2.2.2.2.1 x.2.2.2.2.2.1 82 1 (List.zipWith D7 (cL r) x.2.2.2.2.2.2)),(bu (aU Dn (cL r) x.2.2.2.2.2.2)),(hE iV x.2.2.2.1 (bG db (aA r)))] else []):=by
 have A_:=hin.line
 have BU:=hin.iN
 have BV:=hin.has
 have BJ:=hin.iM
 have BH:=hin.draw
 have Ai:=dB (r:=r)
 refine di kr Tryz.func36 U U fun w0 Q hQ hN=>?_
 try dsimp only
 refine WS fun _ A0=>fQ U fun b2=>a_ 2 U<|RK A0<|ai fun _ A1=>WS fun _ A2=>a_ 1 U<|rS (LP (cb.cells (ly r.an kA kC cA cC bA bC)) 0 U b_ U U U)<|rS (CL (Bt r.an kA kC az cA cC bA bC asm) (bf [2,3,4,5]) U)<|a_ 1 U<|RK A2<|WS fun _ A3=>rP 2 [] I ?_
 refine RK A3<|cy U (bk fun B=>?_) (bj fun B=>?_)
 ·refine WS fun _ A4=>rP 3 [] I ?_
  refine RK A4<|ao<|LX hQ (false,(dp r.an),0,0,none,0,[]) [] [] I U (by rfl) U U ?_
  exact rG<|LS (yG B) B
 refine WK A1<|WS fun _ A5=>fy 4 [] (mc 0 U I) U<|RK A5<|WS fun _ A6=>rP 2 [] (mc 0 U I) ?_
 refine cX (xz drA r.bL.length drC) (aJ) U fun Am BK=>?_
 try dsimp only
 refine cX (wo r.bL drA drC Am asm) (bf [8,0]) U fun BG BL=>?_
 obtain ⟨BN,BT⟩:=BG
 try dsimp only
 refine a_ 1 U<|RK A6<|ai fun _ e=>WS fun _ H=>rP 1 [] I ?_
 refine cV (xs:=[.tmp 29]) (cs:=[(vI (r.aK.length:Int))]) U cv ja U U U U (by simp [Value.cells]) U U fun An=>?_
 refine rS (CL (dV.eq (j2 1 5 ([(r.aK.length:Int)]) (some ⟨An,0,none⟩) 1 (by (simp; done))) cR) (aq (aZ 0 U U (by simp [bE]) U)<|aJ) U) ?_
 refine rP 2 [] I ?_
 refine cN (t:=33) U (bk fun Ar=>?_) (bj fun Ar=>?_)
 ·refine a_ 26 U<|RK H<|aO U<|WS fun _ f=>rP 2 [] I ?_
  refine RK f<|ao<|LX hQ (false,60,0,0,none,0,[]) [] [] I U (by rfl) U U ?_
  exact rG<|pQ (ko B (fun q:eV r=>by have q1:=q.num; have q2:=q.wR; have q3:=q.nh; have q4:=q.yl; omega))
 refine rP 6 [] I ?_
 refine cN (t:=39) U (bk fun As=>?_) (bj fun As=>?_)
 ·refine a_ 20 U<|RK H<|aO U<|WS fun _ g=>rP 2 [] I ?_
  refine RK g<|ao<|LX hQ (false,60,0,0,none,0,[]) [] [] I U (by rfl) U U ?_
  exact rG<|pQ (ko B (fun q:eV r=>by have q1:=q.num; have q2:=q.wR; have q3:=q.nh; have q4:=q.yl; omega))
 refine rP 2 [] (mc 3 U I) ?_
 refine cV (xs:=[.tmp 41]) (cs:=[(vI r.ik)]) U cv ja U U U U (by simp [Value.cells]) U U fun Ao=>?_
 refine rS (CL (dV.eq (j2 0 5 ([r.ik]) (some ⟨Ao,0,none⟩) 1 (by (simp; done))) cR) (aq (aZ 0 U U (by simp [bE]) U)<|aJ) U) ?_
 refine rP 3 [] I ?_
 refine cN (t:=46) U (bk fun At=>?_) (bj fun At=>?_)
 ·refine a_ 13 U<|RK H<|aO U<|WS fun _ k=>rP 2 [] I ?_
  refine RK k<|ao<|LX hQ (false,60,0,0,none,0,[]) [] [] I U (by rfl) U U ?_
  exact rG<|pQ (ko B (fun q:eV r=>by have q1:=q.num; have q2:=q.wR; have q3:=q.nh; have q4:=q.yl; omega))
 refine rP 3 [] (mc 4 U I) ?_
 refine cV (xs:=[.tmp 49]) (cs:=[(vI (r.ar.length:Int))]) U cv ja U U U U (by simp [Value.cells]) U U fun Ap=>?_
 refine rS (CL (dV.eq (j2 1 3 ([(r.ar.length:Int)]) (some ⟨Ap,0,none⟩) 1 (by (simp; done))) cR) (aq (aZ 0 U U (by simp [bE]) U)<|aJ) U) ?_
 refine rP 3 [] I ?_
 refine cN (t:=54) U (bk fun Au=>?_) (bj fun Au=>?_)
 ·refine a_ 5 U<|RK H<|aO U<|WS fun _ l=>rP 2 [] I ?_
  refine RK l<|ao<|LX hQ (false,60,0,0,none,0,[]) [] [] I U (by rfl) U U ?_
  exact rG<|pQ (ko B (fun q:eV r=>by have q1:=q.num; have q2:=q.wR; have q3:=q.nh; have q4:=q.yl; omega))
 refine fy 2 [] (mc 5 U I) U<|rS (CL (j2 0 9999 r.aK slA slC asm) (bf [11]) U)<|rP 2 [] I ?_
 refine RK H<|cy U (fun N=>?_) (fun N=>?_)
 ·rw [Bool.not_eq_true'] at N
  refine WS fun _ m=>rP 2 [] I ?_
  refine RK m<|ao<|LX hQ (false,60,0,0,none,0,[]) [] [] I U (by rfl) U U ?_
  exact rG<|pQ (ko B (fun q:eV r=>by exact absurd (q.ins.symm.trans N) dc))
 rw [Bool.not_eq_false'] at N
 refine WK e<|ai fun _ o=>WS fun _ p=>?_
 have BW:(dg r.bL).length=r.aK.length:=by rw [gk]; omega
 refine rP 2 [] I ?_
 refine RK p<|ax ?_
 have A:(0≤r.aK.length)∧(rn r 0):=by exact ⟨Nat.zero_le _,Ej⟩
 refine bK (ι:={z:Nat // (z≤r.aK.length)∧(rn r z)}) [1,5,6,60] [3,5,6,7,8,9,10,11,12,13,14] U U (fun z=>[(61,(vI (z.1:Int)))]) (fun z=>[]) (fun _=>rfl) (fun _=>rfl) (fun z=>r.aK.length-z.1) ⟨0,A⟩ (aS U) (aI [3,5,6,7,8,9,10,11,12,13,14]) ?_
 clear A
 rintro ⟨i,⟨A9,J⟩⟩ J28 V
 try dsimp only
 refine WS fun _ s=>rP 1 [] I ?_
 refine RK s<|ai fun _ w=>cy U (aP fun Aw=>?_) (aQ fun Aw=>?_)
 ·refine WK w<|ai fun _ W=>ax<|WS fun _ AA=>a_ 2 U<|RK AA<|ai fun _ O=>du cq 24 kr<|dP 2 [] I ?_
  obtain ⟨x,hx⟩:=aL (dg r.bL) i om
  have BA:=bH iC hx
  refine dS (IA i U (ag (n:=r.bL.length) 0 U sq) cv dc om om) ?_
  refine dS (gp i 0 (vI x) U b_ (ag (n:=(dg r.bL).length) 0 U sm) BA U dc U)<|dP 3 [] I ?_
  refine iR (t:=70) U (bk fun S=>?_) (bj fun S=>?_)
  ·refine lv 17 U<|cH<|RK O<|aO U<|WS fun _ AB=>rP 2 [] I ?_
   refine RK AB<|ao<|LX hQ (false,60,0,0,none,0,[]) [] [] I U (by rfl) U U ?_
   exact rG<|pQ (ko B (fun q:eV r=>by exact absurd (q.drawn hx) S))
  refine dP 3 [] I ?_
  refine ji (t:=73) U (aQ fun Ax=>?_) (aP fun Ax=>?_)
  ·refine lv 14 U<|cH<|RK O<|aW U<|bV<|aG<|KK W<|ak<|rP 2 [] I ?_
   refine aF ?_
   have Ac:(vI (((i+1):Nat):Int))=(vI ((i:Int)+1)):=by exact cI om
   refine aR (V ⟨(i+1),⟨om,wI J hx S (fun u v hu hv hw=>by omega)⟩⟩ _ _ _ U os (cO 4<|bo U Ac<|dw.nil _) (aI [0,1,2,3,4,5,6,7,8,9,10]))
  refine dP 3 [] (mc 1 U I) ?_
  obtain ⟨y,hy⟩:=aL r.aK i om
  have BB:=bH iC hy
  refine dS (IA i U (aD 7 U) cv dc om om)<|dS (gp i 0 (vI y) U b_ (aD 7 U) BB U dc U)<|dP 4 [] (mc 1 U I) ?_
  obtain ⟨z,hz⟩:=aL r.aK (i-1) om
  have BC:=bH iC hz
  refine dS (IA (i-1) U (aD 7 U) cv dc om om)<|dS (gp (i-1) 0 (vI z) U b_ (aD 7 U) BC U dc U)<|dP 3 [] I ?_
  refine cH<|RK O<|bM U (aQ fun Ay=>?_) (aP fun Ay=>?_)
  ·refine bV<|aG<|KK W<|ak<|rP 2 [] I ?_
   refine aF ?_
   have Ab:(vI (((i+1):Nat):Int))=(vI ((i:Int)+1)):=by exact cI om
   refine aR (V ⟨(i+1),⟨om,wI J hx S (fun u v hu hv hw=>by (rw [hy] at hu; cases hu; rw [hz] at hw; cases hw; omega))⟩⟩ _ _ _ rfl os (cO 4<|bo rfl Ab<|dw.nil _) (aI [0,1,2,3,4,5,6,7,8,9,10]))
  refine WS fun _ AC=>rP 2 [] I ?_
  refine RK AC<|ao<|LX hQ (false,60,0,0,none,0,[]) [] [] I U (by rfl) U U ?_
  exact rG<|pQ (ko B (fun q:eV r=>by have q1:=(q.ids i y hy).2 z om hz; omega))
 refine bw<|ab<|ab<|ay<|KK o<|WS fun _ AD=>fy 1 [] (mc 1 U I) U<|rS (SX (bh (xs:=[(0,.tmp 89)]) (cs:=(fM.cells (fM.mk (oD r kA kC cA cC bA bC slA slC drA drC heA heC) (bp.mk none 0 0) (Value.map none)))) U U (bg U4 U)) U U)<|fQ U fun L=>a_ 1 U<|RK AD<|ai fun _ AE=>WS fun _ AF=>rP 4 [] (mc 2 U I) ?_
 refine RK AF<|ax<|fV 82 1<|oh ?_
 have A:(0≤r.ar.length)∧(([]:List RA).length=0)∧(j3 r 0):=by exact ⟨Nat.zero_le _,rfl,xp⟩
 refine bK (ι:={z:Nat×(List RA)×(OA)×Nat // (z.1≤r.ar.length)∧(z.2.1.length=z.1)∧(j3 r z.1)}) [1,5,8,93,94] [3,4,5,6,7,8,9,10,11,12,13] U U (fun z=>[(95,(vI (z.1.1:Int)))]) (fun z=>[(bu (aU Dn (gv r z.1.1) z.1.2.1)),(own z.1.2.2.1 z.1.2.2.2 82 1 (List.map sC (List.zipWith B6 (gv r z.1.1) z.1.2.1))),(bU L 91 (fM.cells (fM.mk (oD r kA kC cA cC bA bC slA slC drA drC heA heC) (bp.mk z.1.2.2.1 ((List.zipWith B6 (gv r z.1.1) z.1.2.1).length) z.1.2.2.2) (Value.map none))))]) (fun _=>rfl) (fun _=>rfl) (fun z=>r.ar.length-z.1.1) ⟨(0,([]:List RA),none,0),A⟩ (aS U) (aI [3,4,5,6,7,8,9,10,11,12,13,0,1,2]) ?_
 clear A
 rintro ⟨⟨h,tz,a,c⟩,⟨T,C,E⟩⟩ J42 Z
 try dsimp only at T C E
 try dsimp only
 refine WS fun _ AG=>rP 1 [] I ?_
 refine RK AG<|ai fun _ AH=>bM U (aQ fun Az=>?_) (aP fun Az=>?_)
 ·refine bw<|ab<|ab<|ay<|KK AE<|ai fun _ AZ=>?_
  have A8:gv r h=cL r:=by unfold cL; rw [show h=r.ar.length by omega]
  have Aj:tz.length=r.ar.length:=by omega
  rw [A8,yp,show (List.zipWith B6 (cL r) tz).length=(cL r).length from by rw [List.length_zipWith]; omega]
  have X:eV r:=Il (n:=i) om om om om om N J E om
  refine ak<|rP 5 [] (mc 1 U I) ?_
  refine cX (Pn r kA kC az cA cC bA bC slA slC drA drC ha heA heC tz a c (Value.map none) L r.ar.length hin asm om (by exact X.z9)) (lH [3,4,5,6,7,8,9,10]<|aq (ag (n:=(cL r).length) 12 U (mR (by rw [Ai]; exact Aj)))<|aq (dy 11 U s7)<|fq 13 U U<|aJ) U fun K BM=>?_
  try dsimp only
  refine rS (SX (bI U U) U U)<|rP 1 [] I ?_
  refine jf (vs:=[(Value.map (some K))]) (cs':=(fM.cells (fM.mk (oD r kA kC cA cC bA bC slA slC drA drC heA heC) (bp.mk a ((cL r).length) c) (Value.map (some K))))) (C':=[_,_,_,_,_,_,_,_,_,_,_,_,_,_,(bU L 91 (fM.cells (fM.mk (oD r kA kC cA cC bA bC slA slC drA drC heA heC) (bp.mk a ((cL r).length) c) (Value.map (some K)))))]) 14 U U U MF U U U U U U U<|RK AZ<|ai fun _ Aa=>?_
  rw [show eB r r.ar.length=aA r from rfl]
  refine ak<|rP 3 [] I ?_
  refine RK Aa<|ao ?_
  refine LX hQ (true,0,L,K,a,c,tz) [14,13,12,0] [] I U (by (show List.all _ _=true; simp only [cond_true,fG,List.all_nil,wD,Bool.and_true]; rfl)) U U ?_
  exact ⟨fun _=>⟨Ce B X,Aj⟩,Ng⟩
 refine WK AH<|ai fun _ AI=>ax<|WS fun _ AJ=>?_
 obtain ⟨ht,D⟩:=aL r.ar h om
 obtain ⟨G,BD⟩:=aL ha h om
 have Ah:(List.zipWith cJ r.ar ha)[h]? =some (cJ ht G):=dM D BD
 refine rS (IA h U (aD 9 U) rF dc om om)<|rS (gp h 0 (vS G.1.1 ht.length G.1.2) U b_ (aD 9 U) Ah U dc U)<|rP 1 [] I ?_
 refine RK AJ<|ai fun _ AK=>WS fun _ AM=>?_
 have Ag:=hin.lq _ _ _ D BD
 have BI:=Ag.oq
 refine rP 4 [] I ?_
 refine RK AM<|cy U (bk fun Y=>?_) (bj fun Y=>?_)
 ·refine WS fun _ AN=>rP 2 [] I ?_
  refine RK AN<|ao<|LX hQ (false,60,0,0,none,0,[]) [] [] I U (by rfl) U U ?_
  exact rG<|pQ (ko B (fun q:eV r=>by have q1:=(q.lq ht (aT D)).1; omega))
 refine WK AK<|WS fun _ AO=>a_ 1 U<|RK AO<|ai fun _ AP=>WS fun _ AQ=>rP 3 [] I ?_
 refine RK AQ<|ax<|fV 40 2 ?_
 have A:(0≤ht.length)∧(nX r.an ht 0):=by exact ⟨Nat.zero_le _,vg⟩
 refine bK (ι:={z:Nat×(OA)×Nat // (z.1≤ht.length)∧(nX r.an ht z.1)}) [1,5,8,10,93,94,95,103,104] [1,2,3,4,5,6,7,8,9,10,11,12,13,14] U U (fun z=>[(11,(vS z.1.2.1 (((ht.take z.1.1).map (df r.an)).length) z.1.2.2)),(105,(vI (z.1.1:Int)))]) (fun z=>[(own z.1.2.1 z.1.2.2 40 2 (((ht.take z.1.1).map (df r.an)).map aa.cells))]) (fun _=>rfl) (fun _=>rfl) (fun z=>ht.length-z.1.1) ⟨(0,none,0),A⟩ (aS U) (aI [1,2,3,4,5,6,7,8,9,10,11,12,13,14,0]) ?_
 clear A
 rintro ⟨⟨j,la,lc⟩,⟨Ak,F⟩⟩ J53 b
 try dsimp only at Ak F
 try dsimp only
 refine WS fun _ AR=>rP 1 [] I ?_
 refine RK AR<|ai fun _ AS=>bM U (aQ fun Av=>?_) (aP fun Av=>?_)
 ·refine bw<|ab<|ab<|ay<|KK AP<|ak<|a_ 2 U<|rS (SX (bI U U) U U)<|rP 2 [] (mc 13 U I) ?_
  rw [show ((ht.take j).map (df r.an))=ht.map (df r.an) from by rw [List.take_of_length_le om]]
  refine rP 1 [] I ?_
  refine cV (xs:=[.tmp 128]) (cs:=[(vS la ((ht.map (df r.an)).length) lc)]) U MR Tc U U U U (by simp [Value.cells]) U U fun BS=>?_
  refine c_ (es2:=(List.map sC (List.zipWith B6 (gv r (h+1)) (tz++[(la,lc)])))) (m':=(List.zipWith B6 (gv r (h+1)) (tz++[(la,lc)])).length) 13 U U U Sf U U sm (aZ (es:=List.map sC [(bp.mk la ((ht.map (df r.an)).length) lc)]) 0 U U (by simp [zF]) U) (J0 _) (by rw [List.length_zipWith,kF om]; omega) (by rw [List.length_zipWith,kF om]; simp only [maxLen]; omega) (by rw [tG D C,List.map_append]; rfl) (by rw [tG D C]; simp) U fun P R=>?_
  try dsimp only
  refine rS (SX (bI U U) U U)<|a_ 1 U<|jf (vs:=[(vS P ((List.zipWith B6 (gv r (h+1)) (tz++[(la,lc)])).length) R)]) (cs':=(fM.cells (fM.mk (oD r kA kC cA cC bA bC slA slC drA drC heA heC) (bp.mk P ((List.zipWith B6 (gv r (h+1)) (tz++[(la,lc)])).length) R) (Value.map none)))) (C':=[_,_,_,_,_,_,_,_,_,_,_,_,_,_,(bU L 91 (fM.cells (fM.mk (oD r kA kC cA cC bA bC slA slC drA drC heA heC) (bp.mk P ((List.zipWith B6 (gv r (h+1)) (tz++[(la,lc)])).length) R) (Value.map none)))),_]) 14 U U U UA U U U U U U U<|aF<|aG<|KK AI<|ak<|rP 2 [] I ?_
  refine aF<|Cz (X':=aU Dn (gv r (h+1)) (tz++[(la,lc)])) 12 15 U U (BR (a:=(la,lc)) D C) ?_
  have Ae:(vI (((h+1):Nat):Int))=(vI ((h:Int)+1)):=by exact cI om
  refine aR (Z ⟨((h+1),(tz++[(la,lc)]),P,R),⟨om,by simp; omega,xO E D (FR om F om)⟩⟩ _ _ _ U os (cO 5<|bo U Ae<|dw.nil _) (aI [2,3,4,5,6,7,8,9,10,11,12,0,13,14]))
 refine WK AS<|ai fun _ AT=>ax<|WS fun _ AU=>?_
 obtain ⟨d,hd⟩:=aL ht j om
 obtain ⟨da,Af⟩:=aL G.2 j om
 have A7:(List.zipWith aw.cells ht G.2)[j]? =some (aw.cells d da):=dM hd Af
 refine rS (IA j U (show i_ _ (rd G.1.1 ht.length 7 (List.zipWith aw.cells ht G.2)).holds from (dx 10 U (bW D BD cf))) wK dc om om)<|rS (oE j 0 (bq.cells (bq.mk d.Out d.eK d.Time (eH.mk d.ct.Start d.ct.f_ (bp.mk da.1 d.ct.ah.length da.2)))) U b_ (show i_ _ (rd G.1.1 ht.length 7 (List.zipWith aw.cells ht G.2)).holds from (dx 10 U (bW D BD cf))) A7 U dc U U)<|AL U Oe fun BO=>fO U Qy U<|RK AU<|WS fun _ AV=>a_ 1 U<|rS (LP (cb.cells (ly r.an kA kC cA cC bA bC)) 2 U b_ U U U)<|rP 1 [] (mc 0 U I) ?_
 have BX:=Ag.sig d (aT hd)
 refine rS (CL (E4 r.an kA kC az cA cC bA bC d da.1 da.2 asm asm) (lH [3,4,5,6,7]<|aq (show i_ _ (rd da.1 d.ct.ah.length 2 (d.ct.ah.map aM.cells)).holds from (dx 11 U (bW D BD (cS _ (bW hd Af (by simp [aw.g0]))))))<|aJ) U)<|a_ 3 U<|AL U cZ fun BP=>fO U cp U<|a_ 1 U<|RK AV<|ai fun _ AW=>WS fun _ AX=>rP 2 [] I ?_
 refine RK AX<|bM U (bj fun M=>?_) (bk fun M=>?_)
 ·refine WK AW<|ak<|rP 2 [] (mc 0 U I) ?_
  refine cV (xs:=[.tmp 119]) (cs:=(aa.cells (df r.an d))) U jF cZ U U U U (by simp [Value.cells,aa.aV]) U U fun BQ=>?_
  refine c_ (es2:=(List.map aa.cells ((ht.take (j+1)).map (df r.an)))) (m':=((ht.take (j+1)).map (df r.an)).length) 17 U U U Ei U U sm (aZ (es:=List.map aa.cells [(df r.an d)]) 0 U U (by simp [aa.aV]) U) (gU _) (by simp only [List.length_map,List.length_take]; omega) (by simp only [maxLen,List.length_map,List.length_take]; omega) (by rw [List.take_add_one,hd]; simp) sq U fun Al Aq=>?_
  try dsimp only
  refine a_ 1 U<|aF<|aG<|KK AT<|ak<|rP 2 [] I ?_
  refine aF ?_
  have Ad:(vI (((j+1):Nat):Int))=(vI ((j:Int)+1)):=by exact cI om
  refine aR (b ⟨((j+1),Al,Aq),⟨om,vl F hd M⟩⟩ _ _ _ U os (cO 10<|bo U Ad<|dw.nil _) (aI [3,4,5,6,7,8,9,10,11,12,13,14,15,16,17]))
 refine WS fun _ AY=>rP 2 [] I ?_
 refine RK AY<|ao<|LX hQ (false,60,0,0,none,0,[]) [] [] I U (by rfl) U U ?_
 exact rG<|pQ (ko B (fun q:eV r=>by exact M ((q.lq ht (aT D)).2 d (aT hd))))
end
section
open Go.RowKit
theorem D0 (l:List Int) (lA:OA) (lC:Nat) (hlen:l.length=1):
 Dl Tryz.prog 59 [(vS lA 1 lC)] [] (own lA lC 3 1 (l.map iC)) (fun (x:Unit)=>(vS lA 1 lC)) (fun (x:Unit)=>True) (fun (x:Unit)=>(own lA lC 3 1 (l.map iC))):=by
 refine mE kr Tryz.func59 U U fun E Q hQ hN=>?_
 try dsimp only
 refine WS fun _ A=>a_ 1 U<|RK A<|ai fun _ D=>WS fun _ B=>a_ 2 U<|rS (SX (bS (r:= .bool true) U U U gQ) U U)<|RK B<|aO U<|WS fun _ C=>rP 2 [] I ?_
 refine RK C<|ao<|LM hQ () 0 [] I U U U U ?_
 trivial
theorem DR (l:List Int) (lA:OA) (lC:Nat) (hlen:l.length=2):
 Dl Tryz.prog 59 [(vS lA 2 lC)] [] (own lA lC 3 1 (l.map iC)) (fun (x:(List Int))=>(vS lA (IP l) lC)) (fun (x:(List Int))=>True) (fun (x:(List Int))=>(own lA lC 3 1 (x.map iC))):=by
 refine mE kr Tryz.func59 U U fun c Q hQ hN=>?_
 try dsimp only
 refine WS fun _ M=>a_ 1 U<|RK M<|ai fun _ N=>WS fun _ O=>a_ 2 U<|rS (SX (bS (r:= .bool false) U U U gQ) U U)<|RK O<|aW U<|WK N<|ai fun _ P=>WS fun _ R=>a_ 1 U<|RK R<|ax<|jE 3<|eg fun R6 V=>ai fun _ S=>WS fun _ T=>a_ 3 U<|rS (SX (bS (r:= .bool true) U U U gQ) U U)<|RK T<|aO U<|WK S<|ai fun _ AA=>ax<|ai fun _ B=>du cq 10 kr<|dP 2 [] I ?_
 obtain ⟨x,hx⟩:=aL l 1 om
 have W:=bH iC hx
 refine dS (IA 1 U (ag (n:=2) 0 U sq) cv dc U om) ?_
 refine dS (gp 1 0 (vI x) U b_ (ag (n:=l.length) 0 U sm) W U dc U)<|dP 2 [] I ?_
 refine dS (SX (bS (r:= .int .i64 0) U U U (qk ⟨dc,dc⟩)) U U) ?_
 obtain ⟨y,hy⟩:=aL l 0 om
 have X:=bH iC hy
 refine dS (IA 0 U (ag (n:=2) 0 U sq) cv dc U om) ?_
 refine dS (gp 0 0 (vI y) U b_ (ag (n:=l.length) 0 U sm) X U dc U)<|dP 1 [] I ?_
 refine cH<|RK B<|bM U (aQ fun A=>?_) (aP fun A=>?_)
 ·refine bV<|aG<|KK AA<|ak<|a_ 1 U<|rS (SX (bS (r:= .int .i64 2) U U U (gY ⟨dc,dc⟩)) U U)<|a_ 1 U<|RK V<|eg fun R19 b=>ai fun _ Z=>WS fun _ AB=>a_ 3 U<|rS (SX (bS (r:= .bool false) U U U gQ) U U)<|RK AB<|aW U<|bw<|ab<|ab<|ay<|KK P<|WS fun _ J=>rP 2 [] I ?_
  refine RK J<|ao ?_
  refine LM hQ l 0 [] I U U U ?_ ?_
  ·(rw [C7 hlen hy hx A,hlen]; rfl)
  ·trivial
 refine WS fun _ C=>rP 2 [] I ?_
 refine rS (VB 1 U cv U os) ?_
 refine a_ 1 U<|RK C<|ai fun _ D=>WS fun _ E=>a_ 1 U<|RK E<|ax<|jE 2<|eg fun R14 a=>ai fun _ Y=>WS fun _ F=>rP 4 [] I ?_
 refine RK F<|cy U (aP fun L=>?_) (aQ fun L=>?_)
 ·exfalso; omega
 refine bw<|ab<|ab<|ay<|KK D<|WS fun _ G=>rP 2 [] I ?_
 refine rS (VB 1 U cv U os) ?_
 refine M0 (k:=1) 0 rfl rfl pZ (by intro v hv; simp [Value.cells] at hv; subst hv; rfl) rfl os om ?_
 try dsimp only
 rw [show (own lA lC 3 1 ((l.map iC).take 1))=(own lA lC 3 1 ((l.take 1).map iC)) from by rw [List.map_take]]
 refine RK G<|WS fun _ H=>Kv 0 U fun K=>?_
 simp only [List.length_map,List.length_take] at K
 refine a_ 2 U<|rS (Vp 1 U cv U om)<|rP 1 [] I ?_
 refine RK H<|ao ?_
 refine LM hQ (l.take 1) 0 [] I U U U ?_ ?_
 ·(rw [yu hlen hy hx A]; rfl)
 ·trivial
end
section
open Go.RowKit
theorem yW (r:bT) (kA:OA) (kC:Nat) (az:List RA) (cA:OA) (cC:Nat) (bA:OA) (bC:Nat) (slA:OA) (slC:Nat) (drA:OA) (drC:Nat) (ha:List cM) (heA:OA) (heC:Nat) (a:Int) (gq:Nat) (hin:eW r az ha):
 lD Tryz.prog 35 [(vA (cm.cells (oD r kA kC cA cC bA bC slA slC drA drC heA heC))),(vS (some ⟨gq,0,none⟩) 1 1)] [(rd eJ 3 2 dJ),(rd kA r.an.aN.length 9 (r.an.aN.map al.cells)),(rd cA r.an.aj.length 2 (List.zipWith av.cells r.an.aj az)),(e7 (aU av.g0 r.an.aj az)),(rd bA r.an.ae.length 4 (r.an.ae.map bB.cells)),(rd slA r.aK.length 1 (r.aK.map iC)),(rd drA r.bL.length 1 (r.bL.map iC)),(rd heA r.ar.length 1 (List.zipWith cJ r.ar ha)),(e7 (aU im r.ar ha)),(bU gq 3 [(vI a)])] (fun (x:Bool×Int×Nat×Nat×(OA)×Nat×(List RA)×(OA)×Nat)=>bif x.1 then (vT [(Value.pointer (some ⟨x.2.2.1,0,none⟩)),(vS x.2.2.2.2.2.2.2.1 1 x.2.2.2.2.2.2.2.2),(vI 0)]) else (vT [(Value.pointer none),(vS none 0 0),(vI x.2.1)])) (fun (x:Bool×Int×Nat×Nat×(OA)×Nat×(List RA)×(OA)×Nat)=>(x.1=true→(jt r a=0∧x.2.2.2.2.2.2.1.length=r.ar.length))∧(x.1=false→(x.2.1=jt r a∧ ¬ jt r a=0))) (fun (x:Bool×Int×Nat×Nat×(OA)×Nat×(List RA)×(OA)×Nat)=>bif x.1 then [(bU x.2.2.1 91 (fM.cells (fM.mk (oD r kA kC cA cC bA bC slA slC drA drC heA heC) (bp.mk x.2.2.2.2.1 ((cL r).length) x.2.2.2.2.2.1) (Value.map (some x.2.2.2.1))))),(own x.2.2.2.2.1 x.2.2.2.2.2.1 82 1 (List.zipWith D7 (cL r) x.2.2.2.2.2.2.1)),(bu (aU Dn (cL r) x.2.2.2.2.2.2.1)),(hE iV x.2.2.2.1 (bG db (aA r))),(own x.2.2.2.2.2.2.2.1 x.2.2.2.2.2.2.2.2 40 2 ([(aB (aA r) a)].map aa.cells))] else []):=by
 have y:=hin.line
 have AO:=hin.iN
 have AP:=hin.has
 have AG:=hin.iM
 have AF:=hin.draw
 have g:=dB (r:=r)
 refine di kr Tryz.func35 U U fun w0 Q hQ hN=>?_
 try dsimp only
 refine WS fun _ w=>fQ U fun b2=>a_ 3 U<|RK w<|WS fun _ N=>rP 1 [] (mc 0 U I) ?_
 refine cX (ob r kA kC az cA cC bA bC slA slC drA drC ha heA heC hin) (bf [1,2,3,4,5,6,7,8,9]) U fun y4 j=>?_
 obtain ⟨k,AN,F,E,m,B,C⟩:=y4
 cases k
 ·obtain ⟨e,he⟩:=j.2 rfl
  try dsimp only at e he
  subst e
  try dsimp only [cond_true,cond_false,List.cons_append,List.nil_append]
  refine a_ 5 U<|RK N<|ai fun _ AB=>WS fun _ H=>rP 2 [] I ?_
  refine RK H<|bM U (bj fun G=>?_) (bk fun G=>?_)
  ·exact absurd G he
  refine WS fun _ AS=>rP 4 [] I ?_
  refine RK AS<|ao<|LX hQ (false,(cr r),0,0,none,0,[],none,0) [] [] I U (by rfl) U U ?_
  exact rG<|LS (Je (i:=a) he) he
 obtain ⟨he,h⟩:=j.1 rfl
 try dsimp only [cond_true,cond_false,List.cons_append,List.nil_append]
 refine a_ 5 U<|RK N<|ai fun _ J=>WS fun _ K=>a_ 1 U<|rS (SX (bS (r:= .bool false) U U U j6) U U)<|RK K<|aW U<|WK J<|ai fun _ L=>WS fun _ A=>rP 2 [] I ?_
 refine rS (CL (dV.eq (AD r kA kC az cA cC bA bC slA slC drA drC ha heA heC C m B (Value.map (some E)) F ([a]) (some ⟨gq,0,none⟩) 1 hin (by (simp; done))) cR) (lH [6,7,8,9,10,11,12,13]<|aq (ag (n:=(cL r).length) 1 U (mR (by rw [g]; exact h)))<|aq (dy 2 U s7)<|fq 0 U U<|aq (oe 14 U U (by simp [bE]) U)<|aJ) U) ?_
 refine rP 2 [] I ?_
 refine cN (t:=26) U (bk fun v=>?_) (bj fun v=>?_)
 ·refine a_ 3 U<|a_ 4 U<|a_ 2 U<|RK A<|aO U<|WS fun _ M=>rP 3 [] I ?_
  refine RK M<|ao<|LX hQ (false,2,0,0,none,0,[],none,0) [] [] I U (by rfl) U U ?_
  exact rG<|pQ (KZ (i:=a) he om)
 refine rP 1 [] I ?_
 refine cX (xz (some ⟨gq,0,none⟩) 1 1) (aJ) U fun q AH=>?_
 try dsimp only
 refine cX (wo ([a]) (some ⟨gq,0,none⟩) 1 q (by (simp; done))) (aq (oe 15 U U (by simp [bE]) U)<|fq 0 U U<|aJ) U fun AA AI=>?_
 obtain ⟨o,s⟩:=AA
 try dsimp only
 try dsimp only
 refine iP 0 U U U U (D0 (dg ([a])) o s (by (simp; done))) U kd U (fun AQ AJ=>?_)
 try dsimp only
 refine a_ 3 U<|rS (SX (bS (r:= .bool false) U U U gQ) U U)<|a_ 1 U<|RK A<|aW U<|WK L<|WS fun _ O=>a_ 1 U<|RK O<|ai fun _ P=>WS fun _ R=>a_ 3 U<|RK R<|ax<|jE 2<|eg fun R33 d=>WS fun _ S=>rS (SX (bS (r:= .bool true) U U U gQ) U U)<|RK S<|ai fun _ T=>aO U<|WK T<|ai fun _ AR=>ax<|WS fun _ V=>rS (TR 0 0 U cv U dc U)<|fy 2 [] (mr 16 U I) U<|RK V<|WS fun _ W=>a_ 1 U<|rS (SX (bI U U) U U)<|fy 3 [] (mc 2 U I) U<|rS (SX (kx (kV:=iV) (x:=a) (l:=(aA r)) (f:=db) (z:=(aa.mk 0 0)) U U U l8 (dK oz) xH (by exact aD 5 U)) U U)<|a_ 3 U<|AL U cZ fun AK=>fO U cp U<|rP 1 [] I ?_
 refine RK W<|ai fun _ X=>WS fun _ Y=>?_
 rw [show ((List.lookup a (aA r)).getD (aa.mk 0 0))=(aB (aA r) a) from rfl]
 refine rP 2 [] I ?_
 refine RK Y<|cy U (fun D=>?_) (fun D=>?_)
 ·rw [Bool.not_eq_true'] at D
  refine WS fun _ Z=>rP 3 [] I ?_
  refine RK Z<|ao<|LX hQ (false,6,0,0,none,0,[],none,0) [] [] I U (by rfl) U U ?_
  exact rG<|pQ (yO (i:=a) he om asm)
 rw [Bool.not_eq_false'] at D
 refine WK X<|ak<|rP 2 [] (mc 0 U I) ?_
 refine cV (xs:=[.tmp 54]) (cs:=(aa.cells (aB (aA r) a))) U jF cZ U U U U (by simp [Value.cells,aa.aV]) U U fun AM=>dH 40 2<|c_ (es2:=(List.map aa.cells ([(aB (aA r) a)]))) (m':=([(aB (aA r) a)]).length) 0 U U U Ei U U sm (aZ (es:=List.map aa.cells [(aB (aA r) a)]) 1 U U (by simp [aa.aV]) U) (gU _) sm (by simp [maxLen]) sm sm U fun p u=>?_
 try dsimp only
 refine a_ 1 U<|aF<|aG<|KK AR<|ak<|rS (SX (bS (r:= .int .i64 1) U U U (gY ⟨dc,dc⟩)) U U)<|a_ 1 U<|RK d<|eg fun R46 AE=>WS fun _ b=>rS (SX (bS (r:= .bool false) U U U gQ) U U)<|RK b<|ai fun _ AC=>aW U<|bw<|ab<|ab<|ay<|KK P<|WS fun _ c=>rP 5 [] I ?_
 refine RK c<|ao ?_
 refine LX hQ (true,0,F,E,m,B,C,p,u) [5,6,7,8,0] [] I U (by (show List.all _ _=true; simp only [cond_true,fG,List.all_nil,wD,Bool.and_true]; rfl)) U U ?_
 exact ⟨fun _=>⟨FQ he om asm,h⟩,Ng⟩
end
section
open Go.RowKit
theorem yH (r:bT) (kA:OA) (kC:Nat) (az:List RA) (cA:OA) (cC:Nat) (bA:OA) (bC:Nat) (slA:OA) (slC:Nat) (drA:OA) (drC:Nat) (ha:List cM) (heA:OA) (heC:Nat) (a b:Int) (gq:Nat) (hin:eW r az ha):
 lD Tryz.prog 35 [(vA (cm.cells (oD r kA kC cA cC bA bC slA slC drA drC heA heC))),(vS (some ⟨gq,0,none⟩) 2 2)] [(rd eJ 3 2 dJ),(rd kA r.an.aN.length 9 (r.an.aN.map al.cells)),(rd cA r.an.aj.length 2 (List.zipWith av.cells r.an.aj az)),(e7 (aU av.g0 r.an.aj az)),(rd bA r.an.ae.length 4 (r.an.ae.map bB.cells)),(rd slA r.aK.length 1 (r.aK.map iC)),(rd drA r.bL.length 1 (r.bL.map iC)),(rd heA r.ar.length 1 (List.zipWith cJ r.ar ha)),(e7 (aU im r.ar ha)),(bU gq 3 [(vI a),(vI b)])] (fun (x:Bool×Int×Nat×Nat×(OA)×Nat×(List RA)×(OA)×Nat)=>bif x.1 then (vT [(Value.pointer (some ⟨x.2.2.1,0,none⟩)),(vS x.2.2.2.2.2.2.2.1 2 x.2.2.2.2.2.2.2.2),(vI 0)]) else (vT [(Value.pointer none),(vS none 0 0),(vI x.2.1)])) (fun (x:Bool×Int×Nat×Nat×(OA)×Nat×(List RA)×(OA)×Nat)=>(x.1=true→(ld r a b=0∧x.2.2.2.2.2.2.1.length=r.ar.length))∧(x.1=false→(x.2.1=ld r a b∧ ¬ ld r a b=0))) (fun (x:Bool×Int×Nat×Nat×(OA)×Nat×(List RA)×(OA)×Nat)=>bif x.1 then [(bU x.2.2.1 91 (fM.cells (fM.mk (oD r kA kC cA cC bA bC slA slC drA drC heA heC) (bp.mk x.2.2.2.2.1 ((cL r).length) x.2.2.2.2.2.1) (Value.map (some x.2.2.2.1))))),(own x.2.2.2.2.1 x.2.2.2.2.2.1 82 1 (List.zipWith D7 (cL r) x.2.2.2.2.2.2.1)),(bu (aU Dn (cL r) x.2.2.2.2.2.2.1)),(hE iV x.2.2.2.1 (bG db (aA r))),(own x.2.2.2.2.2.2.2.1 x.2.2.2.2.2.2.2.2 40 2 ([(aB (aA r) a),(aB (aA r) b)].map aa.cells))] else []):=by
 have AM:=hin.line
 have Ae:=hin.iN
 have Af:=hin.has
 have AS:=hin.iM
 have AR:=hin.draw
 have v:=dB (r:=r)
 refine di kr Tryz.func35 U U fun w0 Q hQ hN=>?_
 try dsimp only
 refine WS fun _ AK=>fQ U fun b2=>a_ 3 U<|RK AK<|WS fun _ N=>rP 1 [] (mc 0 U I) ?_
 refine cX (ob r kA kC az cA cC bA bC slA slC drA drC ha heA heC hin) (bf [1,2,3,4,5,6,7,8,9]) U fun y4 y=>?_
 obtain ⟨AA,Ac,F,E,AB,C,D⟩:=y4
 cases AA
 ·obtain ⟨u,he⟩:=y.2 rfl
  try dsimp only at u he
  subst u
  try dsimp only [cond_true,cond_false,List.cons_append,List.nil_append]
  refine a_ 5 U<|RK N<|ai fun _ AO=>WS fun _ H=>rP 2 [] I ?_
  refine RK H<|bM U (bj fun G=>?_) (bk fun G=>?_)
  ·exact absurd G he
  refine WS fun _ Ai=>rP 4 [] I ?_
  refine RK Ai<|ao<|LX hQ (false,(cr r),0,0,none,0,[],none,0) [] [] I U (by rfl) U U ?_
  exact rG<|LS (LO (a:=a) (b:=b) he) he
 obtain ⟨he,w⟩:=y.1 rfl
 try dsimp only [cond_true,cond_false,List.cons_append,List.nil_append]
 refine a_ 5 U<|RK N<|ai fun _ J=>WS fun _ K=>a_ 1 U<|rS (SX (bS (r:= .bool false) U U U j6) U U)<|RK K<|aW U<|WK J<|ai fun _ L=>WS fun _ B=>rP 2 [] I ?_
 refine rS (CL (dV.eq (AD r kA kC az cA cC bA bC slA slC drA drC ha heA heC D AB C (Value.map (some E)) F ([a,b]) (some ⟨gq,0,none⟩) 2 hin (by (simp; done))) qQ) (lH [6,7,8,9,10,11,12,13]<|aq (ag (n:=(cL r).length) 1 U (mR (by rw [v]; exact w)))<|aq (dy 2 U s7)<|fq 0 U U<|aq (oe 14 U U (by simp [bE]) U)<|aJ) U) ?_
 refine rP 2 [] I ?_
 refine cN (t:=26) U (bk fun AI=>?_) (bj fun AI=>?_)
 ·refine a_ 3 U<|a_ 4 U<|a_ 2 U<|RK B<|aO U<|WS fun _ M=>rP 3 [] I ?_
  refine RK M<|ao<|LX hQ (false,2,0,0,none,0,[],none,0) [] [] I U (by rfl) U U ?_
  exact rG<|pQ (Bd (a:=a) (b:=b) he om)
 refine rP 1 [] I ?_
 refine cX (xz (some ⟨gq,0,none⟩) 2 2) (aJ) U fun AF AT=>?_
 try dsimp only
 refine cX (wo ([a,b]) (some ⟨gq,0,none⟩) 2 AF (by (simp; done))) (aq (oe 15 U U (by simp [bE]) U)<|fq 0 U U<|aJ) U fun AN AU=>?_
 obtain ⟨AC,AG⟩:=AN
 try dsimp only
 try dsimp only
 refine iP 0 U U U U (DR (dg ([a,b])) AC AG (by (simp; done))) U kd U (fun Ag AV=>?_)
 try dsimp only
 refine rP 3 [] I ?_
 have Ad:=Jj a b
 refine rP 2 [] I ?_
 refine RK B<|cy U (aP fun AJ=>?_) (aQ fun AJ=>?_)
 ·refine WS fun _ O=>rP 3 [] I ?_
  refine RK O<|ao<|LX hQ (false,2,0,0,none,0,[],none,0) [] [] I U (by rfl) U U ?_
  exact rG<|pQ (Bd (a:=a) (b:=b) he om)
 refine WK L<|WS fun _ P=>a_ 1 U<|RK P<|ai fun _ R=>WS fun _ S=>a_ 3 U<|RK S<|ax<|jE 3<|eg fun R35 q=>WS fun _ T=>rS (SX (bS (r:= .bool true) U U U gQ) U U)<|RK T<|ai fun _ Ah=>aO U<|WK Ah<|ai fun _ V=>ax<|WS fun _ W=>rS (TR 0 0 U cv U dc U)<|fy 2 [] (mr 16 U I) U<|RK W<|WS fun _ X=>a_ 1 U<|rS (SX (bI U U) U U)<|fy 3 [] (mc 2 U I) U<|rS (SX (kx (kV:=iV) (x:=a) (l:=(aA r)) (f:=db) (z:=(aa.mk 0 0)) U U U l8 (dK oz) xH (by exact aD 5 U)) U U)<|a_ 3 U<|AL U cZ fun AX=>fO U cp U<|rP 1 [] I ?_
 refine RK X<|ai fun _ Y=>WS fun _ Z=>?_
 rw [show ((List.lookup a (aA r)).getD (aa.mk 0 0))=(aB (aA r) a) from rfl]
 refine rP 2 [] I ?_
 refine RK Z<|cy U (fun A=>?_) (fun A=>?_)
 ·rw [Bool.not_eq_true'] at A
  refine WS fun _ c=>rP 3 [] I ?_
  refine RK c<|ao<|LX hQ (false,6,0,0,none,0,[],none,0) [] [] I U (by rfl) U U ?_
  exact rG<|pQ (yY (a:=a) (b:=b) he om (by exact .inl asm))
 rw [Bool.not_eq_false'] at A
 refine WK Y<|ak<|rP 2 [] (mc 0 U I) ?_
 refine cV (xs:=[.tmp 54]) (cs:=(aa.cells (aB (aA r) a))) U jF cZ U U U U (by simp [Value.cells,aa.aV]) U U fun AY=>dH 40 2<|c_ (es2:=(List.map aa.cells ([(aB (aA r) a)]))) (m':=([(aB (aA r) a)]).length) 0 U U U Ei U U sm (aZ (es:=List.map aa.cells [(aB (aA r) a)]) 1 U U (by simp [aa.aV]) U) (gU _) sm (by simp [maxLen]) sm sm U fun AW Ab=>?_
 try dsimp only
 refine a_ 1 U<|aF<|aG<|KK V<|ak<|rS (SX (bS (r:= .int .i64 1) U U U (gY ⟨dc,dc⟩)) U U)<|a_ 1 U<|RK q<|eg fun R48 s=>WS fun _ d=>rS (SX (bS (r:= .bool true) U U U gQ) U U)<|RK d<|ai fun _ e=>aO U<|WK e<|ai fun _ g=>ax<|WS fun _ h=>rS (TR 1 1 U cv U dc U)<|fy 2 [] (mr 19 U I) U<|RK h<|WS fun _ i=>a_ 1 U<|rS (SX (bI U U) U U)<|fy 3 [] (mc 5 U I) U<|rS (SX (kx (kV:=iV) (x:=b) (l:=(aA r)) (f:=db) (z:=(aa.mk 0 0)) U U U l8 (dK oz) xH (by exact aD 8 U)) U U)<|a_ 3 U<|AL U cZ fun AZ=>fO U cp U<|rP 1 [] I ?_
 refine RK i<|ai fun _ j=>WS fun _ k=>?_
 rw [show ((List.lookup b (aA r)).getD (aa.mk 0 0))=(aB (aA r) b) from rfl]
 refine rP 2 [] I ?_
 refine RK k<|cy U (fun A=>?_) (fun A=>?_)
 ·rw [Bool.not_eq_true'] at A
  refine WS fun _ m=>rP 3 [] I ?_
  refine RK m<|ao<|LX hQ (false,6,0,0,none,0,[],none,0) [] [] I U (by rfl) U U ?_
  exact rG<|pQ (yY (a:=a) (b:=b) he om (by exact .inr asm))
 rw [Bool.not_eq_false'] at A
 refine WK j<|ak<|rP 2 [] (mc 0 U I) ?_
 refine cV (xs:=[.tmp 54]) (cs:=(aa.cells (aB (aA r) b))) U jF cZ U U U U (by simp [Value.cells,aa.aV]) U U fun Aa=>c_ (es2:=(List.map aa.cells ([(aB (aA r) a),(aB (aA r) b)]))) (m':=([(aB (aA r) a),(aB (aA r) b)]).length) 2 U U U Ei U U sm (aZ (es:=List.map aa.cells [(aB (aA r) b)]) 0 U U (by simp [aa.aV]) U) (gU _) sm (by simp [maxLen]) sm sm U fun AE AH=>?_
 try dsimp only
 refine a_ 1 U<|aF<|aG<|KK g<|ak<|rS (SX (bS (r:= .int .i64 2) U U U (gY ⟨dc,dc⟩)) U U)<|a_ 1 U<|RK s<|eg fun R61 AQ=>WS fun _ o=>rS (SX (bS (r:= .bool false) U U U gQ) U U)<|RK o<|ai fun _ AP=>aW U<|bw<|ab<|ab<|ay<|KK R<|WS fun _ p=>rP 5 [] I ?_
 refine RK p<|ao ?_
 refine LX hQ (true,0,F,E,AB,C,D,AE,AH) [7,8,9,10,2] [] I U (by (show List.all _ _=true; simp only [cond_true,fG,List.all_nil,wD,Bool.and_true]; rfl)) U U ?_
 exact ⟨fun _=>⟨MT he om asm asm,w⟩,Ng⟩
end
section
open Go.RowKit
theorem Md (m:qv) (gm g1:Nat):
 EF Tryz.prog 97 [] [(vP g1)] [(hE iV gm (bG vB m)),(bU g1 67 [(Value.map (some gm))])] ([]:List Int) (fun ys x ys'=> ∃ n zs,(ys++[n]++zs).Perm (m.map (·.1))∧x=[vI n]∧ys'=ys++[n]) (fun ys=>ys.Perm (m.map (·.1))):=by
 refine sV kr Tryz.func97 U U fun l J Z A0 S Q hY M L hQ hN=>?_
 try dsimp only
 refine WS fun _ O=>rP 1 [] (mr 2 U I) ?_
 refine iH (kV:=iV) (m:=bG vB m) 1 U U Cq U ⟨U,fun h=>h⟩ (by exact jW 1 U) U fun V=>?_
 try dsimp only
 refine RK O<|ax ?_
 have G:(ot m m ([]:List Int))∧(∀ p∈m,p∈m)∧(J ([]:List Int) A0)∧(Fo A0 S A0):=by exact ⟨u0,fun p hp=>hp,M,L⟩
 refine bK (ι:={z:qv×(List Int)×au // (ot m z.1 z.2.1)∧(∀ p∈z.1,p∈m)∧(J z.2.1 z.2.2)∧(Fo A0 S z.2.2)}) [0,1,5] [2,3] U U (fun z=>[]) (fun z=>[(yf iV V gm (bG vB m) (bG vB z.1.1) none),z.1.2.2]) (fun _=>rfl) (fun _=>rfl) (fun z=>z.1.1.length) ⟨(m,([]:List Int),A0),G⟩ (dw.nil _) (aI [2,3,0,1]) ?_
 clear G
 rintro ⟨⟨left,ys,A⟩,⟨B,H,C,D⟩⟩ J3 N
 try dsimp only at B H C D
 try dsimp only
 refine WS fun _ AB=>g9 (dK oz).inj (f:=Value.bool) 2 U U U U (fun T=>?_) (fun x y hm hn=>?_)
 ·refine rP 1 [] I ?_
  refine RK AB<|ai fun _ AA=>aW U<|bw<|ab<|ab<|ay ?_
  refine hN _ _ _ (gX (vs:=[]) trivial fun w hs=>JF 3 U (by rw [T] at B; exact xR B) C D hs)
 try dsimp only
 refine a_ 1 U<|RK AB<|ai fun _ P=>aO U<|WK P<|ax<|WS fun _ R=>rS (SX (g8 2 U U U) U U)<|a_ 2 U<|RK R<|WS fun _ K=>rP 2 [] I ?_
 refine kq (k:=ys) (k':=(ys++[(x)])) 3 (by first|exact hsz|exact Nat.le_refl _) hY C D U U U (by exact ⟨x,_,nQ hn hm B,U,U⟩) U U (fun B9 F E=>?_) (fun B9 F E=>?_)
 rotate_left 1
 ·refine rP 1 [] I ?_
  refine RK K<|aO U<|ao ?_
  refine hQ _ _ _ (gX (vs:=[]) trivial fun w hs=>rQ 3 U F E hs)
 refine rP 1 [] I ?_
 refine RK K<|aW U<|bV<|aG<|fP 2 U ep U ?_
 refine aR (N ⟨((cj left x),(ys++[(x)]),B9),⟨nQ hn hm B,eG H,F,E⟩⟩ _ _ _ U (dF hm) (aS U) (aI [0,1,2,3]))
theorem N4 (gm:Nat):
 lD Tryz.prog 71 [(Value.map (some gm))] [] (fun (x:Nat)=>(Value.func (.func 97) [].toArray [(vP x)].toArray)) (fun (x:Nat)=>True) (fun (x:Nat)=>[(bU x 67 [(Value.map (some gm))])]):=by
 refine di kr Tryz.func71 U U fun D Q hQ hN=>?_
 try dsimp only
 refine WS fun _ A=>uT U U fun C=>a_ 1 U<|RK A<|WS fun _ B=>rS (FU U)<|rP 1 [] I ?_
 refine RK B<|ao<|LX hQ C [0] [] I U U U U ?_
 trivial
end
section
open Go.RowKit
theorem HL (m:qv) (gm g1:Nat) (hlen:m.length≤12):
 lD Tryz.prog 94 [(vS none 0 0),(Value.func (.func 97) [].toArray [(vP g1)].toArray)] [(hE iV gm (bG vB m)),(bU g1 67 [(Value.map (some gm))])] (fun (x:(List Int)×(OA)×Nat)=>(vS x.2.1 x.1.length x.2.2)) (fun (x:(List Int)×(OA)×Nat)=>x.1.Perm (m.map (·.1))) (fun (x:(List Int)×(OA)×Nat)=>[(own x.2.1 x.2.2 3 1 (x.1.map iC))]):=by
 refine di kr Tryz.func94 U U fun X Q hQ hN=>?_
 try dsimp only
 refine WS fun _ AB=>uT U U fun N=>a_ 1 U<|RK AB<|ai fun _ J=>WS fun _ K=>rP 1 [] I ?_
 refine RK K<|ax<|kl 1 U (by exact fun _ h=>h)<|kl 3 U (by exact fun _ h=>h)<|fV 3 1 ?_
 refine nq (L0:=[(2,(vP N))]) (F:=[(hE iV gm (bG vB m)).ro,(bU g1 67 [(Value.map (some gm))]).ro]) (fun k (y:(OA)×Nat)=>(∃ zs,(k++zs).Perm (m.map (·.1)))) (fun k y=>[(own y.1 y.2 3 1 (k.map iC)),(bU N 32 [(vS y.1 k.length y.2)]),(hE iV gm (bG vB m)).ro]) (fun _ (_:Unit)=>False) (fun _ _=>[]) [0,3,4] [2,1] (none,0) rfl rfl (Md m gm g1) rfl rfl rfl (by exact ⟨_,List.Perm.refl _⟩) (by simp only [List.forall_mem_cons,List.not_mem_nil,false_imp_iff,implies_true,and_true]; exact ⟨⟨_,sm,(dC (bP _))⟩,⟨_,sm,(dC (bP _))⟩⟩) (by rintro k x AA ⟨n,zs,_,rfl,_⟩; rfl) rfl (aS rfl) ?_ ?_ (fun _ _ _ h=>h.elim) (fun _ _ h=>h.elim)
 rotate_left 1
 ·rintro V k ⟨a,c⟩ E A
  have B:=A
  try dsimp only at B
  try dsimp only
  refine aG<|KK J<|WS fun _ C=>rP 2 [] (mc 4 U I) ?_
  refine RK C<|ao<|hQ _ _ _ (ox 0 U U<|gX (vs:=[(vS a k.length c)]) ⟨U,trivial⟩ fun w hs=>JB (k,a,c) [3] ?_ ?_ U U U hs)
  ·rfl
  ·first|exact E|exact hys
 rintro k x AA ⟨a,c⟩ l ra rb S Y K5 Qr6 T hx G L D O P
 obtain ⟨n,zs,hn,rfl,rfl⟩:=hx; have M:=hn.length_eq; simp only [List.length_append,List.length_map,List.length_singleton] at M
 have B:=G
 try dsimp only at B
 try dsimp only
 refine ak<|rP 1 [] I ?_
 refine aF<|aR (L _ _ ?_)
 refine ax<|ak<|rP 2 [] (mc 2 U I) ?_
 refine cV (xs:=[.tmp 9]) (cs:=[(vI n)]) U cv ja U U U U (by simp [Value.cells]) U U fun W=>?_
 refine c_ (es2:=(List.map iC (k++[n]))) (m':=(k++[n]).length) 2 U U U pZ U U sm (aZ (es:=List.map iC [n]) 0 U U (by simp [bE]) U) (kb _) os (by simp only [maxLen]; omega) sm sm U fun R H=>?_
 try dsimp only
 refine Ul U Ai U U<|aF<|aG ?_
 exact D (R,H) _ _ (by exact ⟨_,hn⟩) (aI [1,2,3,4])
end
section
open Go.RowKit
theorem DN (m:qv) (gm g1:Nat) (hlen:m.length≤12):
 lD Tryz.prog 67 [(Value.func (.func 97) [].toArray [(vP g1)].toArray)] [(hE iV gm (bG vB m)),(bU g1 67 [(Value.map (some gm))])] (fun (x:(List Int)×(OA)×Nat)=>(vS x.2.1 x.1.length x.2.2)) (fun (x:(List Int)×(OA)×Nat)=>x.1.Perm (m.map (·.1))) (fun (x:(List Int)×(OA)×Nat)=>[(own x.2.1 x.2.2 3 1 (x.1.map iC))]):=by
 refine di kr Tryz.func67 U U fun AA Q hQ hN=>?_
 try dsimp only
 refine WS fun _ A=>a_ 1 U<|RK A<|WS fun _ B=>rP 1 [] I ?_
 refine cX (HL m gm g1 hlen) (bf [0,1]) U fun H C=>?_
 obtain ⟨E,F,G⟩:=H
 try dsimp only
 have D:=C
 refine rP 1 [] I ?_
 refine RK B<|ao<|LX hQ (E,F,G) [0] [] I U U U U ?_
 first|exact hfin|exact D
theorem HI (m:qv) (gm g1:Nat) (hlen:m.length≤12):
 lD Tryz.prog 41 [(Value.func (.func 97) [].toArray [(vP g1)].toArray)] [(hE iV gm (bG vB m)),(bU g1 67 [(Value.map (some gm))])] (fun (x:(OA)×Nat)=>(vS x.1 m.length x.2)) (fun (x:(OA)×Nat)=>True) (fun (x:(OA)×Nat)=>[(own x.1 x.2 3 1 ((dg (m.map (·.1))).map iC))]):=by
 refine di kr Tryz.func41 U U fun M Q hQ hN=>?_
 try dsimp only
 refine WS fun _ E=>a_ 1 U<|RK E<|WS fun _ F=>rP 1 [] I ?_
 refine cX (DN m gm g1 hlen) (bf [0,1]) U fun L H=>?_
 obtain ⟨AA,J,K⟩:=L
 try dsimp only
 have D:=H
 refine a_ 1 U<|RK F<|WS fun _ G=>rP 1 [] I ?_
 have B:=D.length_eq
 simp only [List.length_map] at B
 refine iP 0 U U U U (AJ AA J K om) U kd U (fun ms C=>?_)
 try dsimp only
 refine RK G<|WS fun _ A=>?_
 obtain rfl:=qs (C.1.trans D) C.2
 skip
 refine rP 2 [] I ?_
 refine RK A<|ao ?_
 refine LX hQ (J,K) [0] [] I U U U ?_ ?_
 ·first|rfl|(rw [B]; rfl)
 ·trivial
end
section
open Go.RowKit
theorem IF (m:qv) (gm:Nat):
 lD Tryz.prog 69 [(Value.map (some gm))] [(hE iV gm (bG vB m))] (fun (x:Nat)=>(Value.map (some x))) (fun (x:Nat)=>True) (fun (x:Nat)=>[(hE iV x (bG vB m))]):=by
 refine di Uk Tryz.func69 U U fun F Q hQ hN=>?_
 try dsimp only
 refine WS fun _ A=>a_ 1 U<|RK A<|ai fun _ B=>WS fun _ C=>a_ 1 U<|rS (SX (bS (r:= .bool false) U U U (QH Cq)) U U)<|RK C<|aW U<|WK B<|WS fun _ D=>rP 1 [] I ?_
 refine rS (SX (N6 U U Cq) U U)<|IG (kV:=iV) (fn:=Tryz.f95) U U Tryz.func95 U U U kr (by exact jW 0 U) U fun E=>?_
 try dsimp only
 refine rS (SX (RP U U Cq) U U)<|rP 1 [] I ?_
 refine RK D<|ao<|LX hQ E [0] [] I U U U U ?_
 trivial
end
section
open Go.RowKit
theorem HN (r:bT) (kA:OA) (kC:Nat) (cA:OA) (cC:Nat) (bA:OA) (bC:Nat) (slA:OA) (slC:Nat) (drA:OA) (drC:Nat) (heA:OA) (heC:Nat) (tA:OA) (tN tC:Nat) (gs gw:Nat) (m:gF) (i:Int) (g1 g2:Nat) (hb: ∀ p∈m,0≤p.2.Lo∧p.2.Lo≤p.2.Hi∧p.2.Hi≤30000000):
 EF Tryz.prog 96 [] [(vP g1),(vP g2)] [(bU gw 91 (fM.cells (fM.mk (oD r kA kC cA cC bA bC slA slC drA drC heA heC) (bp.mk tA tN tC) (Value.map (some gs))))),(hE iV gs (bG db m)),(bU g1 81 [(vP gw)]),(bU g2 3 [(vI i)])] ([]:List Int) (fun ys x ys'=> ∃ n,n∈(jx m i (aB m i))∧x=[vI n]∧ys'=ys++[n]) (fun ys=> ∀ n,n∈ys↔n∈(jx m i (aB m i))):=by
 have BF:=gP (i:=i) hb
 refine sV kr Tryz.func96 U U fun l J Z A0 w0 Q hY An Am hQ hN=>?_
 try dsimp only
 refine ai fun _ Ao=>dD cq [6,7] [] [] [0,1,2,3,4] [] U U U U U<|eS U (TL 3 U b_ U)<|eS U (SX (bI U U) U U)<|eS U (FA 12 U fx U)<|eS U (Ib (Value.map (some gs)) 1 U b_ U U)<|eS U (TL 4 U b_ U)<|eS U (SX (kM (kV:=iV) (x:=i) (l:=m) (f:=db) (z:=(aa.mk 0 0)) U U U l8 (dK oz) xH (by exact jW 2 U)) U U)<|eX U<|bX U fun T2 Aq=>AL U cZ fun b3=>aF (Aq _ _ (aI [1,2,3,4,5]) ?_)
 refine bX U fun T4 Ar=>fO U cp U<|aF (Ar _ _ (aI [1,2,3,4,5]) ?_)
 refine fF U<|KK Ao<|ai fun _ Ap=>WS fun _ AR=>?_
 rw [show ((List.lookup i m).getD (aa.mk 0 0))=(aB m i) from rfl]
 refine rP 3 [] (mc 0 U I) ?_
 refine kq (k:=([]:List Int)) (k':=(([]:List Int)++[((aB m i).Lo)])) 1 (by first|exact hsz|exact Nat.le_refl _) hY An Am U U U (by exact ⟨_,cf ..,U,U⟩) U U (fun B7 u s=>?_) (fun B7 u s=>?_)
 rotate_left 1
 ·refine rP 1 [] I ?_
  refine RK AR<|aO U<|ao ?_
  refine hQ _ _ _ (gX (vs:=[]) trivial fun w hs=>rQ 1 U u s hs)
 refine a_ 1 U<|RK AR<|aW U<|WK Ap<|WS fun _ AA=>fy 1 [] (mr 4 U I) U<|rS (SX (bI U U) U U)<|rP 2 [] (mr 2 U I) ?_
 refine iH (kV:=iV) (m:=bG db m) 3 U U l8 U ⟨U,fun h=>h⟩ (by exact jW 3 U) U fun At=>?_
 try dsimp only
 refine RK AA<|ax ?_
 have j:(yI m i (aB m i) m (([]:List Int)++[((aB m i).Lo)]))∧(∀ p∈m,p∈m)∧(J (([]:List Int)++[((aB m i).Lo)]) B7)∧(Fo A0 w0 B7):=by exact ⟨LI,fun p hp=>hp,asm,asm⟩
 refine bK (ι:={z:gF×(List Int)×au // (yI m i (aB m i) z.1 z.2.1)∧(∀ p∈z.1,p∈m)∧(J z.2.1 z.2.2)∧(Fo A0 w0 z.2.2)}) [0,1,2,4,24] [1,3,4,5,6] U U (fun z=>[]) (fun z=>[(yf iV At gs (bG db m) (bG db z.1.1) none),z.1.2.2]) (fun _=>rfl) (fun _=>rfl) (fun z=>z.1.1.length) ⟨(m,(([]:List Int)++[((aB m i).Lo)]),B7),j⟩ (dw.nil _) (aI [1,3,4,5,6,0,2]) ?_
 clear j
 rintro ⟨⟨left,ys,A⟩,⟨D,B,E,F⟩⟩ J12 G
 try dsimp only at D B E F
 try dsimp only
 refine WS fun _ o=>g9 (dK oz).inj (f:=db) 5 U U U U (fun q=>?_) (fun x y hm hn=>?_)
 ·refine rP 1 [] I ?_
  refine RK o<|ai fun _ Au=>aW U<|bw<|ab<|ab<|ay ?_
  refine hN _ _ _ (gX (vs:=[]) trivial fun w hs=>JF 6 U (by rw [q] at D; exact N5 D) E F hs)
 try dsimp only
 refine a_ 1 U<|RK o<|ai fun _ AB=>aO U<|WK AB<|ax<|WS fun _ AC=>rS (SX (g8 5 U U U) U U)<|a_ 2 U<|AL U cZ fun BE=>a_ 1 U<|fO U cp U<|RK AC<|WS fun _ AD=>rP 1 [] I ?_
 have As:=hb _ (B _ hm)
 dsimp only at As
 refine fy 5 [] (mc 0 U I) U<|rS (SX (bh (xs:=[(0,.tmp 32),(1,.tmp 35)]) (cs:=[(vI (y.Lo+1)),(vI (y.Hi+1))]) U U (bg S6 U)) U U)<|a_ 1 U<|RK AD<|ax<|jE 3<|eg fun R19 c=>WS fun _ AE=>rS (SX (bS (r:= .bool true) U U U gQ) U U)<|RK AE<|ai fun _ AF=>aO U<|WK AF<|ai fun _ X=>ax<|WS fun _ AG=>rS (SX (qX (v:=(vI (y.Lo+1))) 0 U U U Gd b_ U dc U) U U)<|a_ 1 U<|RK AG<|WS fun _ M=>rP 4 [] (mr 5 U I) ?_
 refine bZ (t:=43) U (bj fun q=>?_) (bk fun q=>?_)
 ·refine a_ 14 U<|RK M<|aW U<|bV<|aG<|KK X<|ak<|rS (SX (bS (r:= .int .i64 1) U U U (gY ⟨dc,dc⟩)) U U)<|a_ 1 U<|RK c<|eg fun R73 g=>WS fun _ AV=>rS (SX (bS (r:= .bool true) U U U gQ) U U)<|RK AV<|ai fun _ AW=>aO U<|WK AW<|ai fun _ b=>ax<|WS fun _ AX=>rS (SX (qX (v:=(vI (y.Hi+1))) 1 U U U Gd b_ U dc U) U U)<|a_ 1 U<|RK AX<|WS fun _ P=>rP 4 [] (mr 5 U I) ?_
  refine bZ (t:=43) U (bj fun Ak=>?_) (bk fun Ak=>?_)
  ·refine a_ 14 U<|RK P<|aW U<|bV<|aG<|KK b<|ak<|rS (SX (bS (r:= .int .i64 2) U U U (gY ⟨dc,dc⟩)) U U)<|rP 1 [] I ?_
   refine RK g<|eg fun R91 BC=>WS fun _ Aa=>rS (SX (bS (r:= .bool false) U U U gQ) U U)<|RK Aa<|ai fun _ A4=>aW U<|bw<|ab<|ab<|ay<|aG<|fP 6 U ep U ?_
   refine aR (G ⟨((cj left x),ys,A),⟨kY hn hm B D (fun n C=>by first|exact C|(simp [C]; done)) (fun n C=>by exact .inl C) (fun L n C K=>by simp only [ed,List.not_mem_nil,or_false] at C; rcases C with rfl|rfl<;>first|(simp; done)|(exfalso; omega)),eG B,E,F⟩⟩ _ _ _ rfl (dF hm) (aS rfl) (aI [1,2,3,4,5,6,7]))
  refine fy 5 [] (mc 1 U I) U<|cV (xs:=[.tmp 48]) (cs:=[(vI (y.Hi+1))]) U cv ja U U U U (by simp [Value.cells]) U U fun Ae=>rS (CL (dV.eq (j2 ((aB m i).Lo) ((aB m i).Hi) ([(y.Hi+1)]) (some ⟨Ae,0,none⟩) 1 om) cR) (aq (aZ 0 U U (by simp [bE]) U)<|aJ) U)<|rP 2 [] I ?_
  refine bZ (t:=52) U (aQ fun Al=>?_) (aP fun Al=>?_)
  ·refine a_ 5 U<|RK P<|aW U<|bV<|aG<|KK b<|ak<|rS (SX (bS (r:= .int .i64 2) U U U (gY ⟨dc,dc⟩)) U U)<|rP 1 [] I ?_
   refine RK g<|eg fun R88 BB=>WS fun _ AZ=>rS (SX (bS (r:= .bool false) U U U gQ) U U)<|RK AZ<|ai fun _ A3=>aW U<|bw<|ab<|ab<|ay<|aG<|fP 7 U ep U ?_
   refine aR (G ⟨((cj left x),ys,A),⟨kY hn hm B D (fun n C=>by first|exact C|(simp [C]; done)) (fun n C=>by exact .inl C) (fun L n C K=>by simp only [ed,List.not_mem_nil,or_false] at C; rcases C with rfl|rfl<;>first|(simp; done)|(exfalso; omega)),eG B,E,F⟩⟩ _ _ _ rfl (dF hm) (aS rfl) (aI [2,3,4,5,6,7,8]))
  refine rP 2 [] I ?_
  refine kq (k:=ys) (k':=(ys++[((y.Hi+1))])) 8 (by first|exact hsz|exact Nat.le_refl _) hY E F U U U (by exact ⟨_,mJ (B _ hm) dso (by first|exact .inl rfl|exact .inr U) om,U,U⟩) U U (fun B82 W T=>?_) (fun B82 W T=>?_)
  rotate_left 1
  ·refine rP 2 [] I ?_
   refine RK P<|aO U<|ao ?_
   refine hQ _ _ _ (gX (vs:=[]) trivial fun w hs=>rQ 8 U W T hs)
  refine a_ 2 U<|RK P<|aW U<|bV<|aG<|KK b<|ak<|rS (SX (bS (r:= .int .i64 2) U U U (gY ⟨dc,dc⟩)) U U)<|rP 1 [] I ?_
  refine RK g<|eg fun R85 BA=>WS fun _ AY=>rS (SX (bS (r:= .bool false) U U U gQ) U U)<|RK AY<|ai fun _ A2=>aW U<|bw<|ab<|ab<|ay<|aG<|fP 7 U ep U ?_
  refine aR (G ⟨((cj left x),(ys++[((y.Hi+1))]),B82),⟨kY hn hm B D (fun n C=>by first|exact C|(simp [C]; done)) (fun n C=>by (simp only [kB,bR] at C; rcases C with C|rfl<;>first|exact .inl C|exact .inr (mJ (B _ hm) dso sm om))) (fun L n C K=>by simp only [ed,List.not_mem_nil,or_false] at C; rcases C with rfl|rfl<;>first|(simp; done)|(exfalso; omega)),eG B,W,T⟩⟩ _ _ _ rfl (dF hm) (aS rfl) (aI [2,3,4,5,6,7,8]))
 refine rP 5 [] (mc 1 U I) ?_
 refine cV (xs:=[.tmp 48]) (cs:=[(vI (y.Lo+1))]) U cv ja U U U U (by simp [Value.cells]) U U fun Ab=>?_
 refine rS (CL (dV.eq (j2 ((aB m i).Lo) ((aB m i).Hi) ([(y.Lo+1)]) (some ⟨Ab,0,none⟩) 1 (by (simp; done))) cR) (aq (aZ 0 U U (by simp [bE]) U)<|aJ) U) ?_
 refine rP 2 [] I ?_
 refine bZ (t:=52) U (aQ fun Af=>?_) (aP fun Af=>?_)
 ·refine a_ 5 U<|RK M<|aW U<|bV<|aG<|KK X<|ak<|rS (SX (bS (r:= .int .i64 1) U U U (gY ⟨dc,dc⟩)) U U)<|a_ 1 U<|RK c<|eg fun R52 e=>WS fun _ AO=>rS (SX (bS (r:= .bool true) U U U gQ) U U)<|RK AO<|ai fun _ AP=>aO U<|WK AP<|ai fun _ a=>ax<|WS fun _ AQ=>rS (SX (qX (v:=(vI (y.Hi+1))) 1 U U U Gd b_ U dc U) U U)<|a_ 1 U<|RK AQ<|WS fun _ O=>rP 4 [] (mr 6 U I) ?_
  refine bZ (t:=43) U (bj fun Ai=>?_) (bk fun Ai=>?_)
  ·refine a_ 14 U<|RK O<|aW U<|bV<|aG<|KK a<|ak<|rS (SX (bS (r:= .int .i64 2) U U U (gY ⟨dc,dc⟩)) U U)<|rP 1 [] I ?_
   refine RK e<|eg fun R70 A_=>WS fun _ AU=>rS (SX (bS (r:= .bool false) U U U gQ) U U)<|RK AU<|ai fun _ A1=>aW U<|bw<|ab<|ab<|ay<|aG<|fP 7 U ep U ?_
   refine aR (G ⟨((cj left x),ys,A),⟨kY hn hm B D (fun n C=>by first|exact C|(simp [C]; done)) (fun n C=>by exact .inl C) (fun L n C K=>by simp only [ed,List.not_mem_nil,or_false] at C; rcases C with rfl|rfl<;>first|(simp; done)|(exfalso; omega)),eG B,E,F⟩⟩ _ _ _ rfl (dF hm) (aS rfl) (aI [2,3,4,5,6,7,8]))
  refine rP 5 [] (mc 2 U I) ?_
  refine cV (xs:=[.tmp 48]) (cs:=[(vI (y.Hi+1))]) U cv ja U U U U (by simp [Value.cells]) U U fun Ad=>?_
  refine rS (CL (dV.eq (j2 ((aB m i).Lo) ((aB m i).Hi) ([(y.Hi+1)]) (some ⟨Ad,0,none⟩) 1 (by (simp; done))) cR) (aq (aZ 0 U U (by simp [bE]) U)<|aJ) U) ?_
  refine rP 2 [] I ?_
  refine bZ (t:=52) U (aQ fun Aj=>?_) (aP fun Aj=>?_)
  ·refine a_ 5 U<|RK O<|aW U<|bV<|aG<|KK a<|ak<|rS (SX (bS (r:= .int .i64 2) U U U (gY ⟨dc,dc⟩)) U U)<|rP 1 [] I ?_
   refine RK e<|eg fun R67 A9=>WS fun _ AT=>rS (SX (bS (r:= .bool false) U U U gQ) U U)<|RK AT<|ai fun _ Az=>aW U<|bw<|ab<|ab<|ay<|aG<|fP 8 U ep U ?_
   refine aR (G ⟨((cj left x),ys,A),⟨kY hn hm B D (fun n C=>by first|exact C|(simp [C]; done)) (fun n C=>by exact .inl C) (fun L n C K=>by simp only [ed,List.not_mem_nil,or_false] at C; rcases C with rfl|rfl<;>first|(simp; done)|(exfalso; omega)),eG B,E,F⟩⟩ _ _ _ rfl (dF hm) (aS rfl) (aI [3,4,5,6,7,8,9]))
  refine rP 2 [] I ?_
  refine kq (k:=ys) (k':=(ys++[((y.Hi+1))])) 9 (by first|exact hsz|exact Nat.le_refl _) hY E F U U U (by exact ⟨_,mJ (B _ hm) dso (by first|exact .inl rfl|exact .inr U) om,U,U⟩) U U (fun B61 V S=>?_) (fun B61 V S=>?_)
  rotate_left 1
  ·refine rP 2 [] I ?_
   refine RK O<|aO U<|ao ?_
   refine hQ _ _ _ (gX (vs:=[]) trivial fun w hs=>rQ 9 U V S hs)
  refine a_ 2 U<|RK O<|aW U<|bV<|aG<|KK a<|ak<|rS (SX (bS (r:= .int .i64 2) U U U (gY ⟨dc,dc⟩)) U U)<|rP 1 [] I ?_
  refine RK e<|eg fun R64 A8=>WS fun _ AS=>rS (SX (bS (r:= .bool false) U U U gQ) U U)<|RK AS<|ai fun _ Ay=>aW U<|bw<|ab<|ab<|ay<|aG<|fP 8 U ep U ?_
  refine aR (G ⟨((cj left x),(ys++[((y.Hi+1))]),B61),⟨kY hn hm B D (fun n C=>by first|exact C|(simp [C]; done)) (fun n C=>by (simp only [kB,bR] at C; rcases C with C|rfl<;>first|exact .inl C|exact .inr (mJ (B _ hm) dso sm om))) (fun L n C K=>by simp only [ed,List.not_mem_nil,or_false] at C; rcases C with rfl|rfl<;>first|(simp; done)|(exfalso; omega)),eG B,V,S⟩⟩ _ _ _ rfl (dF hm) (aS rfl) (aI [3,4,5,6,7,8,9]))
 refine rP 2 [] I ?_
 refine kq (k:=ys) (k':=(ys++[((y.Lo+1))])) 8 (by first|exact hsz|exact Nat.le_refl _) hY E F U U U (by exact ⟨_,mJ (B _ hm) dso (by first|exact .inl rfl|exact .inr U) om,U,U⟩) U U (fun B28 BG H=>?_) (fun B28 BG H=>?_)
 rotate_left 1
 ·refine rP 2 [] I ?_
  refine RK M<|aO U<|ao ?_
  refine hQ _ _ _ (gX (vs:=[]) trivial fun w hs=>rQ 8 U BG H hs)
 refine a_ 2 U<|RK M<|aW U<|bV<|aG<|KK X<|ak<|rS (SX (bS (r:= .int .i64 1) U U U (gY ⟨dc,dc⟩)) U U)<|a_ 1 U<|RK c<|eg fun R31 d=>WS fun _ AH=>rS (SX (bS (r:= .bool true) U U U gQ) U U)<|RK AH<|ai fun _ AI=>aO U<|WK AI<|ai fun _ Y=>ax<|WS fun _ AJ=>rS (SX (qX (v:=(vI (y.Hi+1))) 1 U U U Gd b_ U dc U) U U)<|a_ 1 U<|RK AJ<|WS fun _ N=>rP 4 [] (mr 6 U I) ?_
 refine bZ (t:=43) U (bj fun Ag=>?_) (bk fun Ag=>?_)
 ·refine a_ 14 U<|RK N<|aW U<|bV<|aG<|KK Y<|ak<|rS (SX (bS (r:= .int .i64 2) U U U (gY ⟨dc,dc⟩)) U U)<|rP 1 [] I ?_
  refine RK d<|eg fun R49 A7=>WS fun _ AN=>rS (SX (bS (r:= .bool false) U U U gQ) U U)<|RK AN<|ai fun _ Ax=>aW U<|bw<|ab<|ab<|ay<|aG<|fP 7 U ep U ?_
  refine aR (G ⟨((cj left x),(ys++[((y.Lo+1))]),B28),⟨kY hn hm B D (fun n C=>by first|exact C|(simp [C]; done)) (fun n C=>by (simp only [kB,bR] at C; rcases C with C|rfl<;>first|exact .inl C|exact .inr (mJ (B _ hm) dso sm om))) (fun L n C K=>by simp only [ed,List.not_mem_nil,or_false] at C; rcases C with rfl|rfl<;>first|(simp; done)|(exfalso; omega)),eG B,BG,H⟩⟩ _ _ _ rfl (dF hm) (aS rfl) (aI [2,3,4,5,6,7,8]))
 refine rP 5 [] (mc 2 U I) ?_
 refine cV (xs:=[.tmp 48]) (cs:=[(vI (y.Hi+1))]) U cv ja U U U U (by simp [Value.cells]) U U fun Ac=>?_
 refine rS (CL (dV.eq (j2 ((aB m i).Lo) ((aB m i).Hi) ([(y.Hi+1)]) (some ⟨Ac,0,none⟩) 1 (by (simp; done))) cR) (aq (aZ 0 U U (by simp [bE]) U)<|aJ) U) ?_
 refine rP 2 [] I ?_
 refine bZ (t:=52) U (aQ fun Ah=>?_) (aP fun Ah=>?_)
 ·refine a_ 5 U<|RK N<|aW U<|bV<|aG<|KK Y<|ak<|rS (SX (bS (r:= .int .i64 2) U U U (gY ⟨dc,dc⟩)) U U)<|rP 1 [] I ?_
  refine RK d<|eg fun R46 A6=>WS fun _ AM=>rS (SX (bS (r:= .bool false) U U U gQ) U U)<|RK AM<|ai fun _ Aw=>aW U<|bw<|ab<|ab<|ay<|aG<|fP 8 U ep U ?_
  refine aR (G ⟨((cj left x),(ys++[((y.Lo+1))]),B28),⟨kY hn hm B D (fun n C=>by first|exact C|(simp [C]; done)) (fun n C=>by (simp only [kB,bR] at C; rcases C with C|rfl<;>first|exact .inl C|exact .inr (mJ (B _ hm) dso sm om))) (fun L n C K=>by simp only [ed,List.not_mem_nil,or_false] at C; rcases C with rfl|rfl<;>first|(simp; done)|(exfalso; omega)),eG B,BG,H⟩⟩ _ _ _ rfl (dF hm) (aS rfl) (aI [3,4,5,6,7,8,9]))
 refine rP 2 [] I ?_
 refine kq (k:=(ys++[((y.Lo+1))])) (k':=((ys++[((y.Lo+1))])++[((y.Hi+1))])) 9 (by first|exact hsz|exact Nat.le_refl _) hY BG H U U U (by exact ⟨_,mJ (B _ hm) dso (by first|exact .inl rfl|exact .inr U) om,U,U⟩) U U (fun B40 BD R=>?_) (fun B40 BD R=>?_)
 rotate_left 1
 ·refine rP 2 [] I ?_
  refine RK N<|aO U<|ao ?_
  refine hQ _ _ _ (gX (vs:=[]) trivial fun w hs=>rQ 9 U BD R hs)
 refine a_ 2 U<|RK N<|aW U<|bV<|aG<|KK Y<|ak<|rS (SX (bS (r:= .int .i64 2) U U U (gY ⟨dc,dc⟩)) U U)<|rP 1 [] I ?_
 refine RK d<|eg fun R43 A5=>WS fun _ AK=>rS (SX (bS (r:= .bool false) U U U gQ) U U)<|RK AK<|ai fun _ Av=>aW U<|bw<|ab<|ab<|ay<|aG<|fP 8 U ep U ?_
 refine aR (G ⟨((cj left x),((ys++[((y.Lo+1))])++[((y.Hi+1))]),B40),⟨kY hn hm B D (fun n C=>by first|exact C|(simp [C]; done)) (fun n C=>by (simp only [kB,bR] at C; rcases C with (C|rfl)|rfl<;>first|exact .inl C|exact .inr (mJ (B _ hm) dso sm om))) (fun L n C K=>by simp only [ed,List.not_mem_nil,or_false] at C; rcases C with rfl|rfl<;>first|(simp; done)|(exfalso; omega)),eG B,BD,R⟩⟩ _ _ _ rfl (dF hm) (aS rfl) (aI [3,4,5,6,7,8,9]))
theorem JX (gw:Nat) (i:Int):
 lD Tryz.prog 70 [(vP gw),(vI i)] [] (fun (x:Nat×Nat)=>(Value.func (.func 96) [].toArray [(Value.pointer (some ⟨x.1,0,none⟩)),(Value.pointer (some ⟨x.2,0,none⟩))].toArray)) (fun (x:Nat×Nat)=>True) (fun (x:Nat×Nat)=>[(bU x.1 81 [(vP gw)]),(bU x.2 3 [(vI i)])]):=by
 refine di kr Tryz.func70 U U fun E Q hQ hN=>?_
 try dsimp only
 refine WS fun _ A=>uT U U fun C=>uT U U fun D=>a_ 1 U<|RK A<|WS fun _ B=>rS (FU U)<|rP 1 [] I ?_
 refine RK B<|ao<|LX hQ (C,D) [1,0] [] I U U U U ?_
 trivial
end
section
open Go.RowKit
theorem Ah (r:bT) (kA:OA) (kC:Nat) (cA:OA) (cC:Nat) (bA:OA) (bC:Nat) (slA:OA) (slC:Nat) (drA:OA) (drC:Nat) (heA:OA) (heC:Nat) (tA:OA) (tN tC:Nat) (gs gw:Nat) (m:gF) (i:Int) (hb: ∀ p∈m,0≤p.2.Lo∧p.2.Lo≤p.2.Hi∧p.2.Hi≤30000000) (hi:m.lookup i≠none) (hm12:m.length≤12):
 lD Tryz.prog 44 [(vP gw),(vI i)] [(bU gw 91 (fM.cells (fM.mk (oD r kA kC cA cC bA bC slA slC drA drC heA heC) (bp.mk tA tN tC) (Value.map (some gs))))),(hE iV gs (bG db m))] (fun (x:(OA)×Nat)=>(vS x.1 ((dq m i (aB m i)).length) x.2)) (fun (x:(OA)×Nat)=>True) (fun (x:(OA)×Nat)=>[(own x.1 x.2 3 1 ((dq m i (aB m i)).map iC))]):=by
 refine di kr Tryz.func44 U U fun w0 Q hQ hN=>?_
 try dsimp only
 refine WS fun _ Ap=>uT U U fun b2=>uT U U fun b3=>rP 1 [] I ?_
 refine RK Ap<|WS fun _ Aq=>nj (kV:=iV) U U fun Aw=>?_
 try dsimp only
 refine AL U Ux fun b6=>HJ U Vj U U<|RK Aq<|ai fun _ Ar=>WS fun _ As=>fy 1 [] (mc 3 U I) U<|rS (SX (bI U U) U U)<|fy 2 [] (mr 4 U I) U<|rS (SX (EJ U U l8 (by exact jW 5 U)) U U)<|rP 1 [] I ?_
 refine RK As<|ax ?_
 have A:(0≤m.length)∧(iS ([]:qv) (fun u=>1≤u∧u≤(0:Int))):=by exact ⟨Nat.zero_le _,Mn fun k=>by omega⟩
 refine bK (ι:={z:Nat×qv // (z.1≤m.length)∧(iS z.2 (fun u=>1≤u∧u≤(z.1:Int)))}) [2,3,5,20] [0,2,3,4,5] U U (fun z=>[(21,(vI (z.1.1:Int)))]) (fun z=>[(hE iV Aw (bG vB z.1.2))]) (fun _=>rfl) (fun _=>rfl) (fun z=>m.length-z.1.1) ⟨(0,([]:qv)),A⟩ (aS U) (aI [0,2,3,4,5,1]) ?_
 clear A
 rintro ⟨⟨n,nv⟩,⟨j,K⟩⟩ J9 Ao
 try dsimp only at j K
 try dsimp only
 refine WS fun _ AD=>rP 1 [] I ?_
 refine RK AD<|ai fun _ AE=>cy U (aP fun Al=>?_) (aQ fun Al=>?_)
 ·refine WK AE<|ai fun _ AF=>ax<|WS fun _ AG=>a_ 2 U<|RK AG<|ak<|fy 3 [] (mc 0 U I) U<|iY (kV:=iV) (x:=((n:Int)+1)) (C':=[_,_,_,_,_,(hE iV Aw (bG vB (ew nv ((n:Int)+1) true)))]) 5 U U U U Cq (dK oz) U (gI _ _ _ _).symm U<|aF<|aG<|KK AF<|ak<|rP 2 [] I ?_
  refine aF ?_
  have Af:(vI (((n+1):Nat):Int))=(vI ((n:Int)+1)):=by exact cI om
  refine aR (Ao ⟨((n+1),(ew nv ((n:Int)+1) true)),⟨om,(Iy K om).ym fun k=>by omega⟩⟩ _ _ _ U os (cO 4<|bo U Af<|dw.nil _) (aI [0,1,2,3,4,5]))
 refine bw<|ab<|ab<|ay<|KK Ar<|WS fun _ AH=>rP 1 [] (mc 0 U I) ?_
 refine cX (IF nv Aw) (bf [5]) U fun G A8=>?_
 try dsimp only
 refine a_ 1 U<|RK AH<|ai fun _ AI=>WS fun _ AJ=>rP 2 [0,1] (mc 3 U (mc 2 U I)) ?_
 refine cX (JX gw i) (aJ) U fun A0 A9=>?_
 obtain ⟨Z,c⟩:=A0
 try dsimp only
 refine RK AJ<|ax<|kl 6 U (by exact fun _ h=>h)<|kl 8 U (by exact fun _ h=>h) ?_
 refine nq (L0:=[(2,(vP b2)),(3,(vP b3)),(5,(vP b6)),(7,(Value.map (some G)))]) (F:=[(bU gw 91 (fM.cells (fM.mk (oD r kA kC cA cC bA bC slA slC drA drC heA heC) (bp.mk tA tN tC) (Value.map (some gs))))).ro,(hE iV gs (bG db m)).ro,(bU Z 81 [(vP gw)]),(bU c 3 [(vI i)])]) (fun k (y:qv)=>(iS y (uu m i k))) (fun k y=>[(hE iV G (bG vB nv)),(bU b6 67 [(Value.map (some Aw))]),(bU b3 3 [(vI i)]),(bU b2 81 [(vP gw)]),(bU gw 91 (fM.cells (fM.mk (oD r kA kC cA cC bA bC slA slC drA drC heA heC) (bp.mk tA tN tC) (Value.map (some gs))))).ro,(hE iV gs (bG db m)).ro,(hE iV Aw (bG vB y))]) (fun _ (_:Unit)=>False) (fun _ _=>[]) [4,5,6,7,8,9,10] [1,0,2,3] nv rfl rfl (HN r kA kC cA cC bA bC slA slC drA drC heA heC tA tN tC gs gw m i Z c (by exact hb)) rfl rfl rfl (by exact JN (K.ym fun k=>by omega)) (by simp only [List.forall_mem_cons,List.not_mem_nil,false_imp_iff,implies_true,and_true]; exact ⟨⟨_,sm,(dC (bP _))⟩,⟨_,sm,(dC (bP _))⟩,⟨_,sm,(bP _)⟩,⟨_,sm,(bP _)⟩⟩) (by rintro k x k2 ⟨n,_,rfl,_⟩; rfl) rfl (aS rfl) ?_ ?_ (fun _ _ _ h=>h.elim) (fun _ _ h=>h.elim)
 rotate_left 1
 ·rintro BJ k nw Ag g
  have T:=g
  try dsimp only
  refine aG<|KK AI<|ai fun _ Aa=>WS fun _ Ab=>rP 1 [] (mc 6 U I) ?_
  refine uL 11 U U Cq U U fun Ay=>?_
  try dsimp only
  refine RK Ab<|ax ?_
  have A:(∀ p∈nw,p∈nw)∧(iS nv (fun u=>(1≤u∧u≤(m.length:Int))∧ ¬ (uu m i k u∧u ∉ nw.map (·.1)))):=by exact ⟨fun p hp=>hp,K.ym fun u=>⟨fun q=>⟨om,fun z=>z.2 ((T.2 u).2 z.1)⟩,fun q=>by omega⟩⟩
  refine bK (ι:={z:qv×qv // (∀ p∈z.1,p∈nw)∧(iS z.2 (fun u=>(1≤u∧u≤(m.length:Int))∧ ¬ (uu m i k u∧u ∉ z.1.map (·.1))))}) [7,68] [0,1,2,9,10] U U (fun z=>[]) (fun z=>[(hE iV G (bG vB z.1.2)),(yz iV Ay Aw (bG vB nw) (bG vB z.1.1) none)]) (fun _=>rfl) (fun _=>rfl) (fun z=>z.1.1.length) ⟨(nw,nv),A⟩ (dw.nil _) (aI [0,1,2,9,10,5,11]) ?_
  clear A
  rintro ⟨⟨left,rk⟩,⟨A3,J⟩⟩ J55 AC
  try dsimp only at A3 J
  try dsimp only
  refine WS fun _ X=>sj (dK oz).inj (f:=Value.bool) 6 U U U U (fun An=>?_) (fun u v Ai BC=>?_)
  rotate_left 1
  ·try dsimp only
   refine a_ 1 U<|RK X<|ai fun _ Ad=>aO U<|WK Ad<|ax<|WS fun _ Ae=>rS (SX (sI 6 U U U) U U)<|a_ 2 U<|RK Ae<|ak<|rP 2 [] I ?_
   refine pf (kV:=iV) (x:=u) (C':=[_,_,_,_,_,(hE iV G (bG vB (cj rk u))),_]) 5 U U U U Cq (dK oz) U (lL _ _ _).symm U<|aF<|aG<|fP 6 U yb U ?_
   refine aR (AC ⟨((cj left u),(cj rk u)),⟨eG A3,Nk A3 T Ai J⟩⟩ _ _ _ U (dF Ai) (aS U) (aI [0,1,2,3,4,5,6]))
  refine rP 1 [] I ?_
  refine RK X<|ai fun _ A7=>aW U<|bw<|ab<|ab<|ay<|KK Aa<|WS fun _ Ac=>?_
  have Aj:iS rk (fun u=>(1≤u∧u≤(m.length:Int))∧ ¬ uu m i k u):=J.ym fun u=>⟨fun q=>⟨q.1,fun z=>q.2 ⟨z,by rw [An]; simp⟩⟩,fun q=>⟨q.1,fun z=>q.2 z.1⟩⟩
  have Y:dg (rk.map (·.1))=(dq m i (aB m i)):=DV hi Ag Aj
  have BE:rk.length≤m.length:=Iv Aj fun k q=>q.1
  have At:rk.length=(dq m i (aB m i)).length:=by rw [← Y]; simp
  refine rP 1 [] I ?_
  refine cX (N4 G) (aJ) U fun Ak A_=>?_
  try dsimp only
  refine cX (HI rk G Ak om) (bf [6,0]) U fun A1 BA=>?_
  obtain ⟨o,AA⟩:=A1
  try dsimp only
  rw [Y]
  refine rP 1 [] I ?_
  refine RK Ac<|ao<|hQ _ _ _ (ox 2 U U<|gX (vs:=[(vS o rk.length AA)]) ⟨U,trivial⟩ fun w hs=>JB (o,AA) [0] ?_ ?_ U U U hs)
  ·(rw [← At]; rfl)
  ·trivial
 rintro k x k2 nw l ra rb S w1 K26 Qr27 BH hx e AK d Az A2
 obtain ⟨n,BD,rfl,rfl⟩:=hx
 have T:=e
 try dsimp only
 refine ak<|rP 1 [] I ?_
 refine aF<|aR (AK _ _ ?_)
 refine ax<|WS fun _ AM=>a_ 2 U<|RK AM<|ai fun _ AN=>WS fun _ AO=>fy 1 [] (mc 4 U I) U<|rS (SX (bI U U) U U)<|rP 2 [] (mr 5 U I) ?_
 refine iH (kV:=iV) (m:=bG db m) 6 U U l8 U ⟨U,fun h=>h⟩ (by exact jW 6 U) U fun Ax=>?_
 try dsimp only
 refine RK AO<|ax ?_
 have A:((1:Int)+(gW m i n:Int)=1+(gW m i n:Int))∧((1:Int)+(jX m i n:Int)=1+(jX m i n:Int))∧(∀ p∈m,p∈m)∧(1≤(1:Int)∧1≤(1:Int)):=by exact ⟨rfl,rfl,fun p hp=>hp,om⟩
 refine bK (ι:={z:gF×Int×Int // (z.2.1+(gW z.1 i n:Int)=1+(gW m i n:Int))∧(z.2.2+(jX z.1 i n:Int)=1+(jX m i n:Int))∧(∀ p∈z.1,p∈m)∧(1≤z.2.1∧1≤z.2.2)}) [2,3,5,7,8,38] [1,2,3,4,5,6,7,8] U U (fun z=>[(9,(vI z.1.2.1)),(10,(vI z.1.2.2))]) (fun z=>[(yf iV Ax gs (bG db m) (bG db z.1.1) none)]) (fun _=>rfl) (fun _=>rfl) (fun z=>z.1.1.length) ⟨(m,(1:Int),(1:Int)),A⟩ (aS U) (aI [1,2,3,4,5,6,7,8,0]) ?_
 clear A
 rintro ⟨⟨left,s,t⟩,⟨C,D,B,R⟩⟩ J33 L
 try dsimp only at C D B R
 try dsimp only
 have Au:=FT (m:=m) (i:=i) (n:=n)
 have Av:=I9 (m:=m) (i:=i) (n:=n)
 refine WS fun _ V=>g9 (dK oz).inj (f:=db) 8 U U U U (fun P=>?_) (fun x y hm hn=>?_)
 ·refine a_ 1 U<|RK V<|ai fun _ A6=>aW U<|bw<|ab<|ab<|ay<|KK AN<|WS fun _ AP=>rP 2 [] I ?_
  refine RK AP<|ax ?_
  have A:(s≤s∧(s≤t+1∨s=s))∧(iS nw (fun u=>uu m i k u∧ ¬ (s≤u∧u<s))):=by exact ⟨⟨Int.le_refl _,.inr rfl⟩,T.ym fun u=>⟨fun q=>⟨q,fun z=>by omega⟩,fun q=>q.1⟩⟩
  refine bK (ι:={z:Int×qv // (s≤z.1∧(z.1≤t+1∨z.1=s))∧(iS z.2 (fun u=>uu m i k u∧ ¬ (s≤u∧u<z.1)))}) [2,3,5,7,8,9,10] [0,1,2,3,4,5,6,8] U U (fun z=>[(13,(vI z.1.1))]) (fun z=>[(hE iV Aw (bG vB z.1.2))]) (fun _=>rfl) (fun _=>rfl) (fun z=>(t+1-z.1.1).toNat) ⟨(s,nw),A⟩ (aS U) (aI [0,1,2,3,4,5,6,8,7]) ?_
  clear A
  rintro ⟨⟨q,n2⟩,⟨N,H⟩⟩ J37 AB
  try dsimp only at N H
  try dsimp only
  have Au:=FT (m:=m) (i:=i) (n:=n)
  have Av:=I9 (m:=m) (i:=i) (n:=n)
  have BF:s=1+(gW m i n:Int):=by rw [P] at C; simp only [yU] at C; omega
  have BG:t=1+(jX m i n:Int):=by rw [P] at D; simp only [Ba] at D; omega
  refine ai fun _ AQ=>WS fun _ AR=>rP 3 [] I ?_
  refine RK AR<|bM U (aQ fun Am=>?_) (aP fun Am=>?_)
  ·refine bw<|ab<|ab<|ay<|aG ?_
   exact d n2 _ _ (by exact It (a:=s) (b:=t) (by rw [P,yU] at C; omega) (by rw [P,Ba] at D; omega) (H.ym fun u=>⟨fun z=>⟨z.1,fun w=>z.2 om⟩,fun z=>⟨z.1,fun w=>z.2 om⟩⟩)) (aI [0,1,2,3,4,5,6,8])
  refine WK AQ<|ai fun _ AS=>ax<|ak<|fy 2 [] (mc 2 U I) U<|pf (kV:=iV) (x:=q) (C':=[_,_,_,_,_,_,_,_,(hE iV Aw (bG vB (cj n2 q)))]) 8 U U U U Cq (dK oz) U (lL _ _ _).symm U<|aF<|aG<|KK AS<|ak<|rP 3 [] I ?_
  refine aF ?_
  refine aR (AB ⟨((q+1),(cj n2 q)),⟨om,DP N.1 H⟩⟩ _ _ _ U dso (aS U) (aI [0,1,2,3,4,5,6,7,8]))
 try dsimp only
 refine a_ 1 U<|RK V<|ai fun _ AT=>aO U<|WK AT<|ax<|WS fun _ AU=>rS (SX (g8 8 U U U) U U)<|a_ 2 U<|AL U cZ fun BB=>a_ 1 U<|fO U cp U<|RK AU<|ai fun _ AV=>WS fun _ AW=>rP 3 [] (mc 4 U I) ?_
 refine RK AW<|cy U (aP fun E=>?_) (aQ fun E=>?_)
 ·refine bw<|ab<|ay<|fP 9 U ep U ?_
  refine aR (L ⟨((cj left x),s,t),(by refine ⟨?_,?_,eG B,?_⟩<;>dsimp only <;>first|omega|(rw [← Hz hn hm E]; omega)|(rw [← Lv hn hm E]; omega))⟩ _ _ _ U (dF hm) (aS U) (aI [1,2,3,4,5,6,7,8,9]))
 refine WK AV<|ai fun _ W=>WS fun _ AX=>rP 4 [] (mc 0 U I) ?_
 refine RK AX<|bM U (aQ fun O=>?_) (aP fun O=>?_)
 ·refine WK W<|WS fun _ AZ=>rP 4 [] (mc 0 U I) ?_
  refine RK AZ<|bM U (aQ fun M=>?_) (aP fun M=>?_)
  ·refine bV<|aG<|fP 9 U ep U ?_
   refine aR (L ⟨((cj left x),s,t),(by refine ⟨?_,?_,eG B,?_⟩<;>dsimp only <;>first|omega|(have:=Cm hn hm E O; omega)|(have:=Fu hn hm E M; omega))⟩ _ _ _ U (dF hm) (aS U) (aI [1,2,3,4,5,6,7,8,9]))
  refine ak<|rP 3 [] I ?_
  refine aF<|aG<|fP 9 U ep U ?_
  refine aR (L ⟨((cj left x),s,(t+1)),(by refine ⟨?_,?_,eG B,?_⟩<;>dsimp only <;>first|omega|(have:=Cm hn hm E O; omega)|(have:=Cd hn hm E M; omega))⟩ _ _ _ U (dF hm) (aS U) (aI [1,2,3,4,5,6,7,8,9]))
 refine ak<|a_ 3 U<|RK W<|WS fun _ AY=>rP 4 [] (mc 0 U I) ?_
 refine RK AY<|bM U (aQ fun M=>?_) (aP fun M=>?_)
 ·refine bV<|aG<|fP 9 U ep U ?_
  refine aR (L ⟨((cj left x),(s+1),t),(by refine ⟨?_,?_,eG B,?_⟩<;>dsimp only <;>first|omega|(have:=zr hn hm E O; omega)|(have:=Fu hn hm E M; omega))⟩ _ _ _ U (dF hm) (aS U) (aI [1,2,3,4,5,6,7,8,9]))
 refine ak<|rP 3 [] I ?_
 refine aF<|aG<|fP 9 U ep U ?_
 refine aR (L ⟨((cj left x),(s+1),(t+1)),(by refine ⟨?_,?_,eG B,?_⟩<;>dsimp only <;>first|omega|(have:=zr hn hm E O; omega)|(have:=Cd hn hm E M; omega))⟩ _ _ _ U (dF hm) (aS U) (aI [1,2,3,4,5,6,7,8,9]))
end
section
open Go.RowKit
theorem Ak (i:Int) (r:bT) (kA:OA) (kC:Nat) (az:List RA) (cA:OA) (cC:Nat) (bA:OA) (bC:Nat) (slA:OA) (slC:Nat) (drA:OA) (drC:Nat) (ha:List cM) (heA:OA) (heC:Nat) (hin:eW r az ha):
 lD Tryz.prog 28 [(vA (cm.cells (oD r kA kC cA cC bA bC slA slC drA drC heA heC))),(vI i)] [(rd eJ 3 2 dJ),(rd kA r.an.aN.length 9 (r.an.aN.map al.cells)),(rd cA r.an.aj.length 2 (List.zipWith av.cells r.an.aj az)),(e7 (aU av.g0 r.an.aj az)),(rd bA r.an.ae.length 4 (r.an.ae.map bB.cells)),(rd slA r.aK.length 1 (r.aK.map iC)),(rd drA r.bL.length 1 (r.bL.map iC)),(rd heA r.ar.length 1 (List.zipWith cJ r.ar ha)),(e7 (aU im r.ar ha))] (fun (x:(OA)×Nat)=>(vT [(vS x.1 ((fR r i).length) x.2),(vI (jt r i))])) (fun (x:(OA)×Nat)=>True) (fun (x:(OA)×Nat)=>[(own x.1 x.2 3 1 ((fR r i).map iC))]):=by
 have V:=hin.line
 have k:=hin.iN
 have l:=hin.has
 have c:=hin.iM
 have Z:=hin.draw
 have d:=dB (r:=r)
 refine di kr Tryz.func28 U U fun o Q hQ hN=>?_
 try dsimp only
 refine WS fun _ AA=>fQ U fun n=>a_ 2 U<|RK AA<|WS fun _ G=>rP 2 [] (mc 0 U I) ?_
 refine cV (xs:=[.tmp 11]) (cs:=[(vI i)]) U cv ja U U U U (by simp [Value.cells]) U U fun h=>cX (yW r kA kC az cA cC bA bC slA slC drA drC ha heA heC i h hin) (bf [2,3,4,5,6,7,8,9,10,0]) U fun m L=>?_
 obtain ⟨M,j,T,S,N,O,p,f,g⟩:=m
 cases M
 ·obtain ⟨H,he⟩:=L.2 rfl
  try dsimp only at H he
  subst H
  try dsimp only [cond_true,cond_false,List.cons_append,List.nil_append]
  refine a_ 7 U<|RK G<|ai fun _ Y=>WS fun _ B=>rP 2 [] I ?_
  refine RK B<|bM U (bj fun A=>?_) (bk fun A=>?_)
  ·exact absurd A he
  refine WS fun _ C=>dH 3 1 ?_
  rw [show (own none 0 3 1 ([]:List (List Value)))=own none 0 3 1 ((fR r i).map iC) from by rw [yS he]; rfl]
  refine a_ 1 U<|rP 2 [] I ?_
  refine RK C<|ao ?_
  refine LX hQ (none,0) [0] [] I U U U ?_ ?_
  ·(rw [yS he]; rfl)
  ·trivial
 obtain ⟨he,W⟩:=L.1 rfl
 try dsimp only [cond_true,cond_false,List.cons_append,List.nil_append]
 try dsimp only at W
 obtain ⟨J,a,AB⟩:=uo he
 have K:=m0 J
 have b:=oH J
 refine a_ 7 U<|RK G<|ai fun _ D=>WS fun _ E=>a_ 1 U<|rS (SX (bS (r:= .bool false) U U U j6) U U)<|RK E<|aW U<|WK D<|WS fun _ F=>rP 2 [] I ?_
 refine cX (Ah r kA kC cA cC bA bC slA slC drA drC heA heC N ((cL r).length) O S T (aA r) i (by exact K) (by exact AB) om) (bf [0,3]) U fun X e=>?_
 obtain ⟨P,R⟩:=X
 try dsimp only
 rw [show (dq (aA r) i (aB (aA r) i))=fR r i from (yP he).symm]
 refine rP 2 [] I ?_
 refine RK F<|ao ?_
 refine LX hQ (P,R) [0] [] I U U U ?_ ?_
 ·(rw [he]; rfl)
 ·trivial
theorem xx (a b:Int) (r:bT) (kA:OA) (kC:Nat) (az:List RA) (cA:OA) (cC:Nat) (bA:OA) (bC:Nat) (slA:OA) (slC:Nat) (drA:OA) (drC:Nat) (ha:List cM) (heA:OA) (heC:Nat) (hin:eW r az ha):
 dV Tryz.prog 15 [(vA (cm.cells (oD r kA kC cA cC bA bC slA slC drA drC heA heC))),(vI a),(vI b)] [(rd eJ 3 2 dJ),(rd kA r.an.aN.length 9 (r.an.aN.map al.cells)),(rd cA r.an.aj.length 2 (List.zipWith av.cells r.an.aj az)),(e7 (aU av.g0 r.an.aj az)),(rd bA r.an.ae.length 4 (r.an.ae.map bB.cells)),(rd slA r.aK.length 1 (r.aK.map iC)),(rd drA r.bL.length 1 (r.bL.map iC)),(rd heA r.ar.length 1 (List.zipWith cJ r.ar ha)),(e7 (aU im r.ar ha))] (vT [(Value.int .u8 (rH r a b)),(vI (ld r a b))]):=by
 have M:=hin.line
 have k:=hin.iN
 have l:=hin.has
 have V:=hin.iM
 have R:=hin.draw
 have W:=dB (r:=r)
 refine bx kr Tryz.func15 U U fun p Q hQ hN=>?_
 try dsimp only
 refine WS fun _ L=>fQ U fun o=>a_ 2 U<|RK L<|WS fun _ H=>rP 3 [] (mc 0 U I) ?_
 refine cV (xs:=[.tmp 13,.tmp 14]) (cs:=[(vI a),(vI b)]) U cv ja U U U U (by simp [Value.cells]) U U fun d=>cX (yH r kA kC az cA cC bA bC slA slC drA drC ha heA heC a b d hin) (bf [2,3,4,5,6,7,8,9,10,0]) U fun m J=>?_
 obtain ⟨K,e,g,f,Z,c,q,X,Y⟩:=m
 cases K
 ·obtain ⟨AB,he⟩:=J.2 rfl
  try dsimp only at AB he
  subst AB
  try dsimp only [cond_true,cond_false,List.cons_append,List.nil_append]
  refine a_ 7 U<|RK H<|ai fun _ P=>WS fun _ C=>rP 2 [] I ?_
  refine RK C<|bM U (bj fun B=>?_) (bk fun B=>?_)
  ·exact absurd B he
  refine WS fun _ D=>rP 3 [] I ?_
  refine RK D<|ao<|Q2 hQ U U U U ?_
  (rw [show rH r a b=0 from if_neg he]; done)
 obtain ⟨he,O⟩:=J.1 rfl
 try dsimp only [cond_true,cond_false,List.cons_append,List.nil_append]
 try dsimp only at O
 obtain ⟨N,S,T,AA⟩:=zi he
 have A:=m0 N
 have h:=gP (i:=a) A
 have j:=gP (i:=b) A
 refine a_ 7 U<|RK H<|ai fun _ E=>WS fun _ F=>a_ 1 U<|rS (SX (bS (r:= .bool false) U U U j6) U U)<|RK F<|aW U<|WK E<|ai fun _ G=>du cq 21 kr<|dP 1 [] I ?_
 refine dS (IA 0 U (ag (n:=2) 4 U sq) jF dc U om) ?_
 refine dS (nN ((0*2)+1) U (ag (n:=([(aB (aA r) a),(aB (aA r) b)]).length) 4 U sm) (Nat.succ_pos _) fx U)<|dS (gp 0 1 (vI ((aB (aA r) a).Hi)) U b_ (ag (n:=([(aB (aA r) a),(aB (aA r) b)]).length) 4 U sm) (show ([(aB (aA r) a),(aB (aA r) b)].map aa.cells)[0]? =some [(vI ((aB (aA r) a).Lo)),(vI ((aB (aA r) a).Hi))] from U) U dc U)<|dP 1 [] I ?_
 refine dS (IA 1 U (ag (n:=2) 4 U sq) jF dc U om) ?_
 refine dS (nN (1*2) U (ag (n:=([(aB (aA r) a),(aB (aA r) b)]).length) 4 U sm) (Nat.succ_pos _) fx U)<|dS (gp 1 0 (vI ((aB (aA r) b).Lo)) U b_ (ag (n:=([(aB (aA r) a),(aB (aA r) b)]).length) 4 U sm) (show ([(aB (aA r) a),(aB (aA r) b)].map aa.cells)[1]? =some [(vI ((aB (aA r) b).Lo)),(vI ((aB (aA r) b).Hi))] from U) U dc U)<|dP 2 [] I ?_
 refine dS (IA 0 U (ag (n:=2) 4 U sq) jF dc U om) ?_
 refine dS (nN (0*2) U (ag (n:=([(aB (aA r) a),(aB (aA r) b)]).length) 4 U sm) (Nat.succ_pos _) fx U)<|dS (gp 0 0 (vI ((aB (aA r) a).Lo)) U b_ (ag (n:=([(aB (aA r) a),(aB (aA r) b)]).length) 4 U sm) (show ([(aB (aA r) a),(aB (aA r) b)].map aa.cells)[0]? =some [(vI ((aB (aA r) a).Lo)),(vI ((aB (aA r) a).Hi))] from U) U dc U)<|dP 1 [] I ?_
 refine dS (IA 1 U (ag (n:=2) 4 U sq) jF dc U om) ?_
 refine dS (nN ((1*2)+1) U (ag (n:=([(aB (aA r) a),(aB (aA r) b)]).length) 4 U sm) (Nat.succ_pos _) fx U)<|dS (gp 1 1 (vI ((aB (aA r) b).Hi)) U b_ (ag (n:=([(aB (aA r) a),(aB (aA r) b)]).length) 4 U sm) (show ([(aB (aA r) a),(aB (aA r) b)].map aa.cells)[1]? =some [(vI ((aB (aA r) b).Lo)),(vI ((aB (aA r) b).Hi))] from U) U dc U)<|lv 1 U<|dS (CL (xu (decide (((aB (aA r) a).Hi)<((aB (aA r) b).Lo))) (decide (((aB (aA r) a).Lo)<((aB (aA r) b).Hi)))) (aJ) U)<|dP 2 [] I ?_
 refine cH<|RK G<|ao<|Q2 hQ U U U U ?_
 (rw [he,show rH r a b=vv _ _ from if_pos he,← Mx])
theorem Dx (a b:Int) (r:bT) (kA:OA) (kC:Nat) (az:List RA) (cA:OA) (cC:Nat) (bA:OA) (bC:Nat) (slA:OA) (slC:Nat) (drA:OA) (drC:Nat) (ha:List cM) (heA:OA) (heC:Nat) (hin:eW r az ha):
 dV Tryz.prog 16 [(vA (cm.cells (oD r kA kC cA cC bA bC slA slC drA drC heA heC))),(vI a),(vI b)] [(rd eJ 3 2 dJ),(rd kA r.an.aN.length 9 (r.an.aN.map al.cells)),(rd cA r.an.aj.length 2 (List.zipWith av.cells r.an.aj az)),(e7 (aU av.g0 r.an.aj az)),(rd bA r.an.ae.length 4 (r.an.ae.map bB.cells)),(rd slA r.aK.length 1 (r.aK.map iC)),(rd drA r.bL.length 1 (r.bL.map iC)),(rd heA r.ar.length 1 (List.zipWith cJ r.ar ha)),(e7 (aU im r.ar ha))] (vT [(Value.int .u8 (m_ r a b)),(vI (ld r a b))]):=by
 have T:=hin.line
 have q:=hin.iN
 have s:=hin.has
 have d:=hin.iM
 have X:=hin.draw
 have e:=dB (r:=r)
 refine bx kr Tryz.func16 U U fun w Q hQ hN=>?_
 try dsimp only
 refine WS fun _ P=>fQ U fun v=>a_ 2 U<|RK P<|WS fun _ J=>rP 3 [] (mc 0 U I) ?_
 refine cV (xs:=[.tmp 14,.tmp 15]) (cs:=[(vI a),(vI b)]) U cv ja U U U U (by simp [Value.cells]) U U fun l=>cX (yH r kA kC az cA cC bA bC slA slC drA drC ha heA heC a b l hin) (bf [2,3,4,5,6,7,8,9,10,0]) U fun u N=>?_
 obtain ⟨O,m,p,o,h,j,x,f,g⟩:=u
 cases O
 ·obtain ⟨M,he⟩:=N.2 rfl
  try dsimp only at M he
  subst M
  try dsimp only [cond_true,cond_false,List.cons_append,List.nil_append]
  refine a_ 7 U<|RK J<|ai fun _ W=>WS fun _ E=>rP 2 [] I ?_
  refine RK E<|bM U (bj fun D=>?_) (bk fun D=>?_)
  ·exact absurd D he
  refine WS fun _ F=>rP 3 [] I ?_
  refine RK F<|ao<|Q2 hQ U U U U ?_
  (rw [show m_ r a b=0 from if_neg he]; done)
 obtain ⟨he,V⟩:=N.1 rfl
 try dsimp only [cond_true,cond_false,List.cons_append,List.nil_append]
 try dsimp only at V
 obtain ⟨AA,Y,Z,c⟩:=zi he
 have B:=m0 AA
 have R:=gP (i:=a) B
 have S:=gP (i:=b) B
 refine a_ 7 U<|RK J<|ai fun _ G=>WS fun _ H=>rP 1 [] I ?_
 refine rS (SX (bS (r:= .bool false) U U U j6) U U)<|RK H<|aW U<|WK G<|ai fun _ AB=>dD cq [19,20] [] [] [0,1,2,3,4,5,6,7,8,9,10,11,12,13,14,15] [] U U U U U<|eS U (MV U) ?_
 refine eS U (IA 0 U (ag (n:=2) 4 U sq) jF dc U om) ?_
 refine eS U (nN (0*2) U (ag (n:=([(aB (aA r) a),(aB (aA r) b)]).length) 4 U sm) (Nat.succ_pos _) fx U)<|eS U (gp 0 0 (vI ((aB (aA r) a).Lo)) U b_ (ag (n:=([(aB (aA r) a),(aB (aA r) b)]).length) 4 U sm) (show ([(aB (aA r) a),(aB (aA r) b)].map aa.cells)[0]? =some [(vI ((aB (aA r) a).Lo)),(vI ((aB (aA r) a).Hi))] from U) U dc U)<|eS U (MV U) ?_
 refine eS U (IA 1 U (ag (n:=2) 4 U sq) jF dc U om) ?_
 refine eS U (nN (1*2) U (ag (n:=([(aB (aA r) a),(aB (aA r) b)]).length) 4 U sm) (Nat.succ_pos _) fx U)<|eS U (gp 1 0 (vI ((aB (aA r) b).Lo)) U b_ (ag (n:=([(aB (aA r) a),(aB (aA r) b)]).length) 4 U sm) (show ([(aB (aA r) a),(aB (aA r) b)].map aa.cells)[1]? =some [(vI ((aB (aA r) b).Lo)),(vI ((aB (aA r) b).Hi))] from U) U dc U)<|eS U (MX U)<|eS U (MV U) ?_
 refine eS U (IA 0 U (ag (n:=2) 4 U sq) jF dc U om) ?_
 refine eS U (nN ((0*2)+1) U (ag (n:=([(aB (aA r) a),(aB (aA r) b)]).length) 4 U sm) (Nat.succ_pos _) fx U)<|eS U (gp 0 1 (vI ((aB (aA r) a).Hi)) U b_ (ag (n:=([(aB (aA r) a),(aB (aA r) b)]).length) 4 U sm) (show ([(aB (aA r) a),(aB (aA r) b)].map aa.cells)[0]? =some [(vI ((aB (aA r) a).Lo)),(vI ((aB (aA r) a).Hi))] from U) U dc U)<|eS U (MV U) ?_
 refine eS U (IA 1 U (ag (n:=2) 4 U sq) jF dc U om) ?_
 refine eS U (nN ((1*2)+1) U (ag (n:=([(aB (aA r) a),(aB (aA r) b)]).length) 4 U sm) (Nat.succ_pos _) fx U)<|eS U (gp 1 1 (vI ((aB (aA r) b).Hi)) U b_ (ag (n:=([(aB (aA r) a),(aB (aA r) b)]).length) 4 U sm) (show ([(aB (aA r) a),(aB (aA r) b)].map aa.cells)[1]? =some [(vI ((aB (aA r) b).Lo)),(vI ((aB (aA r) b).Hi))] from U) U dc U)<|eS U (MN U)<|eS U (SX (bh (xs:=[(0,.tmp 32),(1,.tmp 41)]) (cs:=(aa.cells (aa.mk (max ((aB (aA r) a).Lo) ((aB (aA r) b).Lo)) (min ((aB (aA r) a).Hi) ((aB (aA r) b).Hi))))) U U (bg gn U)) U U)<|eX U<|bX U fun T22 K=>AL U cZ fun k=>aF (K _ _ (aI [1,2,3,4,5,6,7,8,9,10,11,12,13,14,15,16]) ?_)
 refine bX U fun T24 L=>fO U cp U<|aF (L _ _ (aI [1,2,3,4,5,6,7,8,9,10,11,12,13,14,15,16]) ?_)
 refine fF U<|KK AB<|ai fun _ A=>du cq 22 kr<|dP 1 [] I ?_
 refine dS (IA 0 U (ag (n:=2) 5 U sq) jF dc U om) ?_
 refine dS (oE 0 0 (aa.cells (aB (aA r) a)) U b_ (ag (n:=([(aB (aA r) a),(aB (aA r) b)]).length) 5 U sm) (show ([(aB (aA r) a),(aB (aA r) b)].map aa.cells)[0]? =some [(vI ((aB (aA r) a).Lo)),(vI ((aB (aA r) a).Hi))] from U) U dc U U)<|dP 1 [] I ?_
 refine dS (IA 1 U (ag (n:=2) 5 U sq) jF dc U om) ?_
 refine dS (oE 1 0 (aa.cells (aB (aA r) b)) U b_ (ag (n:=([(aB (aA r) a),(aB (aA r) b)]).length) 5 U sm) (show ([(aB (aA r) a),(aB (aA r) b)].map aa.cells)[1]? =some [(vI ((aB (aA r) b).Lo)),(vI ((aB (aA r) b).Hi))] from U) U dc U U)<|dS (BI U (tU _ _ (aB (aA r) a) (aB (aA r) b)))<|dP 1 [] I ?_
 refine ji (t:=50) U (aQ fun C=>?_) (aP fun C=>?_)
 ·refine my 11 [] (mc 0 U I) U<|dS (CL (xu false (decide ((max ((aB (aA r) a).Lo) ((aB (aA r) b).Lo))≤(min ((aB (aA r) a).Hi) ((aB (aA r) b).Hi))))) (aJ) U)<|dP 2 [] I ?_
  refine cH<|RK A<|ao<|Q2 hQ U U U U ?_
  (rw [he,show m_ r a b=n9 _ _ from if_pos he,← Ox R.2.1 S.2.1 C]; done)
 refine my 11 [] (mc 0 U I) U<|dS (CL (xu (decide ((max ((aB (aA r) a).Lo) ((aB (aA r) b).Lo))=(min ((aB (aA r) a).Hi) ((aB (aA r) b).Hi)))) (decide ((max ((aB (aA r) a).Lo) ((aB (aA r) b).Lo))≤(min ((aB (aA r) a).Hi) ((aB (aA r) b).Hi))))) (aJ) U)<|dP 2 [] I ?_
 refine cH<|RK A<|ao<|Q2 hQ U U U U ?_
 (rw [he,show m_ r a b=n9 _ _ from if_pos he,← L_ C]; done)
end
section
open Go.RowKit
theorem JC (h i:Int) (r:bT) (kA:OA) (kC:Nat) (az:List RA) (cA:OA) (cC:Nat) (bA:OA) (bC:Nat) (slA:OA) (slC:Nat) (drA:OA) (drC:Nat) (ha:List cM) (heA:OA) (heC:Nat) (hin:eW r az ha):
 dV Tryz.prog 14 [(vA (cm.cells (oD r kA kC cA cC bA bC slA slC drA drC heA heC))),(vI h),(vI i)] [(rd eJ 3 2 dJ),(rd kA r.an.aN.length 9 (r.an.aN.map al.cells)),(rd cA r.an.aj.length 2 (List.zipWith av.cells r.an.aj az)),(e7 (aU av.g0 r.an.aj az)),(rd bA r.an.ae.length 4 (r.an.ae.map bB.cells)),(rd slA r.aK.length 1 (r.aK.map iC)),(rd drA r.bL.length 1 (r.bL.map iC)),(rd heA r.ar.length 1 (List.zipWith cJ r.ar ha)),(e7 (aU im r.ar ha))] (vT [(vA (aa.cells (dA r h i))),(vI (jA r h i))]):=by
 have AB:=hin.line
 have AM:=hin.iN
 have AN:=hin.has
 have AI:=hin.iM
 have AG:=hin.draw
 have F:=dB (r:=r)
 refine bx kr Tryz.func14 U U fun w0 Q hQ hN=>?_
 try dsimp only
 refine WS fun _ u=>fQ U fun b2=>AL U cZ fun b3=>a_ 1 U<|RK u<|WS fun _ X=>rP 1 [] (mc 1 U I) ?_
 refine cX (ob r kA kC az cA cC bA bC slA slC drA drC ha heA heC hin) (bf [2,3,4,5,6,7,8,9,10]) U fun y5 c=>?_
 obtain ⟨f,AK,o,m,g,j,z8⟩:=y5
 cases f
 ·obtain ⟨Y,he⟩:=c.2 rfl
  try dsimp only at Y he
  subst Y
  try dsimp only [cond_true,cond_false,List.cons_append,List.nil_append]
  refine a_ 5 U<|RK X<|ai fun _ AF=>ax<|WS fun _ N=>rP 3 [] I ?_
  refine RK N<|bM U (bj fun M=>?_) (bk fun M=>?_)
  ·exact absurd M he
  refine WS fun _ O=>rS (SX (bh (xs:=[]) (cs:=(aa.cells (aa.mk 0 0))) U U (bg gn U)) U U)<|a_ 1 U<|fO U cp U<|rP 1 [] I ?_
  refine RK O<|ao<|lp hQ [0] (mc 0 U I) U ?_
  first|(have e:=o1 (h:=h) (i:=i) he; have B:dA r h i=dv:=if_neg (fun q=>by rw [e] at q; exact he q); rw [e,B]; rfl)|(have e:=oF (h:=h) (i:=i) he om; have B:dA r h i=dv:=if_neg (fun q=>by rw [e] at q; cases q); rw [e,B]; rfl)|(have e:=nG he om A hd C; have B:dA r h i=dv:=if_neg (fun q=>by rw [e] at q; cases q); rw [e,B]; rfl)|(have e:=qL he om A hd C; rw [e.1,e.2,H]; done)
 obtain ⟨he,J⟩:=c.1 rfl
 try dsimp only [cond_true,cond_false,List.cons_append,List.nil_append]
 try dsimp only at J
 have a:=(ib he).2
 refine a_ 5 U<|RK X<|ai fun _ P=>ax<|WS fun _ R=>a_ 1 U<|rS (SX (bS (r:= .bool false) U U U j6) U U)<|a_ 1 U<|RK R<|aW U<|WS fun _ K=>rP 5 [] (mc 5 U I) ?_
 refine cV (xs:=[.tmp 25]) (cs:=[(vI h)]) U cv ja U U U U (by simp [Value.cells]) U U fun k=>?_
 refine rS (CL (dV.eq (j2 0 ((r.ar.length:Int)-1) ([h]) (some ⟨k,0,none⟩) 1 sd) cR) (aq (aZ 0 U U (by simp [bE]) U)<|aJ) U) ?_
 refine rP 2 [] I ?_
 refine cN (t:=29) U (bk fun s=>?_) (bj fun s=>?_)
 ·refine a_ 7 U<|RK K<|aO U<|WS fun _ S=>rS (SX (bh (xs:=[]) (cs:=(aa.cells (aa.mk 0 0))) U U (bg gn U)) U U)<|Ia U cp U<|rP 1 [] I ?_
  refine RK S<|ao<|lp hQ [0] (mc 5 U I) U ?_
  first|(have e:=o1 (h:=h) (i:=i) he; have B:dA r h i=dv:=if_neg (fun q=>by rw [e] at q; exact he q); rw [e,B]; rfl)|(have e:=oF (h:=h) (i:=i) he om; have B:dA r h i=dv:=if_neg (fun q=>by rw [e] at q; cases q); rw [e,B]; rfl)|(have e:=nG he om A hd C; have B:dA r h i=dv:=if_neg (fun q=>by rw [e] at q; cases q); rw [e,B]; rfl)|(have e:=qL he om A hd C; rw [e.1,e.2,H]; done)
 refine rP 2 [] I ?_
 refine cV (xs:=[.tmp 31]) (cs:=[(vI i)]) U cv ja U U U U (by simp [Value.cells]) U U fun l=>?_
 refine rS (CL (dV.eq (AD r kA kC az cA cC bA bC slA slC drA drC ha heA heC z8 g j (Value.map (some m)) o ([i]) (some ⟨l,0,none⟩) 1 hin sd) cR) (lH [9,10,11,12,13,14,15,16]<|aq (ag (n:=(cL r).length) 3 U (mR (by rw [F]; exact J)))<|aq (dy 4 U s7)<|fq 2 U U<|aq (aZ 0 U U (by simp [bE]) U)<|aJ) U) ?_
 refine rP 3 [] I ?_
 refine RK K<|cy U (bk fun p=>?_) (bj fun p=>?_)
 ·refine WS fun _ T=>rS (SX (bh (xs:=[]) (cs:=(aa.cells (aa.mk 0 0))) U U (bg gn U)) U U)<|O_ U cp U<|rP 1 [] I ?_
  refine RK T<|ao<|lp hQ [0] (mc 6 U I) U ?_
  first|(have e:=o1 (h:=h) (i:=i) he; have B:dA r h i=dv:=if_neg (fun q=>by rw [e] at q; exact he q); rw [e,B]; rfl)|(have e:=oF (h:=h) (i:=i) he om; have B:dA r h i=dv:=if_neg (fun q=>by rw [e] at q; cases q); rw [e,B]; rfl)|(have e:=nG he om A hd C; have B:dA r h i=dv:=if_neg (fun q=>by rw [e] at q; cases q); rw [e,B]; rfl)|(have e:=qL he om A hd C; rw [e.1,e.2,H]; done)
 refine WS fun _ AE=>rP 3 [] (mc 7 U I) ?_
 obtain ⟨ht,A⟩:=aL r.ar ((h).toNat) om
 obtain ⟨D,E⟩:=aL ha ((h).toNat) om
 have Z:(List.zipWith cJ r.ar ha)[(h).toNat]? =some (cJ ht D):=dM A E
 refine rS (IA ((h).toNat) U (aD 15 U) rF dc om om) ?_
 have z:=hin.lq _ _ _ A E
 have AH:=z.oq
 have AA:=(a.lq ht (aT A)).1
 refine rS (gp ((h).toNat) 0 (vS D.1.1 ht.length D.1.2) U b_ (aD 15 U) Z U dc U)<|rP 1 [] I ?_
 obtain ⟨d,hd⟩:=aL ht ((i).toNat) om
 obtain ⟨da,v⟩:=aL D.2 ((i).toNat) om
 have y:(List.zipWith aw.cells ht D.2)[(i).toNat]? =some (aw.cells d da):=dM hd v
 refine rS (IA ((i).toNat) U (show i_ _ (rd D.1.1 ht.length 7 (List.zipWith aw.cells ht D.2)).holds from (dx 16 U (bW A E cf))) wK dc om om)<|rS (nN (((i).toNat)*7) U (show i_ _ (rd D.1.1 ht.length 7 (List.zipWith aw.cells ht D.2)).holds from (dx 16 U (bW A E cf))) (Nat.mul_pos om dc) fx U)<|rS (gp ((i).toNat) 0 (vB d.Out) U b_ (show i_ _ (rd D.1.1 ht.length 7 (List.zipWith aw.cells ht D.2)).holds from (dx 16 U (bW A E cf))) y U dc U)<|rP 1 [] I ?_
 refine RK AE<|cy U (fun C=>?_) (fun C=>?_)
 ·refine WS fun _ V=>rS (SX (bh (xs:=[]) (cs:=(aa.cells (aa.mk 0 0))) U U (bg gn U)) U U)<|O_ U cp U<|rP 1 [] I ?_
  refine RK V<|ao<|lp hQ [0] (mc 6 U I) U ?_
  first|(have e:=o1 (h:=h) (i:=i) he; have B:dA r h i=dv:=if_neg (fun q=>by rw [e] at q; exact he q); rw [e,B]; rfl)|(have e:=oF (h:=h) (i:=i) he om; have B:dA r h i=dv:=if_neg (fun q=>by rw [e] at q; cases q); rw [e,B]; rfl)|(have e:=nG he om A hd C; have B:dA r h i=dv:=if_neg (fun q=>by rw [e] at q; cases q); rw [e,B]; rfl)|(have e:=qL he om A hd C; rw [e.1,e.2,H]; done)
 refine bV<|aG<|KK P<|WS fun _ W=>a_ 1 U<|rS (SX (bI U U) U U)<|rP 3 [] (mc 2 U I) ?_
 obtain ⟨tr,AO⟩:=aL (cL r) ((h).toNat) om
 obtain ⟨tra,G⟩:=aL z8 ((h).toNat) om
 have b:(List.zipWith D7 (cL r) z8)[(h).toNat]? =some (D7 tr tra):=dM AO G
 refine rS (IA ((h).toNat) U (ag (n:=(cL r).length) 3 U (mR (by rw [F]; exact J))) MR dc om om) ?_
 have L:=yV A AO
 have AJ:tr.length=r.aK.length:=by rw [L,List.length_map]; exact AA
 refine rS (gp ((h).toNat) 0 (vS tra.1 tr.length tra.2) U b_ (ag (n:=(cL r).length) 3 U (mR (by rw [F]; exact J))) b U dc U) ?_
 refine rP 1 [] I ?_
 obtain ⟨x,hx⟩:=aL tr ((i).toNat) om
 have AC:=bH aa.cells hx
 refine rS (IA ((i).toNat) U (show i_ _ (rd tra.1 tr.length 2 (tr.map aa.cells)).holds from (fun w hw=>(dy 4 U s7) w hw _ (bW AO G (by simp [Mo])))) jF dc om om) ?_
 have H:=Mf L hx hd
 refine rS (oE ((i).toNat) 0 (aa.cells x) U b_ (show i_ _ (rd tra.1 tr.length 2 (tr.map aa.cells)).holds from (fun w hw=>(dy 4 U s7) w hw _ (bW AO G (by simp [Mo])))) AC U dc U U)<|O_ U cp U<|rP 1 [] I ?_
 refine RK W<|ao<|lp hQ [0] (mc 6 U I) U ?_
 first|(have e:=o1 (h:=h) (i:=i) he; have B:dA r h i=dv:=if_neg (fun q=>by rw [e] at q; exact he q); rw [e,B]; rfl)|(have e:=oF (h:=h) (i:=i) he om; have B:dA r h i=dv:=if_neg (fun q=>by rw [e] at q; cases q); rw [e,B]; rfl)|(have e:=nG he om A hd C; have B:dA r h i=dv:=if_neg (fun q=>by rw [e] at q; cases q); rw [e,B]; rfl)|(have e:=qL he om A hd C; rw [e.1,e.2,H]; done)
end
section
open Go.RowKit
theorem oY (n lo hi:Int):
 dV Tryz.prog 137 [(vI n),(vI lo),(vI hi)] [] (vB (decide (lo≤n∧n≤hi))):=by
 refine bx kr Tryz.func137 U U fun D Q hQ hN=>?_
 try dsimp only
 refine WS fun _ B=>a_ 1 U<|RK B<|WS fun _ A=>rP 4 [] I ?_
 refine cN (t:=10) U (aP fun C=>?_) (aQ fun C=>?_)
 ·refine rP 5 [] I ?_
  refine RK A<|ao<|Q1 hQ U U U ?_
  exact cB (decide_eq_decide.2 om)
 refine rP 5 [] I ?_
 refine RK A<|ao<|Q1 hQ U U U ?_
 exact cB (cd om).symm
theorem FB (r:cx) (sgA:OA) (sgC:Nat):
 dV Tryz.prog 157 [(vA (eH.cells (mA r sgA sgC)))] [(rd sgA r.ah.length 2 (r.ah.map aM.cells))] (vB (decide (mj r))):=by
 refine bx kr Tryz.func157 U U fun F Q hQ hN=>?_
 try dsimp only
 refine WS fun _ B=>fQ U fun E=>a_ 1 U<|RK B<|WS fun _ A=>rP 4 [] (mc 0 U I) ?_
 refine bZ (t:=6) U (aQ fun C=>?_) (aP fun C=>?_)
 ·refine rP 11 [] I ?_
  refine RK A<|ao<|Q1 hQ U U U ?_
  simp only [mj]
  exact cB (cd om).symm
 refine rP 5 [] (mc 0 U I) ?_
 refine bZ (t:=11) U (aQ fun D=>?_) (aP fun D=>?_)
 ·refine rP 6 [] I ?_
  refine RK A<|ao<|Q1 hQ U U U ?_
  simp only [mj]
  exact cB (cd om).symm
 refine rP 6 [] (mc 0 U I) ?_
 refine RK A<|ao<|Q1 hQ U U U ?_
 simp only [mj]
 exact cB (decide_eq_decide.2 om)
theorem E7 (s:aa):
 dV Tryz.prog 25 [(vA (aa.cells s))] [] (vB (decide (iv s))):=by
 refine bx kr Tryz.func25 U U fun F Q hQ hN=>?_
 try dsimp only
 refine WS fun _ B=>fQ U fun E=>a_ 1 U<|RK B<|WS fun _ A=>rP 4 [] (mc 0 U I) ?_
 refine bZ (t:=6) U (aQ fun C=>?_) (aP fun C=>?_)
 ·refine rP 12 [] I ?_
  refine RK A<|ao<|Q1 hQ U U U ?_
  simp only [iv]
  exact cB (cd om).symm
 refine rP 7 [] (mc 0 U I) ?_
 refine bZ (t:=13) U (aQ fun D=>?_) (aP fun D=>?_)
 ·refine rP 5 [] I ?_
  refine RK A<|ao<|Q1 hQ U U U ?_
  simp only [iv]
  exact cB (cd om).symm
 refine rP 5 [] (mc 0 U I) ?_
 refine RK A<|ao<|Q1 hQ U U U ?_
 simp only [iv]
 exact cB (decide_eq_decide.2 om)
theorem oc (la:List Int) (laA:OA) (laC:Nat) (lb:List Int) (lbA:OA) (lbC:Nat) (h1:la.length≤1000000) (h2:lb.length≤1000000):
 dV Tryz.prog 29 [(vS laA la.length laC),(vS lbA lb.length lbC)] [(rd laA la.length 1 (la.map iC)),(rd lbA lb.length 1 (lb.map iC))] (vB (decide (la=lb))):=by
 refine bx kr Tryz.func29 U U fun V Q hQ hN=>?_
 try dsimp only
 refine WS fun _ J=>a_ 1 U<|RK J<|ai fun _ K=>WS fun _ L=>rP 5 [] I ?_
 refine RK L<|cy U (bk fun hl=>?_) (bj fun hl=>?_)
 ·refine WS fun _ M=>rP 1 [] I ?_
  refine RK M<|ao<|Q1 hQ U U U ?_
  exact cB (cd (fun e=>by subst e; omega)).symm
 refine WK K<|ai fun _ N=>WS fun _ O=>rP 1 [] I ?_
 refine RK O<|ax ?_
 have A:(0≤la.length)∧(la.take 0=lb.take 0):=by simp
 refine bK (ι:={z:Nat // (z≤la.length)∧(la.take z=lb.take z)}) [0,1] [0,1] U U (fun z=>[(5,(vI (z.1:Int)))]) (fun z=>[]) (fun _=>rfl) (fun _=>rfl) (fun z=>la.length-z.1) ⟨0,A⟩ (aS U) (aI [0,1]) ?_
 clear A
 rintro ⟨i,⟨S,B⟩⟩ J7 AB
 try dsimp only
 refine ai fun _ P=>WS fun _ R=>rP 4 [] I ?_
 refine RK R<|bM U (aQ fun H=>?_) (aP fun H=>?_)
 ·refine bw<|ab<|ab<|ay<|KK N<|WS fun _ F=>rP 1 [] I ?_
  refine RK F<|ao<|Q1 hQ U U U ?_
  exact cB (fI (nH om B om)).symm
 refine WK P<|ai fun _ C=>ax<|ai fun _ D=>du cq 9 kr<|dP 2 [] I ?_
 obtain ⟨x,hx⟩:=aL la i om
 have T:=bH iC hx
 refine dS (IA i U (aD 0 U) cv dc om om)<|dS (gp i 0 (vI x) U b_ (aD 0 U) T U dc U)<|dP 2 [] I ?_
 obtain ⟨y,hy⟩:=aL lb i om
 have AA:=bH iC hy
 refine dS (IA i U (aD 1 U) cv dc om om)<|dS (gp i 0 (vI y) U b_ (aD 1 U) AA U dc U)<|dP 1 [] I ?_
 refine cH<|RK D<|cy U (bk fun h=>?_) (bj fun h=>?_)
 ·refine WS fun _ E=>rP 1 [] I ?_
  refine RK E<|ao<|Q1 hQ U U U ?_
  exact cB (cd (nB hx hy h)).symm
 refine bV<|aG<|KK C<|ak<|rP 3 [] I ?_
 refine aF ?_
 have G:(vI (((i+1):Nat):Int))=(vI ((i:Int)+1)):=by exact cI om
 refine aR (AB ⟨(i+1),⟨om,uw B hx hy h⟩⟩ _ _ _ U os (dw.cons U<|dw.cons U<|bo U G<|dw.nil _) (aI [0,1]))
end
section
open Go.RowKit
theorem vO (l:List Int) (lA:OA) (lC:Nat) (hlen:l.length≤1000000):
 lD Tryz.prog 45 [(vS lA l.length lC)] [(rd lA l.length 1 (l.map iC))] (fun (x:(OA)×Nat)=>(vS x.1 l.length x.2)) (fun (x:(OA)×Nat)=>True) (fun (x:(OA)×Nat)=>[(own x.1 x.2 3 1 (l.map iC))]):=by
 refine di kr Tryz.func45 U U fun L Q hQ hN=>?_
 try dsimp only
 refine WS fun _ D=>a_ 1 U<|RK D<|ai fun _ E=>WS fun _ F=>rP 1 [] I ?_
 refine rS (BI U (qN SV))<|RK F<|cy U (aP fun B=>?_) (aQ fun B=>?_)
 ·refine WS fun _ G=>ml (aD 0 U) B dc fun C=>?_
  have A:l=[]:=by simpa using C
  refine dH 3 1 ?_
  rw [show (own none 0 3 1 ([]:List (List Value)))=own none 0 3 1 (l.map iC) from by rw [A]; rfl]
  refine rP 1 [] I ?_
  refine RK G<|ao ?_
  refine LX hQ (none,0) [0] [] I U U U ?_ ?_
  ·first|rfl|(rw [A]; rfl)
  ·trivial
 refine WK E<|WS fun _ H=>tm U cv U fun J=>rP 1 [] I ?_
 refine dQ (es:=(List.map iC [])) (C':=[own (some ⟨J,0,none⟩) 0 3 1 (List.map iC []),_]) 0 U sm U (by simp [maxLen]) U ?_
 refine c_ (es2:=(List.map iC l)) (m':=l.length) 0 U U U pZ U U sm (aD 1 U) (kb _) os (by first|(simp only [maxLen]; omega)|(simp [maxLen]; omega)) sm sm U fun AA K=>?_
 try dsimp only
 refine rP 1 [] I ?_
 refine RK H<|ao ?_
 refine LX hQ (AA,K) [0] [] I U U U ?_ ?_
 ·first|rfl|(rw [A]; rfl)
 ·trivial
theorem B2 (l:List Int) (lA:OA) (lC:Nat) (f:Value) (key:Int→Int) (X:au) (hf: ∀ x0 x1,x0∈l∧x1∈l→Ef Tryz.prog f [.int .i64 x0,.int .i64 x1] [X] (.int .i64 (key x0-key x1))) (hkb: ∀ x∈l,0≤key x∧key x≤30000000) (hlen:l.length≤1000000):
 Dl Tryz.prog 127 [(vS lA l.length lC),(vI 0),(vI (l.length:Int)),f] [X] (own lA lC 3 1 (l.map iC)) (fun (x:Unit)=>(vT [])) (fun (x:Unit)=>True) (fun (x:Unit)=>(own lA lC 3 1 ((er key l).map iC))):=by
 refine mE kr Tryz.func127 U U fun s Q hQ hN=>?_
 try dsimp only
 refine WS fun _ Z=>a_ 1 U<|rS (SX (bS (r:= .int .i64 1) U U U (gY ⟨dc,dc⟩)) U U)<|rP 1 [] I ?_
 refine RK Z<|ax ?_
 have C:(1≤1∧(1≤l.length∨1=1))∧(l.length=l.length)∧(1=1∧l=[]∨tP key l 1 l)∧(∀ x∈l,x∈l):=by exact ⟨om,rfl,GG,fun x h=>h⟩
 refine bK (ι:={z:Nat×(List Int) // (1≤z.1∧(z.1≤l.length∨z.1=1))∧(z.2.length=l.length)∧(z.1=1∧l=[]∨tP key l z.1 z.2)∧(∀ x∈z.2,x∈l)}) [0,1,2,3] [1] U U (fun z=>[(8,(vI (z.1.1:Int)))]) (fun z=>[(own lA lC 3 1 (z.1.2.map iC))]) (fun _=>rfl) (fun _=>rfl) (fun z=>l.length-z.1.1) ⟨(1,l),C⟩ (aS U) (aI [1,0]) ?_
 clear C
 rintro ⟨⟨i,m⟩,⟨AB,E,F,G⟩⟩ J2 L
 try dsimp only at AB E F G
 try dsimp only
 refine ai fun _ b=>WS fun _ c=>rP 3 [] I ?_
 refine RK c<|bM U (aQ fun p=>?_) (aP fun p=>?_)
 ·refine bw<|ab<|ab<|ay ?_
  rw [show m=er key l from Ja om E F]
  refine LM hN () 1 [] I U U U U ?_
  trivial
 refine WK b<|ai fun _ N=>ax<|WS fun _ d=>rP 2 [] I ?_
 refine RK d<|ax ?_
 have C:(i≤i)∧(m.length=l.length)∧(∀ x∈m,x∈l)∧(Bu key l i i m):=by exact ⟨Nat.le_refl _,E,G,El om (Nq om F)⟩
 refine bK (ι:={z:Nat×(List Int) // (z.1≤i)∧(z.2.length=l.length)∧(∀ x∈z.2,x∈l)∧(Bu key l i z.1 z.2)}) [0,1,2,3,8] [0] U U (fun z=>[(9,(vI (z.1.1:Int)))]) (fun z=>[(own lA lC 3 1 (z.1.2.map iC))]) (fun _=>rfl) (fun _=>rfl) (fun z=>z.1.1) ⟨(i,m),C⟩ (aS U) (aI [0,1]) ?_
 clear C
 rintro ⟨⟨j,q⟩,⟨J,D,A,B⟩⟩ J8 Y
 try dsimp only at J D A B
 try dsimp only
 refine ai fun _ e=>ai fun _ H=>du cq 17 kr<|dP 4 [] I ?_
 refine ji (t:=21) U (aQ fun V=>?_) (aP fun V=>?_)
 ·refine lv 13 U<|cH<|RK H<|aW U<|bw<|ab<|ab<|ay<|aG<|KK N<|ak<|rP 3 [] I ?_
  refine aF ?_
  refine aR (L ⟨((i+1),q),⟨om,D,.inr (by first|exact yr om B|exact yN om B hx hy om),A⟩⟩ _ _ _ U (by simp only []; omega) (aS U) (aI [0,1]))
 refine dP 3 [] I ?_
 obtain ⟨x,hx⟩:=aL q j om
 have K:=bH iC hx
 refine dS (IA j U (ag (n:=l.length) 1 U sq) cv dc om om) ?_
 refine dS (gp j 0 (vI x) U b_ (ag (n:=q.length) 1 U sm) K U dc U)<|dP 3 [] I ?_
 obtain ⟨y,hy⟩:=aL q (j-1) om
 have AA:=bH iC hy
 refine dS (IA (j-1) U (ag (n:=l.length) 1 U sq) cv dc om om) ?_
 refine dS (gp (j-1) 0 (vI y) U b_ (ag (n:=q.length) 1 U sm) AA U dc U)<|dS (SX (sf U U U (hf x y ⟨A _ (aT hx),A _ (aT hy)⟩) (bf [0])) U U)<|dP 2 [] I ?_
 refine cH<|RK H<|bM U (aQ fun W=>?_) (aP fun W=>?_)
 ·refine bw<|ab<|ab<|ay<|aG<|KK N<|ak<|rP 3 [] I ?_
  refine aF ?_
  refine aR (L ⟨((i+1),q),⟨om,D,.inr (by first|exact yr om B|exact yN om B hx hy om),A⟩⟩ _ _ _ U (by simp only []; omega) (aS U) (aI [0,1]))
 refine WK e<|ai fun _ M=>ax<|dD cq [15,16,17] [8,9,12,13,14] [] [0] [0,1] U U U U U<|eS U (MV U)<|eS U (MV U)<|eS U (MV U)<|eS U (MV U)<|eS U (BI U (qk ⟨om,om⟩))<|eS U (MV U)<|eS U (MV U)<|eS U (BI U (qk ⟨om,om⟩)) ?_
 refine fS U (IA (j-1) U (ag (n:=l.length) 1 U sq) cv dc om om) ?_
 refine fS U (gp (j-1) 0 (vI y) U b_ (ag (n:=q.length) 1 U sm) AA U dc U)<|eS U (MV U)<|eS U (MV U) ?_
 refine fS U (IA j U (ag (n:=l.length) 1 U sq) cv dc om om) ?_
 refine fS U (gp j 0 (vI x) U b_ (ag (n:=q.length) 1 U sm) K U dc U) ?_
 refine fS U (IA j U (ag (n:=l.length) 1 U sq) cv dc om om) ?_
 refine eX U<|bX U fun T14 O=>eC (k:=j) (o:=0) (vs:=[(vI y)]) (es':=(List.map iC (q.set j y))) (C':=[_,(own lA lC 3 1 (List.map iC (q.set j y)))]) 1 U U U B1 U U U U K U dc (by exact (List.map_set (f:=iC) (l:=q) (i:=j) (a:=y)).symm) U<|aF (O _ _ (aI [0]) ?_)
 refine bX U fun T15 P=>?_
 obtain ⟨g,T⟩:=aL (q.set j y) (j-1) os
 have hx17m:(List.map iC (q.set j y))[(j-1)]? =some (iC g):=by rw [fw,T]; rfl
 refine rS (IA (j-1) U (ag (n:=l.length) 1 U sq) cv dc om om) ?_
 refine aF (P _ _ (aI [0]) ?_)
 refine bX U fun T18 R=>eC (k:=(j-1)) (o:=0) (vs:=[(vI x)]) (es':=(List.map iC ((q.set j y).set (j-1) x))) (C':=[_,(own lA lC 3 1 (List.map iC ((q.set j y).set (j-1) x)))]) 1 U U U B1 U U U U hx17m U dc (by exact (List.map_set (f:=iC) (l:=(q.set j y)) (i:=(j-1)) (a:=x)).symm) U<|aF (R _ _ (aI [0]) ?_)
 refine fF U<|aG<|KK M<|ak<|rP 3 [] I ?_
 refine aF ?_
 have S:(vI (((j-1):Nat):Int))=(vI ((j:Int)-1)):=by exact cI om
 refine aR (Y ⟨((j-1),((q.set j y).set (j-1) x)),⟨om,by simp; exact D,Lu hx hy A,Gu om B hx hy om⟩⟩ _ _ _ U (by simp only []; omega) (cO 5<|bo U S<|dw.nil _) (aI [0,1]))
theorem J1 (l:List Int) (lA:OA) (lC:Nat) (f:Value) (key:Int→Int) (X:au) (hf: ∀ x0 x1,x0∈l∧x1∈l→Ef Tryz.prog f [.int .i64 x0,.int .i64 x1] [X] (.int .i64 (key x0-key x1))) (hkb: ∀ x∈l,0≤key x∧key x≤30000000) (hlen:l.length≤12):
 Dl Tryz.prog 98 [(vS lA l.length lC),(vI (l.length:Int)),f] [X] (own lA lC 3 1 (l.map iC)) (fun (x:Unit)=>(vT [])) (fun (x:Unit)=>True) (fun (x:Unit)=>(own lA lC 3 1 ((er key l).map iC))):=by
 refine mE kr Tryz.func98 U U fun N Q hQ hN=>?_
 try dsimp only
 refine WS fun _ C=>a_ 1 U<|RK C<|WS fun _ D=>a_ 3 U<|RK D<|ai fun _ E=>ax<|jE 1<|eg fun R4 M=>ai fun _ L=>WS fun _ F=>rP 3 [] I ?_
 refine RK F<|cy U (aP fun K=>?_) (aQ fun K=>?_)
 ·exfalso; omega
 refine bw<|ab<|ab<|ay<|KK E<|WS fun _ G=>rP 4 [] I ?_
 refine iP 0 U U U U (B2 l lA lC f key X (by exact hf) hkb sd) U (dU 1 U U (dC (bP _)) kd) U (fun O J=>?_)
 try dsimp only
 refine RK G<|ax<|jE 1<|eg fun R11 AA=>ai fun _ H=>WS fun _ A=>rP 3 [] I ?_
 refine RK A<|cy U (aP fun B=>?_) (aQ fun B=>?_)
 ·exfalso; omega
 refine bw<|ab<|ab<|ay<|LM hN () 0 [] I U U U U ?_
 trivial
theorem zL (l:List Int) (lA:OA) (lC:Nat) (f:Value) (key:Int→Int) (X:au) (hf: ∀ x0 x1,x0∈l∧x1∈l→Ef Tryz.prog f [.int .i64 x0,.int .i64 x1] [X] (.int .i64 (key x0-key x1))) (hkb: ∀ x∈l,0≤key x∧key x≤30000000) (hlen:l.length≤12):
 Dl Tryz.prog 73 [(vS lA l.length lC),f] [X] (own lA lC 3 1 (l.map iC)) (fun (x:Unit)=>(vT [])) (fun (x:Unit)=>True) (fun (x:Unit)=>(own lA lC 3 1 ((er key l).map iC))):=by
 refine mE kr Tryz.func73 U U fun B Q hQ hN=>?_
 try dsimp only
 refine ak<|rP 4 [] I ?_
 refine iP 0 U U U U (J1 l lA lC f key X (by exact hf) hkb hlen) U (dU 1 U U (dC (bP _)) kd) U (fun C A=>?_)
 try dsimp only
 refine aF<|LM hN () 0 [] I U U U U ?_
 trivial
theorem zE (l:List Int) (lA:OA) (lC:Nat) (f:Value) (key:Int→Int) (X:au) (hf: ∀ x0 x1,x0∈l∧x1∈l→Ef Tryz.prog f [.int .i64 x0,.int .i64 x1] [X] (.int .i64 (key x0-key x1))) (hkb: ∀ x∈l,0≤key x∧key x≤30000000) (hlen:l.length≤12):
 lD Tryz.prog 47 [(vS lA l.length lC),f] [(rd lA l.length 1 (l.map iC)),X] (fun (x:(OA)×Nat)=>(vS x.1 ((er key l).length) x.2)) (fun (x:(OA)×Nat)=>True) (fun (x:(OA)×Nat)=>[(own x.1 x.2 3 1 ((er key l).map iC))]):=by
 refine di kr Tryz.func47 U U fun J Q hQ hN=>?_
 try dsimp only
 refine WS fun _ B=>a_ 1 U<|RK B<|WS fun _ C=>rP 1 [] I ?_
 refine cX (vO l lA lC sd) (bf [0]) U fun AA G=>?_
 obtain ⟨E,F⟩:=AA
 try dsimp only
 refine a_ 1 U<|RK C<|WS fun _ D=>rP 2 [] I ?_
 refine iP 0 U U U U (zL l E F f key X (by exact hf) hkb hlen) U (dU 2 U U (dC (bP _)) kd) U (fun K H=>?_)
 try dsimp only
 refine RK D<|WS fun _ A=>rP 2 [] I ?_
 refine RK A<|ao ?_
 refine LX hQ (E,F) [0] [] I U U U ?_ ?_
 ·first|rfl|(rw [kp]; rfl)
 ·trivial
theorem He (l:List Int) (lA:OA) (lC k:Nat) (hk:k≤l.length) (hlen:l.length≤1000000):
 Dl Tryz.prog 49 [(vS lA k lC)] [] (own lA lC 3 1 (l.map iC)) (fun (x:Unit)=>(vT [])) (fun (x:Unit)=>True) (fun (x:Unit)=>(own lA lC 3 1 ((rV k l).map iC))):=by
 refine mE kr Tryz.func49 U U fun V Q hQ hN=>?_
 try dsimp only
 refine WS fun _ J=>rP 5 [] I ?_
 refine RK J<|ax ?_
 have B:(0≤k)∧(GI l k 0 l):=by exact ⟨Nat.zero_le _,Mm⟩
 have P:(vI ((k:Int)-1-(0:Int)))=(vI ((k:Int)-1)):=by exact cI om
 refine bK (ι:={z:Nat×(List Int) // (z.1≤k)∧(GI l k z.1 z.2)}) [0] [] U U (fun z=>[(2,(vI (z.1.1:Int))),(3,(vI ((k:Int)-1-(z.1.1:Int))))]) (fun z=>[(own lA lC 3 1 (z.1.2.map iC))]) (fun _=>rfl) (fun _=>rfl) (fun z=>k-z.1.1) ⟨(0,l),B⟩ (dw.cons U<|bo U P<|dw.nil _) (aI [0]) ?_
 clear B
 rintro ⟨⟨i,m⟩,⟨C,A⟩⟩ J3 AB
 try dsimp only at C A
 try dsimp only
 have AA:=A.1
 refine ai fun _ K=>WS fun _ L=>rP 3 [] I ?_
 refine RK L<|bM U (aQ fun T=>?_) (aP fun T=>?_)
 ·refine bw<|ab<|ab<|ay ?_
  rw [show m=rV k l from MW hk om A]
  refine LM hN () 0 [] I U U U U ?_
  trivial
 refine WK K<|ai fun _ M=>ax<|dD cq [13,14,15] [6,7,10,11,12] [] [] [0] U U U U U<|eS U (MV U)<|eS U (MV U)<|eS U (MV U)<|eS U (MV U)<|eS U (MV U)<|eS U (MV U) ?_
 obtain ⟨y,hy⟩:=aL m ((((k:Int)-1-(i:Int))).toNat) om
 have R:=bH iC hy
 refine fS U (Rs ((((k:Int)-1-(i:Int))).toNat) U (ag (n:=m.length) 0 U sm) cv dc om om om)<|fS U (gp ((((k:Int)-1-(i:Int))).toNat) 0 (vI y) U b_ (ag (n:=m.length) 0 U sm) R U dc U)<|eS U (MV U)<|eS U (MV U) ?_
 obtain ⟨x,hx⟩:=aL m i om
 have H:=bH iC hx
 refine fS U (Rs i U (ag (n:=m.length) 0 U sm) cv dc om om om)<|fS U (gp i 0 (vI x) U b_ (ag (n:=m.length) 0 U sm) H U dc U)<|fS U (Rs i U (ag (n:=m.length) 0 U sm) cv dc om om om)<|eX U<|bX U fun T8 N=>eC (k:=i) (o:=0) (vs:=[(vI y)]) (es':=(List.map iC (m.set i y))) (C':=[(own lA lC 3 1 (List.map iC (m.set i y)))]) 0 U U U B1 U U U U H U dc (by exact (List.map_set (f:=iC) (l:=m) (i:=i) (a:=y)).symm) U<|aF (N _ _ (aI []) ?_)
 refine bX U fun T9 O=>?_
 obtain ⟨S,G⟩:=aL (m.set i y) ((((k:Int)-1-(i:Int))).toNat) os
 have hx11m:(List.map iC (m.set i y))[(((k:Int)-1-(i:Int))).toNat]? =some (iC S):=by rw [fw,G]; rfl
 refine rS (Rs ((((k:Int)-1-(i:Int))).toNat) U (ag (n:=(m.set i y).length) 0 U sm) cv dc om om (by simp; omega)) ?_
 refine aF (O _ _ (aI []) ?_)
 refine bX U fun T12 D=>eC (k:=(((k:Int)-1-(i:Int))).toNat) (o:=0) (vs:=[(vI x)]) (es':=(List.map iC ((m.set i y).set ((((k:Int)-1-(i:Int))).toNat) x))) (C':=[(own lA lC 3 1 (List.map iC ((m.set i y).set ((((k:Int)-1-(i:Int))).toNat) x)))]) 0 U U U B1 U U U U hx11m U dc (by exact (List.map_set (f:=iC) (l:=(m.set i y)) (i:=(((k:Int)-1-(i:Int))).toNat) (a:=x)).symm) U<|aF (D _ _ (aI []) ?_)
 refine fF U<|aG<|KK M<|ak<|rP 6 [] I ?_
 refine aF ?_
 have E:(vI (((i+1):Nat):Int))=(vI ((i:Int)+1)):=by exact cI om
 have F:(vI ((k:Int)-1-(((i+1):Nat):Int)))=(vI (((k:Int)-1-(i:Int))-1)):=by exact cI om
 refine aR (AB ⟨((i+1),((m.set i y).set ((((k:Int)-1-(i:Int))).toNat) x)),⟨om,KO hk om om A hx hy⟩⟩ _ _ _ U os (dw.cons U<|bo U E<|bo U F<|dw.nil _) (aI [0]))
end
section
open Go.RowKit
theorem L5 (l:List al) (lA:OA) (lC:Nat) (hlen:l.length≤1000000):
 lD Tryz.prog 87 [(vS lA l.length lC)] [(rd lA l.length 9 (l.map al.cells))] (fun (x:(OA)×Nat)=>(vS x.1 l.length x.2)) (fun (x:(OA)×Nat)=>True) (fun (x:(OA)×Nat)=>[(own x.1 x.2 114 9 (l.map al.cells))]):=by
 refine di kr Tryz.func87 U U fun L Q hQ hN=>?_
 try dsimp only
 refine WS fun _ D=>a_ 1 U<|RK D<|ai fun _ E=>WS fun _ F=>rP 1 [] I ?_
 refine rS (BI U (qN PC))<|RK F<|cy U (aP fun B=>?_) (aQ fun B=>?_)
 ·refine WS fun _ G=>ml (aD 0 U) B dc fun C=>?_
  have A:l=[]:=by simpa using C
  refine dH 114 9 ?_
  rw [show (own none 0 114 9 ([]:List (List Value)))=own none 0 114 9 (l.map al.cells) from by rw [A]; rfl]
  refine rP 1 [] I ?_
  refine RK G<|ao ?_
  refine LX hQ (none,0) [0] [] I U U U ?_ ?_
  ·first|rfl|(rw [A]; rfl)
  ·trivial
 refine WK E<|WS fun _ H=>tm U yi U fun J=>rP 1 [] I ?_
 refine dQ (es:=(List.map al.cells [])) (C':=[own (some ⟨J,0,none⟩) 0 114 9 (List.map al.cells []),_]) 0 U sm U (by simp [maxLen]) U ?_
 refine c_ (es2:=(List.map al.cells l)) (m':=l.length) 0 U U U Vo U U sm (aD 1 U) (sh _) os (by first|(simp only [maxLen]; omega)|(simp [maxLen]; omega)) sm sm U fun AA K=>?_
 try dsimp only
 refine rP 1 [] I ?_
 refine RK H<|ao ?_
 refine LX hQ (AA,K) [0] [] I U U U ?_ ?_
 ·first|rfl|(rw [A]; rfl)
 ·trivial
theorem Ls (l:List bB) (lA:OA) (lC:Nat) (hlen:l.length≤1000000):
 lD Tryz.prog 89 [(vS lA l.length lC)] [(rd lA l.length 4 (l.map bB.cells))] (fun (x:(OA)×Nat)=>(vS x.1 l.length x.2)) (fun (x:(OA)×Nat)=>True) (fun (x:(OA)×Nat)=>[(own x.1 x.2 121 4 (l.map bB.cells))]):=by
 refine di kr Tryz.func89 U U fun L Q hQ hN=>?_
 try dsimp only
 refine WS fun _ D=>a_ 1 U<|RK D<|ai fun _ E=>WS fun _ F=>rP 1 [] I ?_
 refine rS (BI U (qN Qf))<|RK F<|cy U (aP fun B=>?_) (aQ fun B=>?_)
 ·refine WS fun _ G=>ml (aD 0 U) B dc fun C=>?_
  have A:l=[]:=by simpa using C
  refine dH 121 4 ?_
  rw [show (own none 0 121 4 ([]:List (List Value)))=own none 0 121 4 (l.map bB.cells) from by rw [A]; rfl]
  refine rP 1 [] I ?_
  refine RK G<|ao ?_
  refine LX hQ (none,0) [0] [] I U U U ?_ ?_
  ·first|rfl|(rw [A]; rfl)
  ·trivial
 refine WK E<|WS fun _ H=>tm U vw U fun J=>rP 1 [] I ?_
 refine dQ (es:=(List.map bB.cells [])) (C':=[own (some ⟨J,0,none⟩) 0 121 4 (List.map bB.cells []),_]) 0 U sm U (by simp [maxLen]) U ?_
 refine c_ (es2:=(List.map bB.cells l)) (m':=l.length) 0 U U U Vc U U sm (aD 1 U) (vx _) os (by first|(simp only [maxLen]; omega)|(simp [maxLen]; omega)) sm sm U fun AA K=>?_
 try dsimp only
 refine rP 1 [] I ?_
 refine RK H<|ao ?_
 refine LX hQ (AA,K) [0] [] I U U U ?_ ?_
 ·first|rfl|(rw [A]; rfl)
 ·trivial
theorem JQ (l:List cw) (lA:OA) (lC:Nat) (hlen:l.length≤1000000):
 lD Tryz.prog 90 [(vS lA l.length lC)] [(rd lA l.length 3 (l.map cw.cells))] (fun (x:(OA)×Nat)=>(vS x.1 l.length x.2)) (fun (x:(OA)×Nat)=>True) (fun (x:(OA)×Nat)=>[(own x.1 x.2 116 3 (l.map cw.cells))]):=by
 refine di kr Tryz.func90 U U fun L Q hQ hN=>?_
 try dsimp only
 refine WS fun _ D=>a_ 1 U<|RK D<|ai fun _ E=>WS fun _ F=>rP 1 [] I ?_
 refine rS (BI U (qN Pf))<|RK F<|cy U (aP fun B=>?_) (aQ fun B=>?_)
 ·refine WS fun _ G=>ml (aD 0 U) B dc fun C=>?_
  have A:l=[]:=by simpa using C
  refine dH 116 3 ?_
  rw [show (own none 0 116 3 ([]:List (List Value)))=own none 0 116 3 (l.map cw.cells) from by rw [A]; rfl]
  refine rP 1 [] I ?_
  refine RK G<|ao ?_
  refine LX hQ (none,0) [0] [] I U U U ?_ ?_
  ·first|rfl|(rw [A]; rfl)
  ·trivial
 refine WK E<|WS fun _ H=>tm U qE U fun J=>rP 1 [] I ?_
 refine dQ (es:=(List.map cw.cells [])) (C':=[own (some ⟨J,0,none⟩) 0 116 3 (List.map cw.cells []),_]) 0 U sm U (by simp [maxLen]) U ?_
 refine c_ (es2:=(List.map cw.cells l)) (m':=l.length) 0 U U U Q_ U U sm (aD 1 U) (vz _) os (by first|(simp only [maxLen]; omega)|(simp [maxLen]; omega)) sm sm U fun AA K=>?_
 try dsimp only
 refine rP 1 [] I ?_
 refine RK H<|ao ?_
 refine LX hQ (AA,K) [0] [] I U U U ?_ ?_
 ·first|rfl|(rw [A]; rfl)
 ·trivial
theorem Me (l:List aM) (lA:OA) (lC:Nat) (hlen:l.length≤1000000):
 lD Tryz.prog 93 [(vS lA l.length lC)] [(rd lA l.length 2 (l.map aM.cells))] (fun (x:(OA)×Nat)=>(vS x.1 l.length x.2)) (fun (x:(OA)×Nat)=>True) (fun (x:(OA)×Nat)=>[(own x.1 x.2 123 2 (l.map aM.cells))]):=by
 refine di kr Tryz.func93 U U fun L Q hQ hN=>?_
 try dsimp only
 refine WS fun _ D=>a_ 1 U<|RK D<|ai fun _ E=>WS fun _ F=>rP 1 [] I ?_
 refine rS (BI U (qN RM))<|RK F<|cy U (aP fun B=>?_) (aQ fun B=>?_)
 ·refine WS fun _ G=>ml (aD 0 U) B dc fun C=>?_
  have A:l=[]:=by simpa using C
  refine dH 123 2 ?_
  rw [show (own none 0 123 2 ([]:List (List Value)))=own none 0 123 2 (l.map aM.cells) from by rw [A]; rfl]
  refine rP 1 [] I ?_
  refine RK G<|ao ?_
  refine LX hQ (none,0) [0] [] I U U U ?_ ?_
  ·first|rfl|(rw [A]; rfl)
  ·trivial
 refine WK E<|WS fun _ H=>tm U z5 U fun J=>rP 1 [] I ?_
 refine dQ (es:=(List.map aM.cells [])) (C':=[own (some ⟨J,0,none⟩) 0 123 2 (List.map aM.cells []),_]) 0 U sm U (by simp [maxLen]) U ?_
 refine c_ (es2:=(List.map aM.cells l)) (m':=l.length) 0 U U U Ug U U sm (aD 1 U) (s_ _) os (by first|(simp only [maxLen]; omega)|(simp [maxLen]; omega)) sm sm U fun AA K=>?_
 try dsimp only
 refine rP 1 [] I ?_
 refine RK H<|ao ?_
 refine LX hQ (AA,K) [0] [] I U U U ?_ ?_
 ·first|rfl|(rw [A]; rfl)
 ·trivial
theorem JJ (es:List (List Value)) (lA:OA) (n lC:Nat) (hlen:n≤1000000) (hes:es.length=n) (hone: ∀ v∈es.flatten,v.oneCell'=true):
 lD Tryz.prog 88 [(vS lA n lC)] [(rd lA n 2 es)] (fun (x:(OA)×Nat)=>(vS x.1 n x.2)) (fun (x:(OA)×Nat)=>True) (fun (x:(OA)×Nat)=>[(own x.1 x.2 119 2 es)]):=by
 refine di kr Tryz.func88 U U fun L Q hQ hN=>?_
 try dsimp only
 refine WS fun _ D=>a_ 1 U<|RK D<|ai fun _ E=>WS fun _ F=>rP 1 [] I ?_
 refine rS (BI U (qN Tp))<|RK F<|cy U (aP fun B=>?_) (aQ fun B=>?_)
 ·refine WS fun _ G=>ml (aD 0 U) B dc fun C=>?_
  have A:es=[]:=C
  refine dH 119 2 ?_
  rw [show (own none 0 119 2 ([]:List (List Value)))=own none 0 119 2 es from by rw [A]]
  refine rP 1 [] I ?_
  refine RK G<|ao ?_
  refine LX hQ (none,0) [0] [] I U U U ?_ ?_
  ·first|rfl|(rw [hes]; rfl)|(rw [← hes,A]; rfl)
  ·trivial
 refine WK E<|WS fun _ H=>tm U Ar U fun J=>rP 1 [] I ?_
 refine dQ (es:=(List.map dk.cells [])) (C':=[own (some ⟨J,0,none⟩) 0 119 2 (List.map dk.cells []),_]) 0 U sm U (by simp [maxLen]) U ?_
 refine c_ (es2:=es) (m':=es.length) 0 U U U Vr U U sm (aD 1 U) hone (by simp; omega) (by simp [maxLen]; omega) sm U U fun AA K=>?_
 try dsimp only
 refine rP 1 [] I ?_
 refine RK H<|ao ?_
 refine LX hQ (AA,K) [0] [] I U U U ?_ ?_
 ·first|rfl|(rw [hes]; rfl)|(rw [← hes,A]; rfl)
 ·trivial
theorem LL (es:List (List Value)) (lA:OA) (n lC:Nat) (hlen:n≤1000000) (hes:es.length=n) (hone: ∀ v∈es.flatten,v.oneCell'=true):
 lD Tryz.prog 92 [(vS lA n lC)] [(rd lA n 7 es)] (fun (x:(OA)×Nat)=>(vS x.1 n x.2)) (fun (x:(OA)×Nat)=>True) (fun (x:(OA)×Nat)=>[(own x.1 x.2 45 7 es)]):=by
 refine di kr Tryz.func92 U U fun L Q hQ hN=>?_
 try dsimp only
 refine WS fun _ D=>a_ 1 U<|RK D<|ai fun _ E=>WS fun _ F=>rP 1 [] I ?_
 refine rS (BI U (qN Si))<|RK F<|cy U (aP fun B=>?_) (aQ fun B=>?_)
 ·refine WS fun _ G=>ml (aD 0 U) B dc fun C=>?_
  have A:es=[]:=C
  refine dH 45 7 ?_
  rw [show (own none 0 45 7 ([]:List (List Value)))=own none 0 45 7 es from by rw [A]]
  refine rP 1 [] I ?_
  refine RK G<|ao ?_
  refine LX hQ (none,0) [0] [] I U U U ?_ ?_
  ·first|rfl|(rw [hes]; rfl)|(rw [← hes,A]; rfl)
  ·trivial
 refine WK E<|WS fun _ H=>tm U wK U fun J=>rP 1 [] I ?_
 refine dQ (es:=(List.map bq.cells [])) (C':=[own (some ⟨J,0,none⟩) 0 45 7 (List.map bq.cells []),_]) 0 U sm U (by simp [maxLen]) U ?_
 refine c_ (es2:=es) (m':=es.length) 0 U U U Uv U U sm (aD 1 U) hone (by simp; omega) (by simp [maxLen]; omega) sm U U fun AA K=>?_
 try dsimp only
 refine rP 1 [] I ?_
 refine RK H<|ao ?_
 refine LX hQ (AA,K) [0] [] I U U U ?_ ?_
 ·first|rfl|(rw [hes]; rfl)|(rw [← hes,A]; rfl)
 ·trivial
theorem JO (es:List (List Value)) (lA:OA) (n lC:Nat) (hlen:n≤1000000) (hes:es.length=n) (hone: ∀ v∈es.flatten,v.oneCell'=true):
 lD Tryz.prog 91 [(vS lA n lC)] [(rd lA n 1 es)] (fun (x:(OA)×Nat)=>(vS x.1 n x.2)) (fun (x:(OA)×Nat)=>True) (fun (x:(OA)×Nat)=>[(own x.1 x.2 46 1 es)]):=by
 refine di kr Tryz.func91 U U fun L Q hQ hN=>?_
 try dsimp only
 refine WS fun _ D=>a_ 1 U<|RK D<|ai fun _ E=>WS fun _ F=>rP 1 [] I ?_
 refine rS (BI U (qN To))<|RK F<|cy U (aP fun B=>?_) (aQ fun B=>?_)
 ·refine WS fun _ G=>ml (aD 0 U) B dc fun C=>?_
  have A:es=[]:=C
  refine dH 46 1 ?_
  rw [show (own none 0 46 1 ([]:List (List Value)))=own none 0 46 1 es from by rw [A]]
  refine rP 1 [] I ?_
  refine RK G<|ao ?_
  refine LX hQ (none,0) [0] [] I U U U ?_ ?_
  ·first|rfl|(rw [hes]; rfl)|(rw [← hes,A]; rfl)
  ·trivial
 refine WK E<|WS fun _ H=>tm U rF U fun J=>rP 1 [] I ?_
 refine dQ (es:=(List.map sC [])) (C':=[own (some ⟨J,0,none⟩) 0 46 1 (List.map sC []),_]) 0 U sm U (by simp [maxLen]) U ?_
 refine c_ (es2:=es) (m':=es.length) 0 U U U Uo U U sm (aD 1 U) hone (by simp; omega) (by simp [maxLen]; omega) sm U U fun AA K=>?_
 try dsimp only
 refine rP 1 [] I ?_
 refine RK H<|ao ?_
 refine LX hQ (AA,K) [0] [] I U U U ?_ ?_
 ·first|rfl|(rw [hes]; rfl)|(rw [← hes,A]; rfl)
 ·trivial
end
end Go.Proofs.YtadjgjnicdcjbaaGreatDoor
