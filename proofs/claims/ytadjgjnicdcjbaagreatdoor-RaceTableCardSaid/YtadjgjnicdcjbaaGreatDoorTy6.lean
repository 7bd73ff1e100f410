/-
 The statement raceTable_said, part 6 of 8: OpenM, V2, V1, V4, V3, V5, V6, V8, Wh2, Rc2, Rc3, Rc4, Rs3, Rs4, Rs6, Rs7, Rs8, RkB, RaB, RtB, Rp0, Rp1, Rp2, Rt1, RkS, RaS, RtS, Rx1, Rx3, DrawB.
 Conditions: none.
-/
import Derived.Test.YtadjgjnicdcjbaaGreatDoorTy1
import Derived.Test.YtadjgjnicdcjbaaGreatDoorTy2
import Derived.Test.YtadjgjnicdcjbaaGreatDoorTy3
import Derived.Test.YtadjgjnicdcjbaaGreatDoorTy4
import Derived.Test.YtadjgjnicdcjbaaGreatDoorTy5
namespace Go.Proofs.YtadjgjnicdcjbaaGreatDoor
set_option maxRecDepth 100000
set_option maxHeartbeats 4000000
set_option linter.unusedVariables false
section
open Go.RowKit
theorem j9 {a:OA} {c e sz n:Nat} {es:List (List Value)} (h:es.length=n):Mt (own a c e sz es) (rd a n sz es):=by subst h; exact Nm
theorem tm {L:List aq}:Mt (bw L) (eW L):=⟨fun w h=>h.1,fun b h=>h⟩
theorem Ov {b:Nat} {fb:List Nat} {g:Nat} (h:fb.length=b):aV ru (List.replicate b ([]:TM)) fb++[gV iV g (bK dv [])]=aV ru (List.replicate (b+1) ([]:TM)) (fb++[g]):=by
 rw [List.replicate_succ']
 exact zl (by rw [List.length_replicate]; exact h.symm) U
theorem U7 {α:Type} {ms:List α} {fb:List Nat} {n:Nat} (h:fb.length=n) (h2:ms.length=n):List.map oC (eo fb n)=List.zipWith gD ms fb:=by
 rw [zJ h]; exact (zW I).symm
theorem vQ {l:a_} {r:cv} {i:Nat} {x:aK} (hx:r.ag[i]? =some x) (h: ¬ j_ l r.ag i x): ¬ e7 l r:=fun q=>h (q.sig i x hx)
end
section
open Go.RowKit
theorem r_ (ln:ck) (ri:eC) (e:List Int) (tms:List TM) (e_A:OA) (e_C:Nat) (tb:List Nat) (t_A:OA) (t_C:Nat) (fA:OA) (fN fC:Nat) (bA:OA) (bN bC:Nat) (gw b:Nat) (g1 g2:Nat) (hb:b<tms.length) (htb:tb.length=tms.length):
 E4 Tryz.prog 220 [] [(vP g1),(vP g2)] [(rd e_A e.length 1 (e.map iC)),(rd t_A tms.length 1 (List.zipWith gD tms tb)),(eW (aV ru tms tb)),(bV gw 274 (bW.cells (bW.mk ln ri (br.mk e_A e.length e_C) (br.mk t_A tms.length t_C) (br.mk fA fN fC) (br.mk bA bN bC)))),(bV g1 263 [(vP gw)]),(bV g2 3 [(vI (b:Int))])] ([]:List (Int×aa)) (fun ys x ys'=> ∃ o,o∈il (cE ln ri e tms) b∧x=Pc o∧ys'=ys++[o]) (fun ys=> ∀ o∈il (cE ln ri e tms) b,o∈ys):=by
 refine th kr Tryz.func220 U U fun l J Z A0 d Q hY V AA hQ hN=>?_
 try dsimp only
 refine ah fun _ X=>ah fun _ R=>dA cu 12 kr<|mJ 2 [] (mr 5 U mn) U<|dS (SX (bI U U) U U)<|mJ 4 [0,1] (mr 4 U (mr 5 U mn)) U<|dS (SX (bI U U) U U)<|dP 3 [] (mr 4 U mn) ?_
 refine dS (SX (bh (xs:=[(0,.tmp 11),(1,.tmp 16)]) (cs:=(aa.cells (aa.mk ri.Start ri.fZ))) U U (bg gf U)) U U)<|cL<|km (k:=([]:List (Int×aa))) (k':=(([]:List (Int×aa))++[((-1),(aa.mk ri.Start ri.fZ))])) 0 (by first|exact hsz|exact Nat.le_refl _) hY V AA U U U (by exact ⟨(-1,⟨ri.Start,ri.fZ⟩),cb ..,U,U⟩) U U (fun B3 N M=>?_) (fun B3 N M=>?_)
 rotate_left 1
 ·refine rP 1 [] mn ?_
  refine RK R<|aO U<|an ?_
  refine hQ _ _ _ (gU (vs:=[]) trivial fun w hs=>rG 0 U N M hs)
 refine bf 1 U<|RK R<|aW U<|WK X<|ah fun _ Y=>dA cu 7 kr<|mJ 1 [] (mr 5 U mn) U<|dS (SX (bI U U) U U)<|dP 3 [0,1] (mr 4 U (mr 6 U mn)) ?_
 obtain ⟨x,hx⟩:=aJ tms b I
 obtain ⟨xa,L⟩:=aJ tb b I
 have a:(List.zipWith gD tms tb)[b]? =some (gD x xa):=dy hx L
 refine dS (IA b U (aD 2 U) Gl dc I I)<|dS (fV b 0 (Value.map (some xa)) U bX (aD 2 U) a U dc U)<|cL<|jW (kV:=iV) (m:=bK dv x) 3 U U l7 U ⟨⟨(gV iV xa (bK dv x)),(bM hx L (by simp [ru])),U⟩,fun h=>h⟩ (show ij _ (gV iV xa (bK dv x)).holds from du 3 U (bM hx L (by simp [ru]))) U fun j=>?_
 try dsimp only
 refine RK Y<|av ?_
 have G:(∀ o∈x,o∈x∨o∈(([]:List (Int×aa))++[((-1),(aa.mk ri.Start ri.fZ))]))∧(∀ o∈x,o∈x)∧(J (([]:List (Int×aa))++[((-1),(aa.mk ri.Start ri.fZ))]) B3)∧(Fo A0 d B3)∧((-1,(⟨ri.Start,ri.fZ⟩:aa))∈(([]:List (Int×aa))++[((-1),(aa.mk ri.Start ri.fZ))])):=by exact ⟨fun o ho=> .inl ho,fun o ho=>ho,asm,asm,sm⟩
 refine bH (ι:={z:TM×(List (Int×aa))×aq // (∀ o∈x,o∈z.1∨o∈z.2.1)∧(∀ o∈z.1,o∈x)∧(J z.2.1 z.2.2)∧(Fo A0 d z.2.2)∧((-1,(⟨ri.Start,ri.fZ⟩:aa))∈z.2.1)}) [0,1,2,27] [2,3,4,6,7] U U (fun z=>[]) (fun z=>[(yQ iV j xa (bK dv x) (bK dv z.1.1) none),z.1.2.2]) (fun _=>rfl) (fun _=>rfl) (fun z=>z.1.1.length) ⟨(x,(([]:List (Int×aa))++[((-1),(aa.mk ri.Start ri.fZ))]),B3),G⟩ (dh.nil _) (aH [2,3,4,6,7,0,1]) ?_
 clear G
 rintro ⟨⟨left,ys,A⟩,⟨B,C,D,E,F⟩⟩ J8 W
 try dsimp only at B C D E F
 try dsimp only
 refine WS fun _ S=>ja (dC oG).inj (f:=dv) 5 U U U U (fun T=>?_) (fun i z hm hn=>?_)
 ·refine rP 1 [] mn ?_
  refine RK S<|ah fun _ c=>aW U<|bu<|ab<|ab<|au ?_
  refine hN _ _ _ (gU (vs:=[]) trivial fun w hs=>Ke 6 U (by exact HX hx B T F) D E hs)
 try dsimp only
 refine bf 1 U<|RK S<|ah fun _ O=>aO U<|WK O<|av<|WS fun _ P=>rS (SX (i_ 5 U U U) U U)<|bf 2 U<|AL U de fun g=>bf 1 U<|fP U cm U<|RK P<|WS fun _ K=>rP 3 [] (mc 0 U mn) ?_
 refine km (k:=ys) (k':=(ys++[(i,z)])) 7 (by first|exact hsz|exact Nat.le_refl _) hY D E U U U (by exact ⟨(i,z),(x9 hx).2 (.inr (C _ hm)),U,U⟩) U U (fun B15 AB H=>?_) (fun B15 AB H=>?_)
 rotate_left 1
 ·refine rP 1 [] mn ?_
  refine RK K<|aO U<|an ?_
  refine hQ _ _ _ (gU (vs:=[]) trivial fun w hs=>rG 7 U AB H hs)
 refine rP 1 [] mn ?_
 refine RK K<|aW U<|bZ<|aG<|gT 6 U fr U ?_
 refine aS (W ⟨((cp left i),(ys++[(i,z)]),B15),⟨Hv hn hm B,l5 C,asm,asm,by simp [F]⟩⟩ _ _ _ U (eO hm) (aT U) (aH [1,2,3,4,5,6,7]))
theorem uV (gw b:Nat):
 lq Tryz.prog 212 [(vP gw),(vI (b:Int))] [] (fun (x:Nat×Nat)=>(Value.func (.func 220) [].toArray [(Value.pointer (some ⟨x.1,0,none⟩)),(Value.pointer (some ⟨x.2,0,none⟩))].toArray)) (fun (x:Nat×Nat)=>True) (fun (x:Nat×Nat)=>[(bV x.1 263 [(vP gw)]),(bV x.2 3 [(vI (b:Int))])]):=by
 refine dj kr Tryz.func212 U U fun E Q hQ hN=>?_
 try dsimp only
 refine WS fun _ A=>uI U U fun C=>uI U U fun D=>bf 1 U<|RK A<|WS fun _ B=>rS (FU U)<|rP 1 [] mn ?_
 refine RK B<|an<|LX hQ (C,D) [1,0] [] mn U U U U ?_
 trivial
theorem Jp (gw b:Nat):
 lq Tryz.prog 207 [(vP gw),(vI (b:Int))] [] (fun (x:Nat×Nat)=>(Value.func (.func 211) [].toArray [(Value.pointer (some ⟨x.1,0,none⟩)),(Value.pointer (some ⟨x.2,0,none⟩))].toArray)) (fun (x:Nat×Nat)=>True) (fun (x:Nat×Nat)=>[(bV x.1 263 [(vP gw)]),(bV x.2 3 [(vI (b:Int))])]):=by
 refine dj kr Tryz.func207 U U fun E Q hQ hN=>?_
 try dsimp only
 refine WS fun _ A=>uI U U fun C=>uI U U fun D=>bf 1 U<|RK A<|WS fun _ B=>rS (FU U)<|rP 1 [] mn ?_
 refine RK B<|an<|LX hQ (C,D) [1,0] [] mn U U U U ?_
 trivial
end
section
open Go.RowKit
theorem oU:ub Tryz.prog 280 dW:=MT ON (fun x y w=>Qd 9998 x y w) (fun x y h=>by cases x; cases y; simp [aB.cells] at h; simp [h]) (fun x=>by simp [aB.cells,Instr.sameBits]) (fun x w=>⟨_,rfl,fun p hp=>by
 simp only [d_,List.not_mem_nil,or_false] at hp
 rcases hp with rfl|rfl
 ·exact ⟨⟨_,jM bX U w⟩,_,oG⟩
 ·exact ⟨⟨_,jM bX U w⟩,_,oG⟩⟩)
theorem JD (s:Int):
 dT Tryz.prog 215 [(vI s)] [] (vA (aB.cells (fc s))):=by
 refine bx kr Tryz.func215 U U fun H Q hQ hN=>?_
 try dsimp only
 refine WS fun _ B=>AL U tg fun G=>RK B<|ah fun _ C=>WS fun _ D=>rP 2 [] mn ?_
 refine RK D<|cy U (aL fun A=>?_) (aM fun A=>?_)
 ·refine WS fun _ E=>rS (SX (bh (xs:=[(1,.const (vI 1))]) (cs:=(aB.cells (aB.mk 0 1))) U U (bg CD U)) U U)<|fP U rL U<|RK E<|an<|Ie hQ [0] (mc 0 U mn) U ?_
  unfold fc; first|rw [if_pos A]|rw [if_neg A]
 refine WK C<|WS fun _ F=>rS (SX (bh (xs:=[(0,.const (vI 1))]) (cs:=(aB.cells (aB.mk 1 0))) U U (bg CD U)) U U)<|fP U rL U<|RK F<|an<|Ie hQ [0] (mc 0 U mn) U ?_
 unfold fc; first|rw [if_pos A]|rw [if_neg A]
theorem v9 (x:aB) (y:aB) (hx:(0≤x.right∧x.right≤1000)∧0≤x.eJ∧x.eJ≤1000) (hy:(0≤y.right∧y.right≤1000)∧0≤y.eJ∧y.eJ≤1000):
 dT Tryz.prog 214 [(vA (aB.cells x)),(vA (aB.cells y))] [] (vA (aB.cells (dk x y))):=by
 refine bx kr Tryz.func214 U U fun F Q hQ hN=>?_
 try dsimp only
 refine WS fun _ A=>fK U fun C=>fK U fun D=>AL U tg fun E=>RK A<|WS fun _ B=>rP 10 [0,1,0,1] (mc 2 U (mc 1 U mn)) ?_
 refine rS (SX (bh (xs:=[(0,.tmp 9),(1,.tmp 14)]) (cs:=(aB.cells (aB.mk (x.right+y.right) (x.eJ+y.eJ)))) U U (bg CD U)) U U)<|fP U rL U<|RK B<|an ?_
 exact Ie hQ [0] (mc 0 U mn) U U
theorem Pm (ln:ck) (ri:eC) (e:List Int) (tms:List TM) (e_A:OA) (e_C:Nat) (tb:List Nat) (t_A:OA) (t_C:Nat) (fs:List FM) (bs:List FM) (fb:List Nat) (f_A:OA) (f_C:Nat) (bb:List Nat) (b_A:OA) (b_C gw:Nat) (x:aB) (hx:(0≤x.right∧x.right≤1000)∧0≤x.eJ∧x.eJ≤1000) (hn:ri.ag.n≤1000):
 dT Tryz.prog 213 [(vP gw),(vA (aB.cells x))] [(rd e_A e.length 1 (e.map iC)),(rd t_A tms.length 1 (List.zipWith gD tms tb)),(eW (aV ru tms tb)),(rd f_A fs.length 1 (List.zipWith gD fs fb)),(eW (aV nQ fs fb)),(rd b_A bs.length 1 (List.zipWith gD bs bb)),(eW (aV nQ bs bb)),(bV gw 274 (bW.cells (bW.mk ln ri (br.mk e_A e.length e_C) (br.mk t_A tms.length t_C) (br.mk f_A fs.length f_C) (br.mk b_A bs.length b_C))))] (vB (kq (cE ln ri e tms) x)):=by
 refine bx kr Tryz.func213 U U fun E Q hQ hN=>?_
 try dsimp only
 refine WS fun _ C=>fK U fun D=>bf 1 U<|RK C<|ah fun _ B=>dA cu 26 kr<|mJ 3 [] (mc 0 U mn) U<|dS (SX (bI U U) U U)<|dP 5 [] (mr 8 U mn) ?_
 refine jh (t:=13) U (aM fun A=>?_) (aL fun A=>?_)
 ·refine dP 17 [] mn ?_
  refine cL<|RK B<|an<|Q1 hQ U U U ?_
  exact cB (cf (fun h=>A h.1)).symm
 refine lJ 1 U<|dS (SX (bI U U) U U)<|mJ 8 [0,1] (mr 8 U (mc 0 U mn)) U<|dS (SX (bI U U) U U)<|dP 6 [] (mr 8 U mn) ?_
 refine cL<|RK B<|an<|Q1 hQ U U U ?_
 exact cB (decide_eq_decide.2 ⟨fun h=>⟨A,h⟩,fun h=>h.2⟩)
end
section
open Go.RowKit
theorem HP (ln:ck) (ri:eC) (e:List Int) (tms:List TM) (e_A:OA) (e_C:Nat) (tb:List Nat) (t_A:OA) (t_C:Nat) (fs:List FM) (bs:List FM) (fb:List Nat) (f_A:OA) (f_C:Nat) (bb:List Nat) (b_A:OA) (b_C gw:Nat) (b g1 g2:Nat) (mf:FM) (mb:FM) (hb:b<e.length) (hw:HZ (cE ln ri e tms)) (htb:tb.length=tms.length) (hfw:xz (cE ln ri e tms) fs) (hfb:fb.length=fs.length) (hbw:uC (cE ln ri e tms) bs) (hbb:bb.length=bs.length) (hsg:ri.ag.n≤1000) (hm1:fs[b]? =some mf) (hm2:bs[b+1]? =some mb):
 E4 Tryz.prog 211 [] [(vP g1),(vP g2)] [(rd e_A e.length 1 (e.map iC)),(rd t_A tms.length 1 (List.zipWith gD tms tb)),(eW (aV ru tms tb)),(rd f_A fs.length 1 (List.zipWith gD fs fb)),(eW (aV nQ fs fb)),(rd b_A bs.length 1 (List.zipWith gD bs bb)),(eW (aV nQ bs bb)),(bV gw 274 (bW.cells (bW.mk ln ri (br.mk e_A e.length e_C) (br.mk t_A tms.length t_C) (br.mk f_A fs.length f_C) (br.mk b_A bs.length b_C)))),(bV g1 263 [(vP gw)]),(bV g2 3 [(vI (b:Int))])] ([]:List (Int×aa)) (fun ys x ys'=> ∃ q,q∈pN (cE ln ri e tms) b mf mb∧x=Pc q∧ys'=ys++[q]) (fun ys=> ∀ q∈pN (cE ln ri e tms) b mf mb,q∈ys):=by
 have A7:e.length≤6:=hw.n
 have A8:tms.length=e.length:=hw.times
 have Az:fs.length=e.length+1:=hfw.len
 have Ay:bs.length=e.length+1:=hbw.len
 refine th kr Tryz.func211 U U fun l J Z A0 w0 Q hY Ae Ad hQ hN=>?_
 try dsimp only
 refine WS fun _ Af=>uI U U fun b2=>RK Af<|WS fun _ Ag=>rP 2 [0,1] (mr 10 U (mr 11 U mn)) ?_
 refine cX (uV gw b) (aI) U fun y4 A9=>?_
 obtain ⟨AX,AY⟩:=y4
 try dsimp only
 refine RK Ag<|av<|ku 4 U (by exact fun _ h=>h)<|ku 6 U (by exact fun _ h=>h)<|ku 8 U (by exact fun _ h=>h)<|ku 14 U (by exact fun _ h=>h) ?_
 refine nG (L0:=[(0,(Value.func (.yield l) #[] #[])),(1,(vP g1)),(2,(vP g2)),(3,(vP b2))]) (F:=[(rd e_A e.length 1 (e.map iC)).ro,(rd t_A tms.length 1 (List.zipWith gD tms tb)).ro,(eW (aV ru tms tb)).ro,(bV gw 274 (bW.cells (bW.mk ln ri (br.mk e_A e.length e_C) (br.mk t_A tms.length t_C) (br.mk f_A fs.length f_C) (br.mk b_A bs.length b_C)))).ro,(bV AX 263 [(vP gw)]),(bV AY 3 [(vI (b:Int))])]) (fun k (y:(List (Int×aa))×aq)=>(lx (cE ln ri e tms) b mf mb k y.1)∧(J y.1 y.2)∧(Fo A0 w0 y.2)) (fun k y=>[(bV b2 277 [(Value.func (.yield l) #[] #[])]),y.2,(rd e_A e.length 1 (e.map iC)).ro,(rd t_A tms.length 1 (List.zipWith gD tms tb)).ro,(eW (aV ru tms tb)).ro,(rd f_A fs.length 1 (List.zipWith gD fs fb)).ro,(eW (aV nQ fs fb)).ro,(rd b_A bs.length 1 (List.zipWith gD bs bb)).ro,(eW (aV nQ bs bb)).ro,(bV gw 274 (bW.cells (bW.mk ln ri (br.mk e_A e.length e_C) (br.mk t_A tms.length t_C) (br.mk f_A fs.length f_C) (br.mk b_A bs.length b_C)))).ro,(bV g1 263 [(vP gw)]).ro,(bV g2 3 [(vI (b:Int))]).ro]) (fun c (z:aq)=>(c= .ret∧(Z z)∧(Fo A0 w0 z))) (fun _ z=>[(bV b2 277 [(Value.func (.yield l) #[] #[])]),z,(rd e_A e.length 1 (e.map iC)).ro,(rd t_A tms.length 1 (List.zipWith gD tms tb)).ro,(eW (aV ru tms tb)).ro,(rd f_A fs.length 1 (List.zipWith gD fs fb)).ro,(eW (aV nQ fs fb)).ro,(rd b_A bs.length 1 (List.zipWith gD bs bb)).ro,(eW (aV nQ bs bb)).ro,(bV gw 274 (bW.cells (bW.mk ln ri (br.mk e_A e.length e_C) (br.mk t_A tms.length t_C) (br.mk f_A fs.length f_C) (br.mk b_A bs.length b_C)))).ro,(bV g1 263 [(vP gw)]).ro,(bV g2 3 [(vI (b:Int))]).ro]) [6,7,8,9,10,11,12,13,14,15,16,17] [3,2,1,0,4,5] (([]:List (Int×aa)),A0) rfl rfl (r_ ln ri e tms e_A e_C tb t_A t_C f_A fs.length f_C b_A bs.length b_C gw b AX AY I I) rfl rfl rfl (by exact ⟨lx.nil,Ae,Ad⟩) (by simp only [List.forall_mem_cons,List.not_mem_nil,false_imp_iff,implies_true,and_true]; exact ⟨⟨_,aR (i:=0) rfl,(dD (bO _))⟩,⟨_,aR (i:=1) rfl,(dD (bO _))⟩,⟨_,aR (i:=2) rfl,(dD (bO _))⟩,⟨_,aR (i:=3) rfl,(dD (bO _))⟩,⟨_,aR (i:=4) rfl,(bO _)⟩,⟨_,aR (i:=5) rfl,(bO _)⟩⟩) (by rintro k x k2 ⟨o,_,rfl,_⟩; rfl) rfl (aT rfl) ?_ ?_ ?_ ?_
 rotate_left 1
 ·rintro BA k ⟨ys,A⟩ AS AC
  obtain ⟨X,Y,a⟩:=AC
  try dsimp only at X Y a
  try dsimp only
  refine aG ?_
  refine hN _ _ _ (ou 0 U U<|gU (vs:=[]) trivial fun w hs=>Ke 8 U (by exact lx.fin X AS) Y a hs)
 ·rintro BB id A AV
  simp at AV
 ·rintro BC A AW
  obtain ⟨hc,Ak,Al⟩:=AW
  try dsimp only
  refine hQ _ _ _ (ou 0 U U<|gU (vs:=[]) trivial fun w hs=>rG 8 U Ak Al hs)
 rintro k x k2 ⟨ys,A⟩ lr ra rb S w1 K8 Qr9 Am hx AB Ah AP At AZ
 obtain ⟨o,ho,rfl,rfl⟩:=hx
 obtain ⟨X,Y,a⟩:=AB
 try dsimp only at X Y a
 try dsimp only
 refine WS fun _ AG=>rP 1 [] mn ?_
 refine RK AG<|aj<|AL U de fun Au=>fP U cm U<|aC<|jy (fun _ _ h=>h) (aH [1,0,2,3,4,5,6,7,8,9,10,11,12,13])<|aS (Ah _ _ ?_)
 refine av<|ah fun _ AH=>dA cu 7 kr<|mJ 1 [] (mr 12 U mn) U<|dS (SX (bI U U) U U)<|dP 3 [0,1] (mr 11 U (mr 13 U mn)) ?_
 obtain ⟨ga,s⟩:=aJ fb b I
 have AT:(List.zipWith gD fs fb)[b]? =some (gD mf ga):=dy hm1 s
 refine dS (IA b U (aD 7 U) n7 dc I I)<|dS (fV b 0 (Value.map (some ga)) U bX (aD 7 U) AT U dc U)<|cL<|jW (kV:=dW) (m:=bK iV mf) 8 U U o2 U ⟨⟨(gV dW ga (bK iV mf)),(bM hm1 s (by simp [nQ])),U⟩,fun h=>h⟩ (show ij _ (gV dW ga (bK iV mf)).holds from du 8 U (bM hm1 s (by simp [nQ]))) U fun Ap=>?_
 try dsimp only
 refine RK AH<|av ?_
 have C:(∀ p∈mf,p∈mf)∧(nK (cE ln ri e tms) b mf mb o mf ys)∧(lx (cE ln ri e tms) b mf mb k ys)∧(J ys A)∧(Fo A0 w0 A):=by exact ⟨fun p hp=>hp,nK.start,X,Y,a⟩
 refine bH (ι:={z:FM×(List (Int×aa))×aq // (∀ p∈z.1,p∈mf)∧(nK (cE ln ri e tms) b mf mb o z.1 z.2.1)∧(lx (cE ln ri e tms) b mf mb k z.2.1)∧(J z.2.1 z.2.2)∧(Fo A0 w0 z.2.2)}) [0,1,2,3,4,5,23] [1,2,3,5,6,7,8,9,10,11,12,13,14] U U (fun z=>[]) (fun z=>[(yQ dW Ap ga (bK iV mf) (bK iV z.1.1) none),z.1.2.2]) (fun _=>rfl) (fun _=>rfl) (fun z=>z.1.1.length) ⟨(mf,ys,A),C⟩ (dh.nil _) (aH [1,2,3,5,6,7,8,9,10,11,12,13,14,0,4]) ?_
 clear C
 rintro ⟨⟨left,ys,A⟩,⟨K,M,N,O,P⟩⟩ J15 AF
 try dsimp only at K M N O P
 try dsimp only
 refine WS fun _ j=>ja oU.inj (f:=iV) 13 U U U U (fun Ab=>?_) (fun t v hm hn=>?_)
 ·refine rP 1 [] mn ?_
  refine RK j<|ah fun _ Ar=>aW U<|bu<|ab<|ab<|au<|aG ?_
  exact AP (ys,A) _ _ (by exact ⟨lx.next N M Ab,O,P⟩) (aH [0,2,14,3,4,5,6,7,8,9,10,11,12])
 try dsimp only
 refine bf 1 U<|RK j<|ah fun _ AI=>aO U<|WK AI<|av<|WS fun _ AJ=>rS (SX (i_ 13 U U U) U U)<|bf 2 U<|AL U tg fun Av=>fP U rL U<|bf 1 U<|RK AJ<|ah fun _ AK=>dA cu 8 kr<|mJ 1 [] (mr 12 U mn) U<|dS (SX (bI U U) U U)<|dP 4 [0,1] (mr 11 U (mr 13 U mn)) ?_
 obtain ⟨gb,AA⟩:=aJ bb (b+1) I
 have AU:(List.zipWith gD bs bb)[(b+1)]? =some (gD mb gb):=dy hm2 AA
 refine dS (IA (b+1) U (aD 9 U) n7 dc I I)<|dS (fV (b+1) 0 (Value.map (some gb)) U bX (aD 9 U) AU U dc U)<|cL<|jW (kV:=dW) (m:=bK iV mb) 10 U U o2 U ⟨⟨(gV dW gb (bK iV mb)),(bM hm2 AA (by simp [nQ])),U⟩,fun h=>h⟩ (show ij _ (gV dW gb (bK iV mb)).holds from du 10 U (bM hm2 AA (by simp [nQ]))) U fun Aq=>?_
 try dsimp only
 refine RK AK<|av ?_
 have C:(∀ p∈mb,p∈mb)∧(nj (cE ln ri e tms) b mb o (t,v) mb ys)∧(nK (cE ln ri e tms) b mf mb o left ys)∧(lx (cE ln ri e tms) b mf mb k ys)∧(J ys A)∧(Fo A0 w0 A):=by exact ⟨fun p hp=>hp,nj.start,M,N,O,P⟩
 refine bH (ι:={z:FM×(List (Int×aa))×aq // (∀ p∈z.1,p∈mb)∧(nj (cE ln ri e tms) b mb o (t,v) z.1 z.2.1)∧(nK (cE ln ri e tms) b mf mb o left z.2.1)∧(lx (cE ln ri e tms) b mf mb k z.2.1)∧(J z.2.1 z.2.2)∧(Fo A0 w0 z.2.2)}) [0,1,2,3,4,5,6,7,23,37] [1,2,3,4,5,6,7,8,9,10,11,12,13,14,15] U U (fun z=>[]) (fun z=>[(yQ dW Aq gb (bK iV mb) (bK iV z.1.1) none),z.1.2.2]) (fun _=>rfl) (fun _=>rfl) (fun z=>z.1.1.length) ⟨(mb,ys,A),C⟩ (dh.nil _) (aH [1,2,3,4,5,6,7,8,9,10,11,12,13,14,15,0,16]) ?_
 clear C
 rintro ⟨⟨l2,T,A2⟩,⟨B,D,E,G,H,Aa⟩⟩ J23 V
 try dsimp only at B D E G H Aa
 try dsimp only
 refine WS fun _ r=>ja oU.inj (f:=iV) 15 U U U U (fun Ac=>?_) (fun u z L AD=>?_)
 ·refine rP 1 [] mn ?_
  refine RK r<|ah fun _ As=>aW U<|bu<|ab<|ab<|au<|aG<|gT 14 U fr U ?_
  refine aS (AF ⟨((cp left t),T,A2),⟨l5 K,nK.next hn hm E D Ac,G,H,Aa⟩⟩ _ _ _ U (eO hm) (aT U) (aH [1,2,3,4,5,6,7,8,9,10,11,12,13,14,16]))
 try dsimp only
 refine bf 1 U<|RK r<|ah fun _ AM=>aO U<|WK AM<|av<|WS fun _ AN=>rS (SX (i_ 15 U U U) U U)<|bf 2 U<|AL U tg fun Aw=>fP U rL U<|rP 1 [] mn ?_
 refine RK AN<|ah fun _ AO=>dG cu [17,18] [] [] [0,1,2,3,4,5,6,7,8,9,10,11,12,13,14,15,16,17] [] U U U U U<|eS U (MV U)<|eS U (TI 13 U bX U)<|eS U (SX (bI U U) U U)<|eS U (FA 10 U fu U)<|eS U (Ib (vS e_A e.length e_C) 12 U bX U U)<|eS U (TI 14 U bX U) ?_
 obtain ⟨y,hy⟩:=aJ e b I
 have An:=bG iC hy
 refine eS U (IA b U (aD 5 U) cq dc I I)<|eS U (fV b 0 (vI y) U bX (aD 5 U) An U dc U) ?_
 have A1:=hw.least y (aR hy)
 have Aj:=Jz hw _ _ (hfw.mem hm1 (K _ hm))
 have Ai:=KC hw (hbw.mem hm2 (B _ L))
 have A3:=ud o.1
 have A4:=hw.opt ho
 dsimp only at Aj Ai
 refine eS U (BI U (ib ⟨I,I⟩))<|eS U (FA 0 U fu U)<|eS U (L1 (vI o.2.Lo) 3 U bX U U)<|eS U (MX U)<|eS U (MV U)<|eS U (FA 1 U fu U)<|eS U (L1 (vI o.2.Hi) 3 U bX U U)<|eS U (MN U)<|eS U (SX (bh (xs:=[(0,.tmp 54),(1,.tmp 58)]) (cs:=(aa.cells (aa.mk (max (v+y) o.2.Lo) (min z o.2.Hi)))) U U (bg gf U)) U U)<|eV U<|bY U fun T30 AQ=>AL U de fun Ax=>aC (AQ _ _ (aH [1,2,3,4,5,6,7,8,9,10,11,12,13,14,15,16,17,18]) ?_)
 refine bY U fun T32 AR=>fP U cm U<|aC (AR _ _ (aH [1,2,3,4,5,6,7,8,9,10,11,12,13,14,15,16,17,18]) ?_)
 refine fF U<|KK AO<|ah fun _ R=>dA cu 19 kr<|dP 6 [] (mc 0 U mn) ?_
 refine jh (t:=65) U (aM fun d=>?_) (aL fun d=>?_)
 ·refine lJ 3 U<|lJ 10 U<|cL<|rP 3 [] mn ?_
  refine RK R<|aW U<|bZ<|aG<|gT 17 U fr U ?_
  refine aS (V ⟨((cp l2 u),T,A2),⟨l5 B,nj.skip AD L D (by exact GR hy d),E,G,H,Aa⟩⟩ _ _ _ U (eO L) (aT U) (aH [2,3,4,5,6,7,8,9,10,11,12,13,14,15,16,17,18]))
 refine dP 3 [0,1,2] (mr 14 U (mc 2 U (mc 1 U mn))) ?_
 have A6:(0≤(dk t u).right∧(dk t u).right≤1000)∧0≤(dk t u).eJ∧(dk t u).eJ≤1000:=by simp only [dk]; omega
 have A5:(0≤(dk (dk t u) (fc o.1)).right∧(dk (dk t u) (fc o.1)).right≤1000)∧0≤(dk (dk t u) (fc o.1)).eJ∧(dk (dk t u) (fc o.1)).eJ≤1000:=by simp only [dk]; omega
 refine dS (CL (v9 t u I I) (aI) U)<|lJ 1 U<|dS (CL (JD o.1) (aI) U)<|dS (CL (v9 (dk t u) (fc o.1) asm I) (aI) U)<|dS (CL (Pm ln ri e tms e_A e_C tb t_A t_C fs bs fb f_A f_C bb b_A b_C gw (dk (dk t u) (fc o.1)) asm hsg) (bj [6,7,8,9,10,11,12,13]) U)<|dP 2 [] mn ?_
 refine jh (t:=75) U (fun g=>?_) (fun g=>?_)
 ·refine lJ 3 U<|cL<|rP 3 [] mn ?_
  refine RK R<|aW U<|bZ<|aG<|gT 17 U fr U ?_
  refine aS (V ⟨((cp l2 u),T,A2),⟨l5 B,nj.skip AD L D (by exact GU g),E,G,H,Aa⟩⟩ _ _ _ U (eO L) (aT U) (aH [2,3,4,5,6,7,8,9,10,11,12,13,14,15,16,17,18]))
 refine dP 3 [0,1] (mc 5 U (mc 0 U mn)) ?_
 refine cL<|km (k:=T) (k':=(T++[(o.1,(aa.mk (max (v+y) o.2.Lo) (min z o.2.Hi)))])) 18 (by first|exact Am|exact Nat.le_refl _) hY H Aa U U U (by exact ⟨(o.1,_),g8.2 ⟨o,ho,(t,v),K _ hm,(u,z),B _ L,(BL hy d g)⟩,U,U⟩) U U (fun B34 W AE=>?_) (fun B34 W AE=>?_)
 rotate_left 1
 ·refine rP 2 [] mn ?_
  refine RK R<|aO U<|an ?_
  exact AZ B34 _ _ (by exact ⟨U,W,AE⟩) (aH [3,5,18,6,7,8,9,10,11,12,13,14,15])
 refine rP 2 [] mn ?_
 refine RK R<|aW U<|bZ<|aG<|gT 17 U fr U ?_
 refine aS (V ⟨((cp l2 u),(T++[(o.1,(aa.mk (max (v+y) o.2.Lo) (min z o.2.Hi)))]),B34),⟨l5 B,nj.UC AD L D (BL hy d g),E.app,G.app,W,AE⟩⟩ _ _ _ U (eO L) (aT U) (aH [2,3,4,5,6,7,8,9,10,11,12,13,14,15,16,17,18]))
end
section
open Go.RowKit
theorem H5 (ln:ck) (ri:eC) (e:List Int) (tms:List TM) (e_A:OA) (e_C:Nat) (tb:List Nat) (t_A:OA) (t_C:Nat) (fs:List FM) (bs:List FM) (fb:List Nat) (f_A:OA) (f_C:Nat) (bb:List Nat) (b_A:OA) (b_C gw:Nat) (hw:HZ (cE ln ri e tms)) (hsg:ri.ag.n≤1000) (hn:ln.ae.n=e.length) (hfw:xz (cE ln ri e tms) fs) (hfb:fb.length=fs.length):
 lq Tryz.prog 210 [(vP gw)] [(rd e_A e.length 1 (e.map iC)),(rd t_A tms.length 1 (List.zipWith gD tms tb)),(eW (aV ru tms tb)),(rd f_A fs.length 1 (List.zipWith gD fs fb)),(eW (aV nQ fs fb)),(rd b_A bs.length 1 (List.zipWith gD bs bb)),(eW (aV nQ bs bb)),(bV gw 274 (bW.cells (bW.mk ln ri (br.mk e_A e.length e_C) (br.mk t_A tms.length t_C) (br.mk f_A fs.length f_C) (br.mk b_A bs.length b_C))))] (fun (x:(OA)×Nat)=>(vS x.1 ((jz (cE ln ri e tms)).length) x.2)) (fun (x:(OA)×Nat)=>True) (fun (x:(OA)×Nat)=>[(own x.1 x.2 3 1 ((jz (cE ln ri e tms)).map iC))]):=by
 have y:e.length≤6:=hw.n
 have u:fs.length=e.length+1:=hfw.len
 refine dj kr Tryz.func210 U U fun w0 Q hQ hN=>?_
 try dsimp only
 refine WS fun _ X=>bf 1 U<|RK X<|WS fun _ Y=>bf 1 U<|RK Y<|ah fun _ Z=>WS fun _ b=>bf 1 U<|rS (SX (bI U U) U U)<|rP 6 [] (mr 7 U mn) ?_
 refine RK b<|av<|fT 3 1 ?_
 have A:(0≤e.length+1):=by exact Nat.zero_le _
 refine bH (ι:={z:Nat×(OA)×Nat // (z.1≤e.length+1)}) [0,12] [1,2,3,4,5,6,7,8] U U (fun z=>[(3,(vS z.1.2.1 ((kh (cE ln ri e tms) z.1.1).length) z.1.2.2)),(13,(vI (z.1.1:Int)))]) (fun z=>[(own z.1.2.1 z.1.2.2 3 1 ((kh (cE ln ri e tms) z.1.1).map iC))]) (fun _=>rfl) (fun _=>rfl) (fun z=>e.length+1-z.1.1) ⟨(0,none,0),A⟩ (aT U) (aH [1,2,3,4,5,6,7,8,0]) ?_
 clear A
 rintro ⟨⟨n,a,c⟩,G⟩ J5 AB
 try dsimp only at G
 try dsimp only
 refine WS fun _ d=>rP 1 [] mn ?_
 refine RK d<|ah fun _ g=>bL U (aM fun s=>?_) (aL fun s=>?_)
 ·refine bu<|ab<|ab<|au<|KK Z<|WS fun _ P=>?_
  rw [show kh (cE ln ri e tms) n=jz (cE ln ri e tms) by (obtain rfl:n=e.length+1:=by omega); rfl]
  refine rP 2 [] mn ?_
  refine RK P<|an<|LX hQ (a,c) [8] [] mn U U U U ?_
  trivial
 refine WK g<|ah fun _ R=>av<|WS fun _ J=>bf 2 U<|RK J<|WS fun _ K=>bf 1 U<|rS (SX (bI U U) U U)<|rP 3 [] (mr 7 U mn) ?_
 obtain ⟨m,B⟩:=aJ fs n I
 obtain ⟨ma,hm0a⟩:=aJ fb n I
 have hm0m:(List.zipWith gD fs fb)[n]? =some (gD m ma):=dy B hm0a
 refine rS (IA n U (aD 3 U) n7 dc I I)<|rS (fV n 0 (Value.map (some ma)) U bX (aD 3 U) hm0m U dc U)<|jW (kV:=dW) (m:=bK iV m) 4 U U o2 U ⟨⟨(gV dW ma (bK iV m)),(bM B hm0a (by simp [nQ])),U⟩,fun h=>h⟩ (show ij _ (gV dW ma (bK iV m)).holds from du 4 U (bM B hm0a (by simp [nQ]))) U fun l=>?_
 try dsimp only
 refine RK K<|av ?_
 have A:(∀ p∈m,p∈m)∧(∀ p∈m,p∈m∨kq (cE ln ri e tms) p.1=false):=by exact ⟨fun p hp=>hp,fun p hp=> .inl hp⟩
 refine bH (ι:={z:FM // (∀ p∈z,p∈m)∧(∀ p∈m,p∈z∨kq (cE ln ri e tms) p.1=false)}) [0,3,4,12,13,23] [1,2,3,4,5,6,7,8,9] U U (fun z=>[]) (fun z=>[(yQ dW l ma (bK iV m) (bK iV z.1) none)]) (fun _=>rfl) (fun _=>rfl) (fun z=>z.1.length) ⟨m,A⟩ (dh.nil _) (aH [1,2,3,4,5,6,7,8,9,0]) ?_
 clear A
 rintro ⟨left,⟨C,D⟩⟩ J13 H
 try dsimp only
 refine WS fun _ F=>ja oU.inj (f:=iV) 9 U U U U (fun W=>?_) (fun t v hm i=>?_)
 ·refine bf 1 U<|RK F<|ah fun _ o=>aW U<|bu<|ab<|ab<|au<|aG<|KK R<|aj<|rP 2 [] mn ?_
  refine aC ?_
  rw [← Hb (w:=(cE ln ri e tms)) (k:=n) ((B2 (hfw.min _ _ B) (hfw.keys _ _ B)).symm.trans (Lp D W))]
  have S:(vI (((n+1):Nat):Int))=(vI ((n:Int)+1)):=by exact cI I
  refine aS (AB ⟨((n+1),a,c),(by first|omega|(simp only []; omega))⟩ _ _ _ U os (ct 3<|aX U S<|dh.nil _) (aH [0,1,2,3,4,5,6,7,8]))
 try dsimp only
 refine bf 1 U<|RK F<|ah fun _ L=>aO U<|WK L<|av<|WS fun _ M=>rS (SX (i_ 9 U U U) U U)<|bf 1 U<|AL U tg fun q=>fP U rL U<|RK M<|WS fun _ N=>rP 2 [] (mc 0 U mn) ?_
 have j:=Jz hw _ _ (hfw.mem B (C _ hm))
 dsimp only at j
 refine rS (CL (Pm ln ri e tms e_A e_C tb t_A t_C fs bs fb f_A f_C bb b_A b_C gw t I hsg) (bj [1,2,3,4,5,6,7,8]) U)<|RK N<|bL U (fun E=>?_) (fun E=>?_)
 ·refine bZ<|aG<|gT 10 U fr U ?_
  refine aS (H ⟨(cp left t),⟨l5 C,Mc i hm D (by first|exact E|simpa using E)⟩⟩ _ _ _ U (eO hm) (aT U) (aH [1,2,3,4,5,6,7,8,9,10]))
 refine WS fun _ O=>rP 2 [] mn ?_
 refine cU (xs:=[.tmp 32]) (cs:=[(vI (n:Int))]) U cq jd U U U U (by simp [Value.cells]) U U fun r=>?_
 have hy:jg (cE ln ri e tms) (fwd (cE ln ri e tms) n)=true:=(B2 (hfw.min _ _ B) (hfw.keys _ _ B)).symm.trans (NK (C _ hm) E)
 refine db (es2:=(List.map iC (kh (cE ln ri e tms) (n+1)))) (m':=(kh (cE ln ri e tms) (n+1)).length) 10 U U U pX U U sm (aZ (es:=List.map iC [(n:Int)]) 0 U U (by simp [bB]) U) (kf _) (by have:=wW (w:=(cE ln ri e tms)) (k:=n); first|omega|(simp; omega)) (by have:=wW (w:=(cE ln ri e tms)) (k:=n); simp only [maxLen]; omega) (by rw [EV hy]; simp) sm U fun AA V=>?_
 try dsimp only
 refine bf 1 U<|RK O<|bu<|iA U<|ab<|au<|aG<|KK R<|aj<|rP 2 [] mn ?_
 refine aC ?_
 have T:(vI (((n+1):Nat):Int))=(vI ((n:Int)+1)):=by exact cI I
 refine aS (AB ⟨((n+1),AA,V),(by first|omega|(simp only []; omega))⟩ _ _ _ U os (ct 3<|aX U T<|dh.nil _) (aH [2,3,4,5,6,7,8,9,10]))
end
section
open Go.RowKit
theorem LB (ln:ck) (ri:eC) (e:List Int) (tms:List TM) (e_A:OA) (e_C:Nat) (tb:List Nat) (t_A:OA) (t_C gw:Nat) (hw:HZ (cE ln ri e tms)) (hn:ln.ae.n=e.length) (htb:tb.length=tms.length):
 Dr Tryz.prog 209 [(vP gw)] [(rd e_A e.length 1 (e.map iC)),(rd t_A tms.length 1 (List.zipWith gD tms tb)),(eW (aV ru tms tb))] (bV gw 274 (bW.cells (bW.mk ln ri (br.mk e_A e.length e_C) (br.mk t_A tms.length t_C) (br.mk none 0 0) (br.mk none 0 0)))) (fun (x:(List FM)×(List Nat)×(OA)×Nat×(List FM)×(List Nat)×(OA)×Nat)=>(vT [])) (fun (x:(List FM)×(List Nat)×(OA)×Nat×(List FM)×(List Nat)×(OA)×Nat)=>xz (cE ln ri e tms) x.1∧uC (cE ln ri e tms) x.2.2.2.2.1∧x.2.1.length=x.1.length∧x.2.2.2.2.2.1.length=x.2.2.2.2.1.length) (fun (x:(List FM)×(List Nat)×(OA)×Nat×(List FM)×(List Nat)×(OA)×Nat)=>(bw [(bV gw 274 (bW.cells (bW.mk ln ri (br.mk e_A e.length e_C) (br.mk t_A tms.length t_C) (br.mk x.2.2.1 x.1.length x.2.2.2.1) (br.mk x.2.2.2.2.2.2.1 x.2.2.2.2.1.length x.2.2.2.2.2.2.2)))),(own x.2.2.1 x.2.2.2.1 278 1 (List.zipWith gD x.1 x.2.1)),(bw (aV nQ x.1 x.2.1)),(own x.2.2.2.2.2.2.1 x.2.2.2.2.2.2.2 278 1 (List.zipWith gD x.2.2.2.2.1 x.2.2.2.2.2.1)),(bw (aV nQ x.2.2.2.2.1 x.2.2.2.2.2.1))])):=by
 have Cd:e.length≤6:=hw.n
 have Ce:tms.length=e.length:=hw.times
 refine mF kr Tryz.func209 U U fun w0 Q hQ hN=>?_
 try dsimp only
 refine WS fun _ Ad=>uI U U fun W=>RK Ad<|WS fun _ Ag=>fw 1 [] (mc 0 U mn) U<|rS (SX (bI U U) U U)<|rP 5 [] (mc 1 U mn) ?_
 refine RK Ag ?_
 refine nV (ι:={z:(OA)×(OA) // True}) [0,1,2] [0,2,3,4] U U (fun z=>[]) (fun z=>[(own z.1.1 (ln.ae.n+1) 278 1 (List.map oC (List.replicate (ln.ae.n+1) (none:Option Nat)))),(own z.1.2 (ln.ae.n+1) 278 1 (List.map oC (List.replicate (ln.ae.n+1) (none:Option Nat)))),(bV gw 274 (bW.cells (bW.mk ln ri (br.mk e_A e.length e_C) (br.mk t_A tms.length t_C) (br.mk z.1.1 (ln.ae.n+1) (ln.ae.n+1)) (br.mk z.1.2 (ln.ae.n+1) (ln.ae.n+1)))))]) (fun _=>rfl) (fun _=>rfl) ?_ fun K4 Ah=>?_
 ·rintro ⟨⟨fA,bA⟩,_⟩
  try dsimp only
  refine De 6 U U fun wz Sz hz=>?_
  have Ca:(List.replicate (ln.ae.n+1) (none:Option Nat)).length=(ln.ae.n+1):=List.length_replicate
  try dsimp only
  refine nV (ι:={z:Nat // True}) [0,1,2] [0,1,2,3,4,6] U U (fun z=>[]) (fun z=>[(bw (aV nQ [[((aB.mk 0 0),ri.Start)]] [z.1])),(own fA (ln.ae.n+1) 278 1 (List.map oC (eo [z.1] (ln.ae.n+1))))]) (fun _=>rfl) (fun _=>rfl) ?_ fun K5 B5=>?_
  ·rintro ⟨ga,_⟩
   try dsimp only
   refine ah fun _ Ai=>WS fun _ Aj=>rP 2 [] mn ?_
   refine RK Aj<|av<|oz ?_
   have C:(0≤ln.ae.n)∧(([[((aB.mk 0 0),ri.Start)]]).length=0+1)∧(([ga]).length=0+1)∧(pQ (cE ln ri e tms) ([[((aB.mk 0 0),ri.Start)]])):=by exact ⟨Nat.zero_le _,rfl,rfl,pQ.first⟩
   refine we (ι:={z:Nat×(List FM)×(List Nat)×(List Nat) // (z.1≤ln.ae.n)∧(z.2.1.length=z.1+1)∧(z.2.2.1.length=z.1+1)∧(pQ (cE ln ri e tms) z.2.1)}) (fun z=>z.1.2.2.2.map lp) (fun z=>[(0,(vP gw)),(1,(vP W)),(2,(vI (ln.ae.n:Int))),(52,(vI (ln.ae.n:Int))),(53,(vI (z.1.1:Int)))]) (fun z=>[(bw (z.1.2.2.2.map lH)),(bV gw 274 (bW.cells (bW.mk ln ri (br.mk e_A e.length e_C) (br.mk t_A tms.length t_C) (br.mk fA (ln.ae.n+1) (ln.ae.n+1)) (br.mk bA (ln.ae.n+1) (ln.ae.n+1))))).ro,(bV W 263 [(vP gw)]),(rd e_A e.length 1 (e.map iC)).ro,(rd t_A tms.length 1 (List.zipWith gD tms tb)).ro,(eW (aV ru tms tb)).ro,(own bA (ln.ae.n+1) 278 1 (List.map oC (List.replicate (ln.ae.n+1) (none:Option Nat)))),(bw (aV nQ z.1.2.1 z.1.2.2.1)),(own fA (ln.ae.n+1) 278 1 (List.map oC (eo z.1.2.2.1 (ln.ae.n+1))))]) (fun z=>ln.ae.n-z.1.1) ⟨(0,[[((aB.mk 0 0),ri.Start)]],[ga],([]:List Nat)),C⟩ U (aT U) (aH [0,1,2,3,4,5,6,7,8]) ?_
   clear C
   rintro ⟨⟨b,fs,fb,Bz⟩,⟨Ax,AK,Ay,M⟩⟩ J8 B4
   try dsimp only at Ax AK Ay M
   try dsimp only
   have Cb:(eo fb (ln.ae.n+1)).length=(ln.ae.n+1):=re I
   refine WS fun _ Ak=>rP 1 [] mn ?_
   refine RK Ak<|ah fun _ AB=>cy U (aL fun B2=>?_) (aM fun B2=>?_)
   ·refine WK AB<|ah fun _ BB=>av<|WS fun _ BC=>rP 1 [] mn ?_
    refine AL U jd fun s=>H8 U Cg U U<|RK BC<|ah fun _ BD=>dG cu [6,8] [6] [0] [0,1,2,3,4,5,6,7,8] [0,1,2,3,4,5,6,7,8,9] U U U U U<|eS U (EY 3 U bX U)<|eS U (SX (bI U U) U U)<|eS U (FA 12 U fu U)<|eS U (Ib (vS fA (ln.ae.n+1) (ln.ae.n+1)) 2 U bX U U)<|eS U (EY 0 U bX U)<|eS U (BI U (ib ⟨I,I⟩)) ?_
    obtain ⟨CH,Bw⟩:=aJ (eo fb (ln.ae.n+1)) (b+1) I
    have hx17m:(List.map oC (eo fb (ln.ae.n+1)))[(b+1)]? =some (oC CH):=by rw [fq,Bw]; rfl
    refine fS U (IA (b+1) U (ai (n:=(ln.ae.n+1)) 9 U sq) n7 dc I I) ?_
    refine eV U<|iB U fun T18 Bd=>mz (kV:=dW) U U fun B=>?_
    try dsimp only
    refine aC (Bd _ _ (aH [1,2,3,4,5,6,7,8,9]) (aH [1,2,3,4,5,6,7,8,9,10]) ?_)
    refine bY U fun T20 Be=>?_
    have Bn:((eo fb (ln.ae.n+1)).set (b+1) (some B))=(eo (fb++[B]) (ln.ae.n+1)):=by exact uN I I
    refine eu (k:=(b+1)) (o:=0) (vs:=[(Value.map (some B))]) (es':=(List.map oC (eo (fb++[B]) (ln.ae.n+1)))) (C':=[_,_,_,_,_,_,_,_,_,_,(own fA (ln.ae.n+1) 278 1 (List.map oC (eo (fb++[B]) (ln.ae.n+1))))]) 10 U U U Kz U U U U hx17m U dc (by exact (List.map_set (f:=oC) (l:=(eo fb (ln.ae.n+1))) (i:=(b+1)) (a:=(some B))).symm.trans (congrArg _ Bn)) U<|aC (Be _ _ (aH [1,2,3,4,5,6,7,8,9]) ?_)
    refine fF U<|KK BD<|ah fun _ BE=>?_
    have B9:(eo (fb++[B]) (ln.ae.n+1)).length=(ln.ae.n+1):=re (by simp; omega)
    obtain ⟨mb,N⟩:=aJ fs b I
    obtain ⟨ga,Z⟩:=aJ fb b I
    refine Gf 9 N Z U U U ?_
    try dsimp only
    refine dA cu 7 kr<|mJ 1 [] (mc 6 U mn) U<|dS (SX (bI U U) U U)<|dP 3 [0,1] (mr 5 U (mc 3 U mn)) ?_
    have Br:(List.map oC (eo (fb++[B]) (ln.ae.n+1)))[b]? =some (oC (some ga)):=rI (oO (JN Z))
    refine dS (IA b U (ai (n:=(ln.ae.n+1)) 11 U sq) n7 dc I I) ?_
    refine dS (fV b 0 (Value.map (some ga)) U bX (ai (n:=(eo (fb++[B]) (ln.ae.n+1)).length) 11 U sm) Br U dc U)<|cL<|uR 0 U U o2 U U fun AS=>?_
    try dsimp only
    refine RK BE<|av ?_
    have C:(∀ p∈mb,p∈mb)∧(xY (cE ln ri e tms) b ([]:FM))∧(jK (cE ln ri e tms) b mb ([]:FM) mb):=by exact ⟨fun p hp=>hp,xY.start,jK.start⟩
    refine we (ι:={z:FM×FM×(List Nat) // (∀ p∈z.1,p∈mb)∧(xY (cE ln ri e tms) b z.2.1)∧(jK (cE ln ri e tms) b mb z.2.1 z.1)}) (fun z=>z.1.2.2.map lp) (fun z=>[(0,(vP gw)),(1,(vP W)),(2,(vI (ln.ae.n:Int))),(3,(vP s)),(52,(vI (ln.ae.n:Int))),(53,(vI (b:Int))),(71,(vP AS))]) (fun z=>[(yW dW AS ga (bK iV mb) (bK iV z.1.1) none),(bw (fp nQ fs fb b)),(gV dW B (bK iV z.1.2.1)),(bV s 3 [(vI (b:Int))]),(bw (z.1.2.2.map lH)),(bV gw 274 (bW.cells (bW.mk ln ri (br.mk e_A e.length e_C) (br.mk t_A tms.length t_C) (br.mk fA (ln.ae.n+1) (ln.ae.n+1)) (br.mk bA (ln.ae.n+1) (ln.ae.n+1))))).ro,(bV W 263 [(vP gw)]),(rd e_A e.length 1 (e.map iC)).ro,(rd t_A tms.length 1 (List.zipWith gD tms tb)).ro,(eW (aV ru tms tb)).ro,(own bA (ln.ae.n+1) 278 1 (List.map oC (List.replicate (ln.ae.n+1) (none:Option Nat)))),(own fA (ln.ae.n+1) 278 1 (List.map oC (eo (fb++[B]) (ln.ae.n+1))))]) (fun z=>z.1.1.length) ⟨(mb,([]:FM),Bz),C⟩ U (aT U) (aH [0,1,2,3,4,5,6,7,8,9,10,11]) ?_
    clear C
    rintro ⟨⟨left,m,AM⟩,⟨c,d,g⟩⟩ J26 A_
    try dsimp only at c d g
    try dsimp only
    refine WS fun _ AV=>r8 oU.inj (f:=iV) 0 U U U U (fun B3=>?_) (fun t v hm Az=>?_)
    ·refine bf 1 U<|RK AV<|ah fun _ CR=>aW U<|bu<|ab<|ab<|au<|aG<|KK BB<|aj<|rP 2 [] mn ?_
     refine aC<|JO (C':=[(gV dW ga (bK iV mb)),(bw (fp nQ fs fb b)),(gV dW B (bK iV m)),(bV s 3 [(vI (b:Int))]),(bw (AM.map lH)),(bV gw 274 (bW.cells (bW.mk ln ri (br.mk e_A e.length e_C) (br.mk t_A tms.length t_C) (br.mk fA (ln.ae.n+1) (ln.ae.n+1)) (br.mk bA (ln.ae.n+1) (ln.ae.n+1))))).ro,(bV W 263 [(vP gw)]),(rd e_A e.length 1 (e.map iC)).ro,(rd t_A tms.length 1 (List.zipWith gD tms tb)).ro,(eW (aV ru tms tb)).ro,(own bA (ln.ae.n+1) 278 1 (List.map oC (List.replicate (ln.ae.n+1) (none:Option Nat)))),(own fA (ln.ae.n+1) 278 1 (List.map oC (eo (fb++[B]) (ln.ae.n+1))))]) 0 U JJ U<|JP 1 0 N Z U U U ?_
     try dsimp only
     refine BY (X':=aV nQ (fs++[m]) (fb++[B])) 0 1 U U (zl I U) ?_
     try dsimp only
     have Bo:(vI (((b+1):Nat):Int))=(vI ((b:Int)+1)):=by exact cI I
     refine aS (B4 ⟨((b+1),(fs++[m]),(fb++[B]),AM),⟨I,by simp; omega,by simp; omega,M.add AK N d g B3⟩⟩ _ _ _ U os (ct 4<|aX U Bo<|dh.nil _) (aH [2,3,4,5,6,7,8,0,9]))
    try dsimp only
    refine bf 1 U<|RK AV<|ah fun _ BF=>aO U<|WK BF<|av<|WS fun _ BG=>rS (SX (sk 0 U U U) U U)<|bf 2 U<|AL U tg fun A2=>AL U jd fun A3=>ua U rL U<|H8 U Cg U U<|RK BG<|WS fun _ BH=>rP 2 [0,1] (mc 8 U (mc 5 U mn)) ?_
    refine cX (uV gw b) (aI) U fun CM CU=>?_
    obtain ⟨AY,Ab⟩:=CM
    try dsimp only
    refine RK BH<|av<|ku 11 U (by exact fun _ h=>h)<|ku 13 U (by exact fun _ h=>h)<|ku 15 U (by exact fun _ h=>h)<|ku 12 U (by exact fun _ h=>h) ?_
    refine nG (L0:=[(0,(vP gw)),(1,(vP W)),(2,(vI (ln.ae.n:Int))),(3,(vP s)),(4,(vP A2)),(5,(vP A3)),(52,(vI (ln.ae.n:Int))),(53,(vI (b:Int))),(71,(vP AS))]) (F:=[(rd e_A e.length 1 (e.map iC)).ro,(rd t_A tms.length 1 (List.zipWith gD tms tb)).ro,(eW (aV ru tms tb)).ro,(bV gw 274 (bW.cells (bW.mk ln ri (br.mk e_A e.length e_C) (br.mk t_A tms.length t_C) (br.mk fA (ln.ae.n+1) (ln.ae.n+1)) (br.mk bA (ln.ae.n+1) (ln.ae.n+1))))).ro,(bV AY 263 [(vP gw)]),(bV Ab 3 [(vI (b:Int))])]) (fun k (y:FM)=>(ng (cE ln ri e tms) b mb left y (t,v) k)) (fun k y=>[(bV A3 3 [(vI v)]),(bV A2 280 (aB.cells t)),(yW dW AS ga (bK iV mb) (bK iV (cp left t)) (some (t,(vI v)))),(bw (fp nQ fs fb b)),(gV dW B (bK iV y)),(bV s 3 [(vI (b:Int))]),(bw (AM.map lH)),(bV gw 274 (bW.cells (bW.mk ln ri (br.mk e_A e.length e_C) (br.mk t_A tms.length t_C) (br.mk fA (ln.ae.n+1) (ln.ae.n+1)) (br.mk bA (ln.ae.n+1) (ln.ae.n+1))))).ro,(bV W 263 [(vP gw)]),(rd e_A e.length 1 (e.map iC)).ro,(rd t_A tms.length 1 (List.zipWith gD tms tb)).ro,(eW (aV ru tms tb)).ro,(own bA (ln.ae.n+1) 278 1 (List.map oC (List.replicate (ln.ae.n+1) (none:Option Nat)))),(own fA (ln.ae.n+1) 278 1 (List.map oC (eo (fb++[B]) (ln.ae.n+1))))]) (fun _ (_:Unit)=>False) (fun _ _=>[]) [6,7,8,9,10,11,12,13,14,15,16,17,18,19] [3,2,1,0,4,5] m rfl rfl (r_ ln ri e tms e_A e_C tb t_A t_C fA (ln.ae.n+1) (ln.ae.n+1) bA (ln.ae.n+1) (ln.ae.n+1) gw b AY Ab I I) rfl rfl rfl (by exact ng.start d g) (by simp only [List.forall_mem_cons,List.not_mem_nil,false_imp_iff,implies_true,and_true]; exact ⟨⟨_,aR (i:=0) rfl,(dD (bO _))⟩,⟨_,aR (i:=1) rfl,(dD (bO _))⟩,⟨_,aR (i:=2) rfl,(dD (bO _))⟩,⟨_,aR (i:=3) rfl,(dD (bO _))⟩,⟨_,aR (i:=4) rfl,(bO _)⟩,⟨_,aR (i:=5) rfl,(bO _)⟩⟩) (by rintro k x k2 ⟨o,_,rfl,_⟩; rfl) rfl (aT rfl) ?_ ?_ (fun _ _ _ h=>h.elim) (fun _ _ h=>h.elim)
    rotate_left 1
    ·rintro CG k O AJ Ar
     have D:=Ar
     try dsimp only
     refine aG<|aG<|IE (X:=AM.map lH) 13 0 U U ?_
     try dsimp only
     refine gT 9 U wN U ?_
     refine aS (A_ ⟨((cp left t),O,(CG::AM)),⟨l5 c,D.on,D.next Az hm AJ⟩⟩ _ _ _ U (eO hm) (aT U) (aH [9,10,11,12,0,4,14,1,2,3,18,19]))
    rintro k x k2 O l ra rb S w1 K39 Qr40 CC hx Aq BJ H CJ CO
    obtain ⟨o,ho,rfl,rfl⟩:=hx
    have D:=Aq
    try dsimp only
    refine WS fun _ BK=>rP 1 [] mn ?_
    refine RK BK<|aj<|AL U de fun CW=>fP U cm U<|aC<|jy (fun _ _ h=>h) (aH [1,0,2,3,4,5,6,7,8,9,10,11,12,13,14,15])<|aS (BJ _ _ ?_)
    refine av<|ah fun _ BL=>dG cu [16,18] [] [] [0,1,2,3,4,5,6,7,8,9,10,11,12,13,14,15] [] U U U U U<|eS U (EY 2 U bX U)<|eS U (EY 10 U bX U)<|eS U (SX (bI U U) U U)<|eS U (FA 10 U fu U)<|eS U (Ib (vS e_A e.length e_C) 9 U bX U U)<|eS U (EY 7 U bX U) ?_
    obtain ⟨y,hy⟩:=aJ e b I
    have A0:=bG iC hy
    refine eS U (IA b U (aD 11 U) cq dc I I)<|eS U (fV b 0 (vI y) U bX (aD 11 U) A0 U dc U) ?_
    have B8:=hw.least y (aR hy)
    have hp:=M.mem N (c _ hm)
    have B7:=Jz hw _ _ hp
    have CA:=ud o.1
    have CB:=hw.opt ho
    have Cc:=hw.now
    dsimp only at B7
    refine eS U (BI U (ib ⟨I,I⟩))<|eS U (FA 0 U fu U)<|eS U (L1 (vI o.2.Lo) 1 U bX U U)<|eS U (MX U)<|eS U (LW 3 U bX U U)<|eS U (MV U)<|eS U (CL (JD o.1) (aI) U)<|eS U (CL (v9 t (fc o.1) I I) (aI) U)<|eS U (AG U)<|eV U<|bY U fun T45 Bf=>AL U tg fun CX=>aC (Bf _ _ (aH [1,2,3,4,5,6,7,8,9,10,11,12,13,14,15,16]) ?_)
    refine bY U fun T47 Bg=>fP U rL U<|aC (Bg _ _ (aH [1,2,3,4,5,6,7,8,9,10,11,12,13,14,15,16]) ?_)
    refine fF U<|KK BL<|ah fun _ BM=>dA cu 15 kr<|mJ 1 [] (mc 11 U mn) U<|dS (SX (bI U U) U U)<|dP 4 [0,1] (mr 10 U (mc 8 U mn)) ?_
    have Bs:(List.map oC (eo (fb++[B]) (ln.ae.n+1)))[(b+1)]? =some (oC (some B)):=rI (oO (z8 I))
    refine dS (IA (b+1) U (ai (n:=(ln.ae.n+1)) 16 U sq) n7 dc I I) ?_
    refine dS (fV (b+1) 0 (Value.map (some B)) U bX (ai (n:=(eo (fb++[B]) (ln.ae.n+1)).length) 16 U sm) Bs U dc U)<|mJ 1 [] (mc 0 U mn) U<|dS (SX (jT (kV:=dW) (x:=(dk t (fc o.1))) (l:=O) (f:=iV) (z:=0) U U U o2 oU Vz (by exact aD 7 U)) U U)<|lJ 5 U<|cL<|RK BM<|ah fun _ AC=>dA cu 19 kr<|mJ 4 [0,1] (mc 2 U (mc 11 U mn)) U<|dS (SX (bI U U) U U)<|mJ 3 [] (mr 10 U mn) U<|dS (MN U)<|dP 2 [] mn ?_
    refine jh (t:=121) U (aM fun P=>?_) (aL fun P=>?_)
    ·refine dP 8 [] mn ?_
     refine cL<|RK AC<|aW U<|bZ<|aG ?_
     exact H O _ _ (by exact D.skip (Jr hy P)) (aH [1,3,4,5,6,7,8,9,10,11,12,13,14,15,16])
    refine dP 3 [] mn ?_
    refine iY (t:=124) U (fun R=>?_) (fun R=>?_)
    ·rw [Bool.not_eq_true'] at R
     refine lJ 5 U<|cL<|RK AC<|aO U<|dA cu 10 kr<|mJ 1 [] (mc 11 U mn) U<|dS (SX (bI U U) U U)<|dP 4 [0,1] (mr 10 U (mc 8 U mn)) ?_
     have Bt:(List.map oC (eo (fb++[B]) (ln.ae.n+1)))[(b+1)]? =some (oC (some B)):=rI (oO (z8 I))
     refine dS (IA (b+1) U (ai (n:=(ln.ae.n+1)) 16 U sq) n7 dc I I) ?_
     refine dS (fV (b+1) 0 (Value.map (some B)) U bX (ai (n:=(eo (fb++[B]) (ln.ae.n+1)).length) 16 U sm) Bt U dc U)<|dP 2 [] (mc 0 U mn) ?_
     refine cL<|g_ (kV:=dW) (x:=(dk t (fc o.1))) (C':=[_,_,_,_,_,_,_,(gV dW B (bK iV (dL O (dk t (fc o.1)) (max (v+y) o.2.Lo)))),_,_,_,_,_,_,_,_,_]) 7 U U U U o2 oU U (fM _ _ _ _).symm U<|aC<|aG ?_
     exact H (dL O (dk t (fc o.1)) (max (v+y) o.2.Lo)) _ _ (by exact D.set hp ho (AE hy P) (.inl (by simpa using R))) (aH [1,3,4,5,6,7,8,9,10,11,12,13,14,15,16])
    rw [Bool.not_eq_false'] at R
    refine dP 5 [] mn ?_
    refine cL<|RK AC<|bL U (aM fun u=>?_) (aL fun u=>?_)
    ·refine bZ<|aG ?_
     exact H O _ _ (by exact D.oD (AE hy P) (by simpa using R) u) (aH [1,3,4,5,6,7,8,9,10,11,12,13,14,15,16])
    refine dA cu 10 kr<|mJ 1 [] (mc 11 U mn) U<|dS (SX (bI U U) U U)<|dP 4 [0,1] (mr 10 U (mc 8 U mn)) ?_
    have Bu:(List.map oC (eo (fb++[B]) (ln.ae.n+1)))[(b+1)]? =some (oC (some B)):=rI (oO (z8 I))
    refine dS (IA (b+1) U (ai (n:=(ln.ae.n+1)) 16 U sq) n7 dc I I) ?_
    refine dS (fV (b+1) 0 (Value.map (some B)) U bX (ai (n:=(eo (fb++[B]) (ln.ae.n+1)).length) 16 U sm) Bu U dc U)<|dP 2 [] (mc 0 U mn) ?_
    refine cL<|g_ (kV:=dW) (x:=(dk t (fc o.1))) (C':=[_,_,_,_,_,_,_,(gV dW B (bK iV (dL O (dk t (fc o.1)) (max (v+y) o.2.Lo)))),_,_,_,_,_,_,_,_,_]) 7 U U U U o2 oU U (fM _ _ _ _).symm U<|aC<|aG ?_
    exact H (dL O (dk t (fc o.1)) (max (v+y) o.2.Lo)) _ _ (by exact D.set hp ho (AE hy P) (.inr u)) (aH [1,3,4,5,6,7,8,9,10,11,12,13,14,15,16])
   refine bu<|ab<|ab<|au<|KK Ai<|WS fun _ AD=>rP 1 [] mn ?_
   refine AL U jd fun B0=>H8 U Cg U U<|RK AD<|av ?_
   rw [GN]
   refine oz ?_
   have C:(0≤ln.ae.n+1)∧(([]:List FM).length=0)∧(([]:List Nat).length=0)∧(g3 (cE ln ri e tms) (ln.ae.n+1-0) ([]:List FM)):=by exact ⟨Nat.zero_le _,rfl,rfl,g3.none_⟩
   refine we (ι:={z:Nat×(List FM)×(List Nat)×Nat×(List Nat) // (z.1≤ln.ae.n+1)∧(z.2.1.length=z.1)∧(z.2.2.1.length=z.1)∧(g3 (cE ln ri e tms) (ln.ae.n+1-z.1) z.2.1)}) (fun z=>z.1.2.2.2.2.map lp) (fun z=>[(0,(vP gw)),(1,(vP W)),(2,(vI (ln.ae.n:Int))),(12,(Value.pointer (some ⟨z.1.2.2.2.1,0,none⟩)))]) (fun z=>[(bw (aV nQ z.1.2.1 z.1.2.2.1)),(bV z.1.2.2.2.1 3 [(vI ((ln.ae.n:Int)-(z.1.1:Int)))]),(bw (z.1.2.2.2.2.map lH)),(bV gw 274 (bW.cells (bW.mk ln ri (br.mk e_A e.length e_C) (br.mk t_A tms.length t_C) (br.mk fA (ln.ae.n+1) (ln.ae.n+1)) (br.mk bA (ln.ae.n+1) (ln.ae.n+1))))).ro,(bV W 263 [(vP gw)]),(rd e_A e.length 1 (e.map iC)).ro,(rd t_A tms.length 1 (List.zipWith gD tms tb)).ro,(eW (aV ru tms tb)).ro,(own bA (ln.ae.n+1) 278 1 (List.map oC (gY z.1.2.2.1 (ln.ae.n+1)))),(bw (aV nQ fs fb)),(own fA (ln.ae.n+1) 278 1 (List.map oC (eo fb (ln.ae.n+1))))]) (fun z=>ln.ae.n+1-z.1.1) ⟨(0,([]:List FM),([]:List Nat),B0,Bz),C⟩ U (aT U) (aH [0,1,2,3,4,5,6,7,8,9,10]) ?_
   clear C
   rintro ⟨⟨j,bs,bb,gq,q⟩,⟨AP,AQ,AR,E⟩⟩ J57 AU
   try dsimp only at AP AQ AR E
   try dsimp only
   refine ah fun _ AF=>WS fun _ AH=>rP 2 [] (mc 1 U mn) ?_
   refine RK AH<|bL U (aM fun A7=>?_) (aL fun A7=>?_)
   ·refine bu<|ab<|ab<|au ?_
    rw [show (List.map oC (eo fb (ln.ae.n+1)))=(List.zipWith gD fs fb) from by rw [zJ I]; exact (zW I).symm]
    rw [show (List.map oC (gY bb (ln.ae.n+1)))=(List.zipWith gD bs bb) from by rw [HO I]; exact (zW I).symm]
    refine Av (C1:=[(own fA (ln.ae.n+1) 278 1 (List.zipWith gD fs fb)),(bw (aV nQ fs fb)),(own bA (ln.ae.n+1) 278 1 (List.zipWith gD bs bb)),(bw (aV nQ bs bb)),(bw (q.map lH))]) hz [10,9,8,0,2] U U (by simp only [fB,List.all_nil,Jd,Nv,Bool.and_true]; rfl) ?_
    rw [show (bV gw 274 (bW.cells (bW.mk ln ri (br.mk e_A e.length e_C) (br.mk t_A tms.length t_C) (br.mk fA (ln.ae.n+1) (ln.ae.n+1)) (br.mk bA (ln.ae.n+1) (ln.ae.n+1)))))=(bV gw 274 (bW.cells (bW.mk ln ri (br.mk e_A e.length e_C) (br.mk t_A tms.length t_C) (br.mk fA fs.length (ln.ae.n+1)) (br.mk bA bs.length (ln.ae.n+1))))) from by rw [show fs.length=(ln.ae.n+1) from by omega,show bs.length=(ln.ae.n+1) from by omega]]
    refine PM [(bV gw 274 (bW.cells (bW.mk ln ri (br.mk e_A e.length e_C) (br.mk t_A tms.length t_C) (br.mk fA fs.length (ln.ae.n+1)) (br.mk bA bs.length (ln.ae.n+1))))),(own fA (ln.ae.n+1) 278 1 (List.zipWith gD fs fb)),(bw (aV nQ fs fb)),(own bA (ln.ae.n+1) 278 1 (List.zipWith gD bs bb)),(bw (aV nQ bs bb))] [(bw (q.map lH))] ?_
    refine hN _ _ _ (Kb 1 U U<|gU (vs:=[]) trivial fun w hs=>SI (fs,fb,fA,(ln.ae.n+1),bs,bb,bA,(ln.ae.n+1)) 0 ?_ ?_ U (by show List.all _ _=true; simp only [fB,List.all_nil,Jd,Bool.and_true]; rfl) hs)
    ·clear hs w hQ hN AH AF AD AB Ak Aj Ai Ag Ad; rfl
    ·clear hs w hQ hN AH AF AD AB Ak Aj Ai Ag Ad; exact ⟨M.ok (by show fs.length=e.length+1; omega),g3.ok (by have:=E; rwa [show ln.ae.n+1-j=0 by omega] at this) (by show bs.length=e.length+1; omega),dso,dso⟩
   refine WK AF<|ah fun _ AW=>av<|ah fun _ BN=>?_
   obtain ⟨b,CZ⟩: ∃ b:Nat,b+j=ln.ae.n:=⟨ln.ae.n-j,I⟩
   rw [show (ln.ae.n:Int)-(j:Int)=(b:Int) from by omega]
   have CT:(gY bb (ln.ae.n+1)).length=(ln.ae.n+1):=zg I
   refine dG cu [5,12,13,15] [11] [0,1,2] [0,1,2,3,4,5,6,7,9,10] [0,1,2,3,4,5,6,7,8,9,10] U U U U U<|eS U (EY 4 U bX U)<|eS U (SX (bI U U) U U)<|eS U (FA 13 U fu U)<|eS U (Ib (vS bA (ln.ae.n+1) (ln.ae.n+1)) 3 U bX U U)<|eS U (EY 1 U bX U)<|eS U (SX (bh (xs:=[]) (cs:=(aB.cells (aB.mk 0 0))) U U (bg CD U)) U U)<|eS U (EY 4 U bX U)<|eS U (SX (bI U U) U U)<|eS U (FA 7 U fu U)<|eS U (FA 8 U fu U)<|eS U (Ib (vI ri.fZ) 3 U bX U U) ?_
   obtain ⟨CI,Bx⟩:=aJ (gY bb (ln.ae.n+1)) b I
   have hx63m:(List.map oC (gY bb (ln.ae.n+1)))[b]? =some (oC CI):=by rw [fq,Bx]; rfl
   refine fS U (IA b U (ai (n:=(ln.ae.n+1)) 8 U sq) n7 dc I I) ?_
   refine eV U<|iB U fun T64 Bh=>mz (kV:=dW) U U fun A=>?_
   try dsimp only
   refine aC (Bh _ _ (aH [1,2,3,4,5,6,7,8,10,11]) (aH [1,2,3,4,5,6,7,8,9,10,11]) ?_)
   refine iB U fun T66 Bi=>?_
   have Bp:(dL ([]:List (aB×Int)) (aB.mk 0 0) ri.fZ)=[((aB.mk 0 0),ri.fZ)]:=by rfl
   refine zo (kV:=dW) (x:=(aB.mk 0 0)) (C':=[(gV dW A (bK iV ([((aB.mk 0 0),ri.fZ)]))),_,_,_,_,_,_,_,_,_,_,_]) 0 U U U U o2 oU U ((fM _ _ _ _).symm.trans (congrArg _ Bp)) U<|aC (Bi _ _ (aH [1,2,3,4,5,6,7,8,10,11]) (aH [1,2,3,4,5,6,7,8,9,10,11]) ?_)
   refine iB U fun T68 Bj=>rS (MV U)<|aC (Bj _ _ (aH [1,2,3,4,5,6,7,8,10,11]) (aH [1,2,3,4,5,6,7,8,9,10,11]) ?_)
   refine bY U fun T69 Bk=>?_
   have Bq:((gY bb (ln.ae.n+1)).set b (some A))=(gY (A::bb) (ln.ae.n+1)):=by exact Ha I
   refine eu (k:=b) (o:=0) (vs:=[(Value.map (some A))]) (es':=(List.map oC (gY (A::bb) (ln.ae.n+1)))) (C':=[_,_,_,_,_,_,_,_,_,(own bA (ln.ae.n+1) 278 1 (List.map oC (gY (A::bb) (ln.ae.n+1)))),_,_]) 9 U U U Kz U U U U hx63m U dc (by exact (List.map_set (f:=oC) (l:=(gY bb (ln.ae.n+1))) (i:=b) (a:=(some A))).symm.trans (congrArg _ Bq)) U<|aC (Bk _ _ (aH [1,2,3,4,5,6,7,8,10,11]) ?_)
   refine fF U<|KK BN<|ah fun _ BO=>WS fun _ BP=>rP 3 [] (mc 2 U mn) ?_
   refine RK BP<|cy U (aL fun A8=>?_) (aM fun A8=>?_)
   ·refine bu<|ab<|au<|KK AW<|ah fun _ BQ=>WS fun _ BR=>fw 1 [] (mc 2 U mn) U<|RK BR<|aj<|AL U jd fun B1=>H8 U Cg U U<|RK BQ<|aj<|rP 2 [] (mc 0 U mn) ?_
    refine H8 U Cg U U<|aC ?_
    rw [show (b:Int)-1=(ln.ae.n:Int)-(((j+1):Nat):Int) from by omega]
    refine zu (ms:=bs) (m:=[((aB.mk 0 0),ri.fZ)]) (a:=A) 2 1 U U U ?_
    try dsimp only
    refine aS (AU ⟨((j+1),([((aB.mk 0 0),ri.fZ)]::bs),(A::bb),B1,q),⟨I,by simp; omega,by simp; omega,by exact g3.end_ (b:=b) E I I (by show e.length≤b; omega)⟩⟩ _ _ _ U os (aT U) (aH [0,1,3,4,5,6,7,8,9,10,11]))
   refine WK BO<|ah fun _ BS=>?_
   have B_:(gY (A::bb) (ln.ae.n+1)).length=(ln.ae.n+1):=zg (by simp; omega)
   obtain ⟨mb,N⟩:=aJ bs 0 I
   obtain ⟨ga,Z⟩:=aJ bb 0 I
   refine Gf 1 N Z U U U ?_
   try dsimp only
   refine dA cu 8 kr<|mJ 1 [] (mc 6 U mn) U<|dS (SX (bI U U) U U)<|dP 4 [0,1] (mr 5 U (mc 3 U mn)) ?_
   have Bv:(List.map oC (gY (A::bb) (ln.ae.n+1)))[(b+1)]? =some (oC (some ga)):=rI (sS (i:=1) (by simpa using Z) (by simp; omega))
   refine dS (IA (b+1) U (ai (n:=(ln.ae.n+1)) 10 U sq) n7 dc I I) ?_
   refine dS (fV (b+1) 0 (Value.map (some ga)) U bX (ai (n:=(gY (A::bb) (ln.ae.n+1)).length) 10 U sm) Bv U dc U)<|cL<|uR 0 U U o2 U U fun AT=>?_
   try dsimp only
   refine RK BS<|av ?_
   have C:(∀ p∈mb,p∈mb)∧(vH (cE ln ri e tms) b ([((aB.mk 0 0),ri.fZ)]))∧(jv (cE ln ri e tms) b mb ([((aB.mk 0 0),ri.fZ)]) mb):=by exact ⟨fun p hp=>hp,vH.start (by show b<e.length; omega),jv.start⟩
   refine we (ι:={z:FM×FM×(List Nat) // (∀ p∈z.1,p∈mb)∧(vH (cE ln ri e tms) b z.2.1)∧(jv (cE ln ri e tms) b mb z.2.1 z.1)}) (fun z=>z.1.2.2.map lp) (fun z=>[(0,(vP gw)),(1,(vP W)),(2,(vI (ln.ae.n:Int))),(12,(vP gq)),(171,(vP AT))]) (fun z=>[(yW dW AT ga (bK iV mb) (bK iV z.1.1) none),(bw (fp nQ bs bb 0)),(gV dW A (bK iV z.1.2.1)),(bV gq 3 [(vI (b:Int))]),(bw (z.1.2.2.map lH)),(bV gw 274 (bW.cells (bW.mk ln ri (br.mk e_A e.length e_C) (br.mk t_A tms.length t_C) (br.mk fA (ln.ae.n+1) (ln.ae.n+1)) (br.mk bA (ln.ae.n+1) (ln.ae.n+1))))).ro,(bV W 263 [(vP gw)]),(rd e_A e.length 1 (e.map iC)).ro,(rd t_A tms.length 1 (List.zipWith gD tms tb)).ro,(eW (aV ru tms tb)).ro,(own bA (ln.ae.n+1) 278 1 (List.map oC (gY (A::bb) (ln.ae.n+1)))),(bw (aV nQ fs fb)),(own fA (ln.ae.n+1) 278 1 (List.map oC (eo fb (ln.ae.n+1))))]) (fun z=>z.1.1.length) ⟨(mb,[((aB.mk 0 0),ri.fZ)],q),C⟩ U (aT U) (aH [0,1,2,3,4,5,6,7,8,9,10,11,12]) ?_
   clear C
   rintro ⟨⟨left,m,V⟩,⟨J,K,L⟩⟩ J80 BA
   try dsimp only at J K L
   try dsimp only
   refine WS fun _ AX=>r8 oU.inj (f:=iV) 0 U U U U (fun A9=>?_) (fun t v hm Az=>?_)
   ·refine bf 1 U<|RK AX<|ah fun _ CS=>aW U<|bu<|ab<|ab<|au<|aG<|KK AW<|ah fun _ BT=>WS fun _ BU=>fw 1 [] (mc 3 U mn) U<|RK BU<|aj<|AL U jd fun A4=>H8 U Cg U U<|RK BT<|aj<|rP 2 [] (mc 0 U mn) ?_
    refine H8 U Cg U U<|aC<|JO (C':=[(bV A4 3 [(vI ((b:Int)-1))]),(gV dW ga (bK iV mb)),(bw (fp nQ bs bb 0)),(gV dW A (bK iV m)),(bV gq 3 [(vI (b:Int))]),(bw (V.map lH)),(bV gw 274 (bW.cells (bW.mk ln ri (br.mk e_A e.length e_C) (br.mk t_A tms.length t_C) (br.mk fA (ln.ae.n+1) (ln.ae.n+1)) (br.mk bA (ln.ae.n+1) (ln.ae.n+1))))).ro,(bV W 263 [(vP gw)]),(rd e_A e.length 1 (e.map iC)).ro,(rd t_A tms.length 1 (List.zipWith gD tms tb)).ro,(eW (aV ru tms tb)).ro,(own bA (ln.ae.n+1) 278 1 (List.map oC (gY (A::bb) (ln.ae.n+1)))),(bw (aV nQ fs fb)),(own fA (ln.ae.n+1) 278 1 (List.map oC (eo fb (ln.ae.n+1))))]) 1 U JJ U<|JP 2 1 N Z U U U ?_
    try dsimp only
    rw [show (b:Int)-1=(ln.ae.n:Int)-(((j+1):Nat):Int) from by omega]
    refine zu (ms:=bs) (m:=m) (a:=A) 0 2 U U U ?_
    try dsimp only
    refine aS (AU ⟨((j+1),(m::bs),(A::bb),A4,V),⟨I,by simp; omega,by simp; omega,by exact g3.more (b:=b) E I I (by show b<e.length; omega) N K L A9⟩⟩ _ _ _ U os (aT U) (aH [0,1,3,4,5,6,7,8,9,10,11]))
   try dsimp only
   refine bf 1 U<|RK AX<|ah fun _ BV=>aO U<|WK BV<|av<|WS fun _ BW=>rS (SX (sk 0 U U U) U U)<|bf 2 U<|AL U tg fun A5=>AL U jd fun A6=>ua U rL U<|H8 U Cg U U<|RK BW<|WS fun _ BX=>rP 2 [0,1] (mc 8 U (mc 5 U mn)) ?_
   refine cX (uV gw b) (aI) U fun CN CV=>?_
   obtain ⟨AZ,Ac⟩:=CN
   try dsimp only
   refine RK BX<|av<|ku 11 U (by exact fun _ h=>h)<|ku 13 U (by exact fun _ h=>h)<|ku 15 U (by exact fun _ h=>h)<|ku 12 U (by exact fun _ h=>h) ?_
   refine nG (L0:=[(0,(vP gw)),(1,(vP W)),(2,(vI (ln.ae.n:Int))),(12,(vP gq)),(13,(vP A5)),(14,(vP A6)),(171,(vP AT))]) (F:=[(rd e_A e.length 1 (e.map iC)).ro,(rd t_A tms.length 1 (List.zipWith gD tms tb)).ro,(eW (aV ru tms tb)).ro,(bV gw 274 (bW.cells (bW.mk ln ri (br.mk e_A e.length e_C) (br.mk t_A tms.length t_C) (br.mk fA (ln.ae.n+1) (ln.ae.n+1)) (br.mk bA (ln.ae.n+1) (ln.ae.n+1))))).ro,(bV AZ 263 [(vP gw)]),(bV Ac 3 [(vI (b:Int))])]) (fun k (y:FM)=>(nt (cE ln ri e tms) b mb left y (t,v) k)) (fun k y=>[(bV A6 3 [(vI v)]),(bV A5 280 (aB.cells t)),(yW dW AT ga (bK iV mb) (bK iV (cp left t)) (some (t,(vI v)))),(bw (fp nQ bs bb 0)),(gV dW A (bK iV y)),(bV gq 3 [(vI (b:Int))]),(bw (V.map lH)),(bV gw 274 (bW.cells (bW.mk ln ri (br.mk e_A e.length e_C) (br.mk t_A tms.length t_C) (br.mk fA (ln.ae.n+1) (ln.ae.n+1)) (br.mk bA (ln.ae.n+1) (ln.ae.n+1))))).ro,(bV W 263 [(vP gw)]),(rd e_A e.length 1 (e.map iC)).ro,(rd t_A tms.length 1 (List.zipWith gD tms tb)).ro,(eW (aV ru tms tb)).ro,(own bA (ln.ae.n+1) 278 1 (List.map oC (gY (A::bb) (ln.ae.n+1)))),(bw (aV nQ fs fb)),(own fA (ln.ae.n+1) 278 1 (List.map oC (eo fb (ln.ae.n+1))))]) (fun _ (_:Unit)=>False) (fun _ _=>[]) [6,7,8,9,10,11,12,13,14,15,16,17,18,19,20] [3,2,1,0,4,5] m rfl rfl (r_ ln ri e tms e_A e_C tb t_A t_C fA (ln.ae.n+1) (ln.ae.n+1) bA (ln.ae.n+1) (ln.ae.n+1) gw b AZ Ac I I) rfl rfl rfl (by exact nt.start K L) (by simp only [List.forall_mem_cons,List.not_mem_nil,false_imp_iff,implies_true,and_true]; exact ⟨⟨_,aR (i:=0) rfl,(dD (bO _))⟩,⟨_,aR (i:=1) rfl,(dD (bO _))⟩,⟨_,aR (i:=2) rfl,(dD (bO _))⟩,⟨_,aR (i:=3) rfl,(dD (bO _))⟩,⟨_,aR (i:=4) rfl,(bO _)⟩,⟨_,aR (i:=5) rfl,(bO _)⟩⟩) (by rintro k x k2 ⟨o,_,rfl,_⟩; rfl) rfl (aT rfl) ?_ ?_ (fun _ _ _ h=>h.elim) (fun _ _ h=>h.elim)
   rotate_left 1
   ·rintro By k O AJ AO
    have D:=AO
    try dsimp only
    refine aG<|aG<|IE (X:=V.map lH) 13 0 U U ?_
    try dsimp only
    refine gT 9 U wN U ?_
    refine aS (BA ⟨((cp left t),O,(By::V)),⟨l5 J,D.on,D.next Az hm AJ⟩⟩ _ _ _ U (eO hm) (aT U) (aH [9,10,11,12,0,4,14,1,2,3,18,19,20]))
   rintro k x k2 O l ra rb S w1 K95 Qr96 CC hx As BZ A1 CK CP
   obtain ⟨o,ho,rfl,rfl⟩:=hx
   have D:=As
   try dsimp only
   refine WS fun _ Ba=>rP 1 [] mn ?_
   refine RK Ba<|aj<|AL U de fun CY=>fP U cm U<|aC<|jy (fun _ _ h=>h) (aH [1,0,2,3,4,5,6,7,8,9,10,11,12,13,14,15,16])<|aS (BZ _ _ ?_)
   refine av<|ah fun _ Ae=>dG cu [16,18] [] [] [0,1,2,3,4,5,6,7,8,9,10,11,12,13,14,15,16] [] U U U U U<|eS U (EY 2 U bX U)<|eS U (FA 1 U fu U)<|eS U (L1 (vI o.2.Hi) 1 U bX U U) ?_
   have hp:=E.Vi (b:=b) I N (J _ hm)
   have B6:=KC hw hp
   have CA:=ud o.1
   have CB:=hw.opt ho
   dsimp only at B6
   refine eS U (MN U)<|eS U (EY 10 U bX U)<|eS U (SX (bI U U) U U)<|eS U (FA 10 U fu U)<|eS U (Ib (vS e_A e.length e_C) 9 U bX U U)<|eS U (EY 7 U bX U) ?_
   obtain ⟨y,hy⟩:=aJ e b I
   have A0:=bG iC hy
   refine eS U (IA b U (aD 11 U) cq dc I I)<|eS U (fV b 0 (vI y) U bX (aD 11 U) A0 U dc U) ?_
   have B8:=hw.least y (aR hy)
   refine eS U (BI U (rM ⟨I,I⟩))<|eS U (LW 3 U bX U U)<|eS U (MV U)<|eS U (CL (JD o.1) (aI) U)<|eS U (CL (v9 t (fc o.1) I I) (aI) U)<|eS U (AG U)<|eV U<|bY U fun T101 Al=>AL U tg fun CQ=>aC (Al _ _ (aH [1,2,3,4,5,6,7,8,9,10,11,12,13,14,15,16,17]) ?_)
   refine bY U fun T103 Am=>fP U rL U<|aC (Am _ _ (aH [1,2,3,4,5,6,7,8,9,10,11,12,13,14,15,16,17]) ?_)
   refine fF U<|KK Ae<|ah fun _ Af=>dA cu 14 kr<|mJ 1 [] (mc 11 U mn) U<|dS (SX (bI U U) U U)<|dP 3 [0,1] (mr 10 U (mc 8 U mn)) ?_
   have At:(List.map oC (gY (A::bb) (ln.ae.n+1)))[b]? =some (oC (some A)):=rI (sS (i:=0) rfl (by simp; omega))
   refine dS (IA b U (ai (n:=(ln.ae.n+1)) 15 U sq) n7 dc I I) ?_
   refine dS (fV b 0 (Value.map (some A)) U bX (ai (n:=(gY (A::bb) (ln.ae.n+1)).length) 15 U sm) At U dc U)<|mJ 1 [] (mc 0 U mn) U<|dS (SX (jT (kV:=dW) (x:=(dk t (fc o.1))) (l:=O) (f:=iV) (z:=0) U U U o2 oU Vz (by exact aD 7 U)) U U)<|lJ 5 U<|cL<|RK Af<|WS fun _ Y=>fw 3 [0,1] (mc 3 U (mc 2 U mn)) U<|rS (MN U)<|rP 4 [] (mc 2 U mn) ?_
   refine b_ (t:=217) U (aM fun T=>?_) (aL fun T=>?_)
   ·refine rP 8 [] mn ?_
    refine RK Y<|aW U<|bZ<|aG ?_
    exact A1 O _ _ (by exact D.skip (M9 T)) (aH [1,3,4,5,6,7,8,9,10,11,12,13,14,15,16,17])
   refine rP 3 [] mn ?_
   refine cR (t:=220) U (fun AN=>?_) (fun AN=>?_)
   ·rw [Bool.not_eq_true'] at AN
    refine bf 5 U<|RK Y<|aO U<|dA cu 9 kr<|mJ 1 [] (mc 11 U mn) U<|dS (SX (bI U U) U U)<|dP 3 [0,1] (mr 10 U (mc 8 U mn)) ?_
    have Au:(List.map oC (gY (A::bb) (ln.ae.n+1)))[b]? =some (oC (some A)):=rI (sS (i:=0) rfl (by simp; omega))
    refine dS (IA b U (ai (n:=(ln.ae.n+1)) 15 U sq) n7 dc I I) ?_
    refine dS (fV b 0 (Value.map (some A)) U bX (ai (n:=(gY (A::bb) (ln.ae.n+1)).length) 15 U sm) Au U dc U)<|dP 2 [] (mc 0 U mn) ?_
    refine cL<|g_ (kV:=dW) (x:=(dk t (fc o.1))) (C':=[_,_,_,_,_,_,_,(gV dW A (bK iV (dL O (dk t (fc o.1)) ((min v o.2.Hi)-y)))),_,_,_,_,_,_,_,_,_,_]) 7 U U U U o2 oU U (fM _ _ _ _).symm U<|aC<|aG ?_
    exact A1 (dL O (dk t (fc o.1)) ((min v o.2.Hi)-y)) _ _ (by exact D.set (by show b<e.length; omega) hp ho (Aa hy T) (.inl (by simpa using AN))) (aH [1,3,4,5,6,7,8,9,10,11,12,13,14,15,16,17])
   rw [Bool.not_eq_false'] at AN
   refine rP 5 [] mn ?_
   refine RK Y<|bL U (aM fun AA=>?_) (aL fun AA=>?_)
   ·refine bZ<|aG ?_
    exact A1 O _ _ (by exact D.oD (Aa hy T) (by simpa using AN) AA) (aH [1,3,4,5,6,7,8,9,10,11,12,13,14,15,16,17])
   refine dA cu 9 kr<|mJ 1 [] (mc 11 U mn) U<|dS (SX (bI U U) U U)<|dP 3 [0,1] (mr 10 U (mc 8 U mn)) ?_
   have Aw:(List.map oC (gY (A::bb) (ln.ae.n+1)))[b]? =some (oC (some A)):=rI (sS (i:=0) rfl (by simp; omega))
   refine dS (IA b U (ai (n:=(ln.ae.n+1)) 15 U sq) n7 dc I I) ?_
   refine dS (fV b 0 (Value.map (some A)) U bX (ai (n:=(gY (A::bb) (ln.ae.n+1)).length) 15 U sm) Aw U dc U)<|dP 2 [] (mc 0 U mn) ?_
   refine cL<|g_ (kV:=dW) (x:=(dk t (fc o.1))) (C':=[_,_,_,_,_,_,_,(gV dW A (bK iV (dL O (dk t (fc o.1)) ((min v o.2.Hi)-y)))),_,_,_,_,_,_,_,_,_,_]) 7 U U U U o2 oU U (fM _ _ _ _).symm U<|aC<|aG ?_
   exact A1 (dL O (dk t (fc o.1)) ((min v o.2.Hi)-y)) _ _ (by exact D.set (by show b<e.length; omega) hp ho (Aa hy T) (.inr AA)) (aH [1,3,4,5,6,7,8,9,10,11,12,13,14,15,16,17])
  refine dG cu [4,11,12,14] [10] [0,1,2] [0,1,2,3,4,6] [0,1,2,3,4,5,6] U U U U U<|eS U (EY 1 U bX U)<|eS U (SX (bI U U) U U)<|eS U (FA 12 U fu U)<|eS U (Ib (vS fA (ln.ae.n+1) (ln.ae.n+1)) 0 U bX U U)<|eS U (SX (bh (xs:=[]) (cs:=(aB.cells (aB.mk 0 0))) U U (bg CD U)) U U)<|eS U (EY 1 U bX U)<|eS U (SX (bI U U) U U)<|eS U (FA 7 U fu U)<|eS U (FA 7 U fu U)<|eS U (Ib (vI ri.Start) 0 U bX U U) ?_
  obtain ⟨x6,CE⟩:=aJ (List.replicate (ln.ae.n+1) (none:Option Nat)) 0 I
  have hx7m:(List.map oC (List.replicate (ln.ae.n+1) (none:Option Nat)))[0]? =some (oC x6):=by rw [fq,CE]; rfl
  refine fS U (IA 0 U (ai (n:=(ln.ae.n+1)) 5 U sq) n7 dc U I) ?_
  refine eV U<|iB U fun T8 Ao=>mz (kV:=dW) U U fun r=>?_
  try dsimp only
  refine aC (Ao _ _ (aH [1,2,3,4,5,7]) (aH [1,2,3,4,5,6,7]) ?_)
  refine iB U fun T10 G=>?_
  have Bl:(dL ([]:List (aB×Int)) (aB.mk 0 0) ri.Start)=[((aB.mk 0 0),ri.Start)]:=by rfl
  refine zo (kV:=dW) (x:=(aB.mk 0 0)) (C':=[(gV dW r (bK iV ([((aB.mk 0 0),ri.Start)]))),_,_,_,_,_,_,_]) 0 U U U U o2 oU U ((fM _ _ _ _).symm.trans (congrArg _ Bl)) U<|aC (G _ _ (aH [1,2,3,4,5,7]) (aH [1,2,3,4,5,6,7]) ?_)
  refine iB U fun T12 Bb=>rS (MV U)<|aC (Bb _ _ (aH [1,2,3,4,5,7]) (aH [1,2,3,4,5,6,7]) ?_)
  refine bY U fun T13 Bc=>?_
  have Bm:((List.replicate (ln.ae.n+1) (none:Option Nat)).set 0 (some r))=(eo [r] (ln.ae.n+1)):=by rw [zM]; exact uN rfl sm
  refine eu (k:=0) (o:=0) (vs:=[(Value.map (some r))]) (es':=(List.map oC (eo [r] (ln.ae.n+1)))) (C':=[_,_,_,_,_,_,(own fA (ln.ae.n+1) 278 1 (List.map oC (eo [r] (ln.ae.n+1)))),_]) 6 U U U Kz U U U U hx7m U dc (by exact (List.map_set (f:=oC) (l:=(List.replicate (ln.ae.n+1) (none:Option Nat))) (i:=0) (a:=(some r))).symm.trans (congrArg _ Bm)) U<|aC (Bc _ _ (aH [1,2,3,4,5,7]) ?_)
  refine fF U<|Eh<|BY (X:=[]) (X':=aV nQ [[((aB.mk 0 0),ri.Start)]] [r]) 0 1 U U U ?_
  try dsimp only
  refine aS (jy (aT U) (aH [1,2,3,4,5,7,0,6]) (B5 ⟨r,trivial⟩))
 refine rp cu [0,1,2,3,5,6,8,9,11,12] [4,7,10,13] [false,false,false,false,false,false,false,false,false,false] [] [(bV W 263 [(vP gw)]),(rd e_A e.length 1 (e.map iC)).ro,(rd t_A tms.length 1 (List.zipWith gD tms tb)).ro,(eW (aV ru tms tb)).ro] [] kr (aH [0,2,3,4]) (aH [])<|eS U (EY 0 U bX U)<|eS U (EY 0 U bX U)<|eS U (MV U)<|eS U (BI U (ib ⟨I,I⟩))<|eS U (MV U)<|eS U (BI U (ib ⟨I,I⟩))<|eS U (SX (bI U U) U U)<|eS U (FA 12 U fu U)<|eS U (SX (bI U U) U U)<|eS U (FA 13 U fu U)<|eV U<|iU [4,7] kr (eG ?_<|eG ?_<|kS)
 rotate_left 1
 ·refine NO U U [4,10,13] fun T5 An=>?_
  refine xh (n:=(ln.ae.n+1)) (es:=(List.map oC (List.replicate (ln.ae.n+1) (none:Option Nat)))) U U U Cy I I (by simp only [maxLen]; omega) (by rw [List.map_replicate]; rfl) U fun b6=>?_
  try dsimp only
  refine aC (An _ _ (aH [1,3,4,5]) ?_)
  refine N1 4<|NO U U [10,13] fun T7 AI=>?_
  refine xh (n:=(ln.ae.n+1)) (es:=(List.map oC (List.replicate (ln.ae.n+1) (none:Option Nat)))) U U U Cy I I (by simp only [maxLen]; omega) (by rw [List.map_replicate]; rfl) U fun b8=>?_
  try dsimp only
  refine aC (AI _ _ (aH [2,4,5,6]) ?_)
  refine N1 10<|NO U U [13] fun T9 Ap=>Ss (bW.cells (bW.mk ln ri (br.mk e_A e.length e_C) (br.mk t_A tms.length t_C) (br.mk (some ⟨b8,0,none⟩) (ln.ae.n+1) (ln.ae.n+1)) (br.mk none 0 0))) U yY U U<|aC (Ap _ _ (aH [2,4,5,6]) ?_)
  refine N1 13<|NO U U [] fun T10 G=>Ss (bW.cells (bW.mk ln ri (br.mk e_A e.length e_C) (br.mk t_A tms.length t_C) (br.mk (some ⟨b8,0,none⟩) (ln.ae.n+1) (ln.ae.n+1)) (br.mk (some ⟨b6,0,none⟩) (ln.ae.n+1) (ln.ae.n+1)))) U yY U U<|aC (G _ _ (aH [2,4,5,6]) ?_)
  refine pV ?_
  refine aS (jy (aT U) (aH [2,4,5,6,0,1,3]) (Ah ⟨((some ⟨b8,0,none⟩),(some ⟨b6,0,none⟩)),trivial⟩))
 refine NO U U [7,10,13] fun T5 An=>?_
 refine xh (n:=(ln.ae.n+1)) (es:=(List.map oC (List.replicate (ln.ae.n+1) (none:Option Nat)))) U U U Cy I I (by simp only [maxLen]; omega) (by rw [List.map_replicate]; rfl) U fun b6=>?_
 try dsimp only
 refine aC (An _ _ (aH [1,3,4,5]) ?_)
 refine iU [7,10] kr (eG ?_<|eG ?_<|kS)
 rotate_left 1
 ·refine NO U U [7,13] fun T7 AI=>VD (bW.cells (bW.mk ln ri (br.mk e_A e.length e_C) (br.mk t_A tms.length t_C) (br.mk (some ⟨b6,0,none⟩) (ln.ae.n+1) (ln.ae.n+1)) (br.mk none 0 0))) U yY U U<|aC (AI _ _ (aH [1,3,4,5]) ?_)
  refine N1 7<|NO U U [13] fun T8 Ao=>?_
  refine xh (n:=(ln.ae.n+1)) (es:=(List.map oC (List.replicate (ln.ae.n+1) (none:Option Nat)))) U U U Cy I I (by simp only [maxLen]; omega) (by rw [List.map_replicate]; rfl) U fun r=>?_
  try dsimp only
  refine aC (Ao _ _ (aH [2,4,5,6]) ?_)
  refine N1 13<|NO U U [] fun T10 G=>Ss (bW.cells (bW.mk ln ri (br.mk e_A e.length e_C) (br.mk t_A tms.length t_C) (br.mk (some ⟨b6,0,none⟩) (ln.ae.n+1) (ln.ae.n+1)) (br.mk (some ⟨r,0,none⟩) (ln.ae.n+1) (ln.ae.n+1)))) U yY U U<|aC (G _ _ (aH [2,4,5,6]) ?_)
  refine pV ?_
  refine aS (jy (aT U) (aH [2,4,5,6,1,0,3]) (Ah ⟨((some ⟨b6,0,none⟩),(some ⟨r,0,none⟩)),trivial⟩))
 refine NO U U [10,13] fun T7 AI=>?_
 refine xh (n:=(ln.ae.n+1)) (es:=(List.map oC (List.replicate (ln.ae.n+1) (none:Option Nat)))) U U U Cy I I (by simp only [maxLen]; omega) (by rw [List.map_replicate]; rfl) U fun b8=>?_
 try dsimp only
 refine aC (AI _ _ (aH [2,4,5,6]) ?_)
 refine N1 10<|NO U U [13] fun T9 Ap=>Ss (bW.cells (bW.mk ln ri (br.mk e_A e.length e_C) (br.mk t_A tms.length t_C) (br.mk (some ⟨b6,0,none⟩) (ln.ae.n+1) (ln.ae.n+1)) (br.mk none 0 0))) U yY U U<|aC (Ap _ _ (aH [2,4,5,6]) ?_)
 refine N1 13<|NO U U [] fun T10 G=>Ss (bW.cells (bW.mk ln ri (br.mk e_A e.length e_C) (br.mk t_A tms.length t_C) (br.mk (some ⟨b6,0,none⟩) (ln.ae.n+1) (ln.ae.n+1)) (br.mk (some ⟨b8,0,none⟩) (ln.ae.n+1) (ln.ae.n+1)))) U yY U U<|aC (G _ _ (aH [2,4,5,6]) ?_)
 refine pV ?_
 refine aS (jy (aT U) (aH [2,4,5,6,1,0,3]) (Ah ⟨((some ⟨b6,0,none⟩),(some ⟨b8,0,none⟩)),trivial⟩))
end
section
open Go.RowKit
theorem D6 (l:a_) (kA:OA) (kC:Nat) (az:List RA) (cA:OA) (cC:Nat) (bA:OA) (bC g1:Nat) (bm:Int) (g2:Nat) (hin:er l az):
 dT Tryz.prog 206 [(vP g1),(vP g2)] [(rd kA l.aP.length 9 (l.aP.map al.cells)),(rd cA l.ak.length 2 (List.zipWith ar.cells l.ak az)),(eW (aV ar.gZ l.ak az)),(rd bA l.ae.length 4 (l.ae.map bD.cells)),(bV g1 31 (ck.cells (lk l kA kC cA cC bA bC))),(bV g2 3 [(vI bm)])] (vI (jB l bm)):=by
 have K:=hin.sH
 have J:=hin.sI
 have H:=hin.ov
 have AA:=hin.sD
 refine bx kr Tryz.func206 U U fun L Q hQ hN=>?_
 try dsimp only
 refine WS fun _ B=>bf 1 U<|RK B<|ah fun _ C=>WS fun _ D=>rP 5 [0,1] (mr 4 U (mr 5 U mn)) ?_
 refine cU (xs:=[.tmp 7]) (cs:=[(vI bm)]) U cq jd U U U U (by simp [Value.cells]) U U fun G=>?_
 refine rS (CL (dT.eq (iN 0 ((l.ae.length:Int)-1) ([bm]) (some ⟨G,0,none⟩) 1 (by (simp; done))) cS) (aw (aZ 0 U U (by simp [bB]) U)<|aI) U) ?_
 refine rP 1 [] mn ?_
 refine RK D<|cy U (bq fun A=>?_) (bp fun A=>?_)
 ·refine WS fun _ E=>rP 1 [] mn ?_
  refine RK E<|an<|Q1 hQ U U U ?_
  exact cI (if_neg I).symm
 refine WK C<|WS fun _ F=>rP 1 [] mn ?_
 refine RK F<|an<|Q1 hQ U U U ?_
 exact cI (if_pos I).symm
end
section
open Go.RowKit
theorem Oz (l:a_) (kA:OA) (kC:Nat) (az:List RA) (cA:OA) (cC:Nat) (bA:OA) (bC:Nat) (r:cv) (sgA:OA) (sgC:Nat) (f:Value) (X:aq) (me:Int) (gm:Nat) (hf:DI Tryz.prog f [] [X] (.int .i64 me)) (hin:er l az) (hsl:r.ag.length≤1000000):
 lq Tryz.prog 205 [(vA (ck.cells (lk l kA kC cA cC bA bC))),(vA (eC.cells (mD r sgA sgC))),(vS (some ⟨gm,0,none⟩) 1 1)] [(rd kA l.aP.length 9 (l.aP.map al.cells)),(rd cA l.ak.length 2 (List.zipWith ar.cells l.ak az)),(eW (aV ar.gZ l.ak az)),(rd bA l.ae.length 4 (l.ae.map bD.cells)),(rd sgA r.ag.length 2 (r.ag.map aK.cells)),X,(bV gm 266 [f])] (fun (x:Bool×Int×Nat×(OA)×Nat×(OA)×Nat×(List Nat)×(List FM)×(List Nat)×(OA)×Nat×(List FM)×(List Nat)×(OA)×Nat)=>bif x.1 then (vT [(Value.pointer (some ⟨x.2.2.1,0,none⟩)),(vI 0)]) else (vT [(Value.pointer none),(vI x.2.1)])) (fun (x:Bool×Int×Nat×(OA)×Nat×(OA)×Nat×(List Nat)×(List FM)×(List Nat)×(OA)×Nat×(List FM)×(List Nat)×(OA)×Nat)=>(x.1=true→(ew l r me=0∧xz (cj l r) x.2.2.2.2.2.2.2.2.1∧uC (cj l r) x.2.2.2.2.2.2.2.2.2.2.2.2.1∧x.2.2.2.2.2.2.2.2.2.1.length=x.2.2.2.2.2.2.2.2.1.length∧x.2.2.2.2.2.2.2.2.2.2.2.2.2.1.length=x.2.2.2.2.2.2.2.2.2.2.2.2.1.length∧x.2.2.2.2.2.2.2.1.length=(dQ l r.ag r.ag.length).length))∧(x.1=false→(x.2.1=ew l r me∧ ¬ ew l r me=0))) (fun (x:Bool×Int×Nat×(OA)×Nat×(OA)×Nat×(List Nat)×(List FM)×(List Nat)×(OA)×Nat×(List FM)×(List Nat)×(OA)×Nat)=>bif x.1 then [(bV x.2.2.1 274 (bW.cells (bW.mk (lk l kA kC cA cC bA bC) (mD r sgA sgC) (br.mk x.2.2.2.1 ((cG l l.ae.length).length) x.2.2.2.2.1) (br.mk x.2.2.2.2.2.1 ((dQ l r.ag r.ag.length).length) x.2.2.2.2.2.2.1) (br.mk x.2.2.2.2.2.2.2.2.2.2.1 x.2.2.2.2.2.2.2.2.1.length x.2.2.2.2.2.2.2.2.2.2.2.1) (br.mk x.2.2.2.2.2.2.2.2.2.2.2.2.2.2.1 x.2.2.2.2.2.2.2.2.2.2.2.2.1.length x.2.2.2.2.2.2.2.2.2.2.2.2.2.2.2)))),(own x.2.2.2.1 x.2.2.2.2.1 3 1 ((cG l l.ae.length).map iC)),(own x.2.2.2.2.2.1 x.2.2.2.2.2.2.1 64 1 (List.zipWith gD (dQ l r.ag r.ag.length) x.2.2.2.2.2.2.2.1)),(bw (aV ru (dQ l r.ag r.ag.length) x.2.2.2.2.2.2.2.1)),(own x.2.2.2.2.2.2.2.2.2.2.1 x.2.2.2.2.2.2.2.2.2.2.2.1 278 1 (List.zipWith gD x.2.2.2.2.2.2.2.2.1 x.2.2.2.2.2.2.2.2.2.1)),(bw (aV nQ x.2.2.2.2.2.2.2.2.1 x.2.2.2.2.2.2.2.2.2.1)),(own x.2.2.2.2.2.2.2.2.2.2.2.2.2.2.1 x.2.2.2.2.2.2.2.2.2.2.2.2.2.2.2 278 1 (List.zipWith gD x.2.2.2.2.2.2.2.2.2.2.2.2.1 x.2.2.2.2.2.2.2.2.2.2.2.2.2.1)),(bw (aV nQ x.2.2.2.2.2.2.2.2.2.2.2.2.1 x.2.2.2.2.2.2.2.2.2.2.2.2.2.1))] else []):=by
 have B5:=hin.sH
 have B3:=hin.sI
 have B1:=hin.ov
 have B2:=hin.sD
 have B4:=hin.side
 refine dj kr Tryz.func205 U U fun w0 Q hQ hN=>?_
 try dsimp only
 refine WS fun _ Bd=>fK U fun b2=>fK U fun b3=>bf 2 U<|RK Bd<|ah fun _ Be=>WS fun _ Bf=>fw 1 [] (mc 1 U mn) U<|rS (CL (CP l kA kC az cA cC bA bC hin) (bj [2,3,4,5]) U)<|bf 1 U<|RK Bf<|WS fun _ Bg=>rP 2 [] mn ?_
 refine RK Bg<|cy U (bq fun h=>?_) (bp fun h=>?_)
 ·refine WS fun _ Bh=>rP 3 [] mn ?_
  refine RK Bh<|an<|LX hQ (false,(dq l),0,none,0,none,0,[],[],[],none,0,[],[],none,0) [] [] mn U (by rfl) U U ?_
  exact rr<|Me (nX (r:=r) (me:=me) h) h
 refine WK Be<|ah fun _ Bi=>WS fun _ AB=>?_
 have C:dq l=0:=h
 obtain ⟨BL,d⟩:=gF C
 have Bk:=d.head
 unfold gp at Bk
 refine rP 2 [] (mc 0 U mn) ?_
 refine cU (xs:=[.tmp 24]) (cs:=[(vI r.Start)]) U cq jd U U U U (by simp [Value.cells]) U U fun BR=>?_
 refine rS (CL (dT.eq (iN 0 86400000 ([r.Start]) (some ⟨BR,0,none⟩) 1 (by (simp; done))) cS) (aw (aZ 0 U U (by simp [bB]) U)<|aI) U) ?_
 refine rP 2 [] mn ?_
 refine cR (t:=28) U (bq fun BW=>?_) (bp fun BW=>?_)
 ·refine bf 14 U<|RK AB<|aO U<|WS fun _ AN=>rP 2 [] mn ?_
  refine RK AN<|an<|LX hQ (false,51,0,none,0,none,0,[],[],[],none,0,[],[],none,0) [] [] mn U (by rfl) U U ?_
  exact rr<|pU (jf (me:=me) C (fun q:e7 l r=>by have q1:=q.time; have q2:=q.len; omega))
 refine rP 4 [] (mc 1 U mn) ?_
 refine cU (xs:=[.tmp 32]) (cs:=[(vI r.fZ)]) U cq jd U U U U (by simp [Value.cells]) U U fun BS=>?_
 refine rS (CL (dT.eq (iN r.Start 86400000 ([r.fZ]) (some ⟨BS,0,none⟩) 1 (by (simp; done))) cS) (aw (aZ 0 U U (by simp [bB]) U)<|aI) U) ?_
 refine rP 3 [] mn ?_
 refine cR (t:=37) U (bq fun BZ=>?_) (bp fun BZ=>?_)
 ·refine bf 5 U<|RK AB<|aO U<|WS fun _ AO=>rP 2 [] mn ?_
  refine RK AO<|an<|LX hQ (false,51,0,none,0,none,0,[],[],[],none,0,[],[],none,0) [] [] mn U (by rfl) U U ?_
  exact rr<|pU (jf (me:=me) C (fun q:e7 l r=>by have q1:=q.time; have q2:=q.len; omega))
 refine rP 5 [] (mc 2 U mn) ?_
 refine RK AB<|cy U (aL fun Ba=>?_) (aM fun Ba=>?_)
 ·refine WS fun _ AP=>rP 2 [] mn ?_
  refine RK AP<|an<|LX hQ (false,51,0,none,0,none,0,[],[],[],none,0,[],[],none,0) [] [] mn U (by rfl) U U ?_
  exact rr<|pU (jf (me:=me) C (fun q:e7 l r=>by have q1:=q.time; have q2:=q.len; omega))
 refine WK Bi<|WS fun _ AQ=>rS (SX (bh (xs:=[(0,.const (vI (-1)))]) (cs:=(aK.cells (aK.mk (-1) 0))) U U (bg Fk U)) U U)<|AL U F_ fun V=>fP U wo U<|RK AQ<|ah fun _ AR=>dG cu [5,6,7,8] [] [] [0,1,2,3,4,5,6,7,8,9,10,11] [] U U U U U<|eS U (LW 4 U bX U U)<|eS U (LW 3 U bX U U)<|eS U (FA 3 U fu U)<|eS U (L1 (vS bA l.ae.length bC) 4 U bX U U)<|eS U (LN U Qo)<|eV U<|bY U fun T18 Az=>?_
 refine xh (n:=l.ae.length) (es:=(List.map oC (List.replicate l.ae.length (none:Option Nat)))) U U U RW I I (by simp only [maxLen]; omega) (by rw [List.map_replicate]; rfl) U fun B=>?_
 try dsimp only
 refine aC (Az _ _ (aH [1,2,3,4,5,6,7,8,9,10,11,12]) ?_)
 refine bY U fun T20 A0=>rS (SX (bh (xs:=[(0,.tmp 44),(1,.tmp 45),(3,.tmp 49)]) (cs:=(bW.cells (bW.mk (lk l kA kC cA cC bA bC) (mD r sgA sgC) (br.mk none 0 0) (br.mk (some ⟨B,0,none⟩) l.ae.length l.ae.length) (br.mk none 0 0) (br.mk none 0 0)))) U U (bg RV U)) U U)<|aC (A0 _ _ (aH [1,2,3,4,5,6,7,8,9,10,11,12]) ?_)
 refine bY U fun T21 A1=>fK U fun Bv=>aC (A1 _ _ (aH [2,3,4,5,6,7,8,9,10,11,12,13]) ?_)
 refine bY U fun T23 A2=>rS (AG U)<|aC (A2 _ _ (aH [2,3,4,5,6,7,8,9,10,11,12,13]) ?_)
 refine fF U<|KK AR<|ah fun _ AS=>WS fun _ AT=>rP 4 [] (mc 6 U mn) ?_
 refine RK AT<|av ?_
 rw [zM]
 refine fT 3 1<|oz ?_
 have E:(0≤l.ae.length)∧(([]:List Nat).length=0):=by exact ⟨Nat.zero_le _,rfl⟩
 refine bH (ι:={z:Nat×(OA)×Nat×(List Nat) // (z.1≤l.ae.length)∧(z.2.2.2.length=z.1)}) [2,3,4,6,7,9,10,54] [4,7,8,9,10,11,12,13,14,15] U U (fun z=>[(55,(vI (z.1.1:Int)))]) (fun z=>[(bw (aV ru (List.replicate z.1.1 ([]:TM)) z.1.2.2.2)),(own z.1.2.1 z.1.2.2.1 3 1 ((cG l z.1.1).map iC)),(bV Bv 274 (bW.cells (bW.mk (lk l kA kC cA cC bA bC) (mD r sgA sgC) (br.mk z.1.2.1 ((cG l z.1.1).length) z.1.2.2.1) (br.mk (some ⟨B,0,none⟩) l.ae.length l.ae.length) (br.mk none 0 0) (br.mk none 0 0)))),(own (some ⟨B,0,none⟩) l.ae.length 64 1 (List.map oC (eo z.1.2.2.2 l.ae.length)))]) (fun _=>rfl) (fun _=>rfl) (fun z=>l.ae.length-z.1.1) ⟨(0,none,0,([]:List Nat)),E⟩ (aT U) (aH [4,7,8,9,10,11,12,13,14,15,0,1,2,3]) ?_
 clear E
 rintro ⟨⟨b,a,c,fb⟩,⟨AC,Y⟩⟩ J26 AM
 try dsimp only at AC Y
 try dsimp only
 have Bl:(eo fb l.ae.length).length=l.ae.length:=re I
 refine WS fun _ AU=>rP 1 [] mn ?_
 refine RK AU<|ah fun _ AV=>cy U (aL fun BX=>?_) (aM fun BX=>?_)
 ·refine WK AV<|ah fun _ AW=>av<|WS fun _ AX=>rP 2 [] mn ?_
  refine RK AX<|ah fun _ AY=>dG cu [12,13,16] [4] [0] [0,1,2,3,4,5,6,7,8,9,10,13] [0,1,2,3,4,5,6,7,8,9,10,11,12,13] U U U U U<|eS U (MV U)<|eS U (MV U)<|eS U (SX (bI U U) U U)<|eS U (FA 10 U fu U)<|fS U (L1 (vS a ((cG l b).length) c) 12 U bX U U)<|eS U (LW 2 U bX U U)<|eS U (MV U)<|eS U (CL (O7 l kA kC az cA cC bA bC (b:Int) hin asm (by exact d.vD) I) (bj [3,4,5,6]) U) ?_
  have B6:=F3 BL d.vD b
  have B7:=d.Q7 b I
  simp only [Int.toNat_natCast]
  refine eS U (BI U (Fi ⟨I,I⟩))<|eS U (FA 1 U fu U)<|eS U (L1 (vI l.hO) 2 U bX U U) ?_
  refine eS U (CL (OJ (1000*(lU l (b:Int).toNat)) l.hO I (by (simp; omega))) (aI) U) ?_
  refine eS U (SX (bI U U) U U)<|eS U (FA 10 U fu U)<|eV U<|iB U fun T33 A3=>cU (xs:=[.tmp 69]) (cs:=[(vI (o9 (1000*(lU l (b:Int).toNat)) l.hO))]) U cq jd U U U U (by simp [Value.cells]) U U fun Bx=>aC (A3 _ _ (aH [1,2,3,4,5,6,7,8,9,10,11,14]) (aH [1,2,3,4,5,6,7,8,9,10,11,12,13,14]) ?_)
  refine bY U fun T35 A4=>?_
  refine db (es2:=(List.map iC (cG l (b+1)))) (m':=(cG l (b+1)).length) 12 U U U pX U U (by simp [dU]) (aZ (es:=List.map iC [(o9 (1000*(lU l (b:Int).toNat)) l.hO)]) 0 U U (by simp [bB]) U) (kf _) (by have:=dU (l:=l) (n:=b); first|omega|(simp; omega)) (by simp only [maxLen,dU]; omega) (by rw [vt]; simp [dN]) (by simp [dU]) U fun e g=>?_
  try dsimp only
  refine aC (A4 _ _ (aH [1,2,3,4,5,6,7,8,9,10,11,14]) ?_)
  refine bY U fun T38 A5=>jl (vs:=[(vS e ((cG l (b+1)).length) g)]) (cs':=(bW.cells (bW.mk (lk l kA kC cA cC bA bC) (mD r sgA sgC) (br.mk e ((cG l (b+1)).length) g) (br.mk (some ⟨B,0,none⟩) l.ae.length l.ae.length) (br.mk none 0 0) (br.mk none 0 0)))) (C':=[_,_,_,_,_,_,_,_,_,_,_,_,_,(bV Bv 274 (bW.cells (bW.mk (lk l kA kC cA cC bA bC) (mD r sgA sgC) (br.mk e ((cG l (b+1)).length) g) (br.mk (some ⟨B,0,none⟩) l.ae.length l.ae.length) (br.mk none 0 0) (br.mk none 0 0)))),_]) 13 U U U AI U U U U U U U<|aC (A5 _ _ (aH [1,2,3,4,5,6,7,8,9,10,11,14]) ?_)
  refine fF U<|KK AY<|aj<|bf 1 U<|rS (SX (bI U U) U U)<|rP 3 [] (mc 13 U mn) ?_
  refine mz (kV:=iV) U U fun J=>?_
  try dsimp only
  obtain ⟨Bp,BN⟩:=aJ (eo fb l.ae.length) b I
  have hx41m:(List.map oC (eo fb l.ae.length))[b]? =some (oC Bp):=by rw [fq,BN]; rfl
  refine rS (IA b U (ai (n:=l.ae.length) 15 U sq) Gl dc I I) ?_
  have A6:((eo fb l.ae.length).set b (some J))=(eo (fb++[J]) l.ae.length):=by exact uN I I
  refine eu (k:=b) (o:=0) (vs:=[(Value.map (some J))]) (es':=(List.map oC (eo (fb++[J]) l.ae.length))) (C':=[_,_,_,_,_,_,_,_,_,_,_,_,_,_,_,(own (some ⟨B,0,none⟩) l.ae.length 64 1 (List.map oC (eo (fb++[J]) l.ae.length)))]) 15 U U U M1 U U U U hx41m U dc (by exact (List.map_set (f:=oC) (l:=(eo fb l.ae.length)) (i:=b) (a:=(some J))).symm.trans (congrArg _ A6)) U<|aC<|aG<|KK AW<|aj<|rP 2 [] mn ?_
  refine aC<|BY (X':=aV ru (List.replicate (b+1) ([]:TM)) (fb++[J])) 12 0 U U (Ov Y) ?_
  try dsimp only
  have A7:(vI (((b+1):Nat):Int))=(vI ((b:Int)+1)):=by exact cI I
  refine aS (AM ⟨((b+1),e,g,(fb++[J])),⟨I,by simp; omega⟩⟩ _ _ _ U os (ct 8<|aX U A7<|dh.nil _) (aH [2,3,4,5,6,7,8,9,10,11,0,12,13,14]))
 refine bu<|ab<|ab<|au<|KK AS<|ah fun _ AZ=>WS fun _ Aa=>rP 4 [] (mc 1 U mn) ?_
 refine RK Aa<|av ?_
 rw [show (List.replicate b ([]:TM))=dQ l r.ag 0 from by rw [DE,show b=l.ae.length by omega]]
 rw [show cG l b=cG l l.ae.length from by rw [show b=l.ae.length by omega]]
 have E:(0≤r.ag.length)∧(qc l r.ag 0):=by exact ⟨Nat.zero_le _,yZ⟩
 refine bH (ι:={z:Nat // (z≤r.ag.length)∧(qc l r.ag z)}) [2,3,4,6,7,9,10,83,84] [1,2,3,4,5,6,7,8,9,11,12,13] U U (fun z=>[(85,(vI (z.1:Int)))]) (fun z=>[(bV V 123 (aK.cells (mK r.ag z.1))),(bw (aV ru (dQ l r.ag z.1) fb))]) (fun _=>rfl) (fun _=>rfl) (fun z=>r.ag.length-z.1) ⟨0,E⟩ (aT U) (aH [1,2,3,4,5,6,7,8,9,11,12,13,0,10]) ?_
 clear E
 rintro ⟨i,⟨BQ,A⟩⟩ J46 T
 try dsimp only
 have Bm:(dQ l r.ag i).length=l.ae.length:=ji
 have Bl:(eo fb l.ae.length).length=l.ae.length:=re I
 refine WS fun _ Ab=>rP 1 [] mn ?_
 refine RK Ab<|ah fun _ Ac=>bL U (aM fun Bb=>?_) (aL fun Bb=>?_)
 ·refine bu<|ab<|ab<|au<|KK AZ<|ah fun _ An=>ah fun _ Ao=>?_
  have j:e7 l r:=C_ I I A I
  refine aj<|bf 3 U<|RK Ao<|av<|jQ 2<|ed fun R81 Ay=>WS fun _ Ap=>rS (SX (bU (r:= .bool true) U U U gQ) U U)<|RK Ap<|ah fun _ Aq=>aO U<|WK Aq<|ah fun _ Ar=>av<|WS fun _ As=>rS (TO 0 0 U Pp U dc U)<|fw 2 [] (mr 8 U mn) U<|RK As<|WS fun _ At=>bf 1 U<|rS (SX (rQ U U U (hf) (bj [7])) U U)<|bf 1 U<|RK At<|WS fun _ Au=>rP 2 [] mn ?_
  refine RK Au<|cy U (bq fun K=>?_) (bp fun K=>?_)
  ·refine WS fun _ Av=>rP 3 [] mn ?_
   refine RK Av<|an<|LX hQ (false,me,0,none,0,none,0,[],[],[],none,0,[],[],none,0) [] [] mn U (by rfl) U U ?_
   exact rr<|Me (qD C j K) K
  refine bZ<|aG<|KK Ar<|aj<|rS (SX (bU (r:= .int .i64 1) U U U (ib ⟨dc,dc⟩)) U U)<|rP 1 [] mn ?_
  refine RK Ay<|ed fun R89 Bt=>WS fun _ Aw=>rS (SX (bU (r:= .bool false) U U U gQ) U U)<|RK Aw<|ah fun _ Bs=>aW U<|bu<|ab<|ab<|au<|KK An<|ah fun _ Ax=>?_
  rw [show dQ l r.ag i=dQ l r.ag r.ag.length from by rw [show i=r.ag.length by omega]]
  have AE:(dQ l r.ag r.ag.length).length=l.ae.length:=ji
  rw [show (List.map oC (eo fb l.ae.length))=(List.zipWith gD (dQ l r.ag r.ag.length) fb) from U7 I AE]
  rw [show (bV Bv 274 (bW.cells (bW.mk (lk l kA kC cA cC bA bC) (mD r sgA sgC) (br.mk a ((cG l l.ae.length).length) c) (br.mk (some ⟨B,0,none⟩) l.ae.length l.ae.length) (br.mk none 0 0) (br.mk none 0 0))))=(bV Bv 274 (bW.cells (bW.mk (lk l kA kC cA cC bA bC) (mD r sgA sgC) (br.mk a ((cG l l.ae.length).length) c) (br.mk (some ⟨B,0,none⟩) ((dQ l r.ag r.ag.length).length) l.ae.length) (br.mk none 0 0) (br.mk none 0 0)))) from by rw [AE]]
  have BM:=o6 BL d j
  have Bu:(cG l l.ae.length).length=l.ae.length:=dU
  refine aj<|rP 1 [] mn ?_
  refine iO 10 U U U U (LB (lk l kA kC cA cC bA bC) (mD r sgA sgC) (cG l l.ae.length) (dQ l r.ag r.ag.length) a c fb (some ⟨B,0,none⟩) l.ae.length Bv (by exact BM) (by exact dU.symm) (by rw [AE]; omega)) U (dR 9 U U (j9 sm) (dR 11 U U (j9 (by rw [List.length_zipWith]; omega)) (dR 13 U U tm kd))) U (fun BO Bj=>?_)
  obtain ⟨G,S,P,R,F,O,N,H⟩:=BO
  refine Nx (X:=[(bV Bv 274 (bW.cells (bW.mk (lk l kA kC cA cC bA bC) (mD r sgA sgC) (br.mk a ((cG l l.ae.length).length) c) (br.mk (some ⟨B,0,none⟩) ((dQ l r.ag r.ag.length).length) l.ae.length) (br.mk P G.length R) (br.mk N F.length H)))),(own P R 278 1 (List.zipWith gD G S)),(bw (aV nQ G S)),(own N H 278 1 (List.zipWith gD F O)),(bw (aV nQ F O))]) 10 U U ?_
  try dsimp only
  obtain ⟨AD,BH,BJ,BK⟩:=Bj
  dsimp only at AD BH BJ BK
  refine RK Ax<|ah fun _ v=>WS fun _ w=>rP 1 [] mn ?_
  refine cX (H5 (lk l kA kC cA cC bA bC) (mD r sgA sgC) (cG l l.ae.length) (dQ l r.ag r.ag.length) a c fb (some ⟨B,0,none⟩) l.ae.length G F S P R O N H Bv (by exact BM) (by (simp; omega)) (by exact dU.symm) (by exact AD) asm) (aw (ai (n:=(cG l l.ae.length).length) 14 U sm)<|aw (ai (n:=(dQ l r.ag r.ag.length).length) 15 U (by rw [List.length_zipWith]; omega))<|aw (cM 17 U wq)<|aw (ai (n:=G.length) 1 U (by rw [List.length_zipWith]; omega))<|aw (cM 2 U wq)<|aw (ai (n:=F.length) 3 U (by rw [List.length_zipWith]; omega))<|aw (cM 4 U wq)<|fz 0 U U<|aI) U fun BP Bo=>?_
  obtain ⟨Bq,Br⟩:=BP
  try dsimp only
  refine rP 2 [] mn ?_
  refine RK w<|bL U (aM fun W=>?_) (aL fun W=>?_)
  ·refine WK v<|WS fun _ AA=>rP 3 [] mn ?_
   refine RK AA<|an ?_
   refine LX hQ (true,0,Bv,a,c,(some ⟨B,0,none⟩),l.ae.length,fb,G,S,P,R,F,O,N,H) [1,15,16,18,2,3,4,5] [] mn U (by (show List.all _ _=true; simp only [cond_true,fB,List.all_nil,Jd,Rw,Bool.and_true]; rfl)) U U ?_
   exact ⟨fun _=>⟨lF C j (by first|rfl|exact K) (fun q=>W (congrArg (fun z:List Int=>(z.length:Int)) q)),AD,BH,BJ,BK,dso⟩,ND⟩
  refine WS fun _ y=>rP 2 [] mn ?_
  refine RK y<|an<|LX hQ (false,8,0,none,0,none,0,[],[],[],none,0,[],[],none,0) [] [] mn U (by rfl) U U ?_
  exact rr<|pU (pj (me:=me) C j (by first|rfl|exact K) (show jz (cj l r)=[] from jC (Int.natCast_eq_zero.1 W)))
 refine WK Ac<|ah fun _ BV=>av<|WS fun _ Ad=>rP 1 [] mn ?_
 obtain ⟨x,hx⟩:=aJ r.ag i I
 have Bn:=bG aK.cells hx
 refine rS (IA i U (aD 6 U) Aj dc I I)<|rS (oH i 0 (aK.cells x) U bX (aD 6 U) Bn U dc U U)<|AL U F_ fun By=>bf 1 U<|fP U wo U<|RK Ad<|ah fun _ p=>WS fun _ L=>rP 6 [0,1] (mc 2 U (mc 0 U mn)) ?_
 refine cU (xs:=[.tmp 95]) (cs:=[(vI x.gd)]) U cq jd U U U U (by simp [Value.cells]) U U fun BT=>?_
 refine rS (CL (dT.eq (iN 0 ((l.ae.length:Int)-1) ([x.gd]) (some ⟨BT,0,none⟩) 1 (by (simp; done))) cS) (aw (aZ 0 U U (by simp [bB]) U)<|aI) U) ?_
 refine rP 2 [] mn ?_
 refine cR (t:=99) U (bq fun Bc=>?_) (bp fun Bc=>?_)
 ·refine bf 27 U<|RK L<|aO U<|WS fun _ Ae=>rP 2 [] mn ?_
  refine RK Ae<|an<|LX hQ (false,51,0,none,0,none,0,[],[],[],none,0,[],[],none,0) [] [] mn U (by rfl) U U ?_
  exact rr<|pU (jf (me:=me) C (vQ hx (by unfold j_ ld; omega)))
 refine rP 2 [] (mc 1 U mn) ?_
 refine cU (xs:=[.tmp 101]) (cs:=[(vI x.Read)]) U cq jd U U U U (by simp [Value.cells]) U U fun BU=>?_
 refine rS (CL (dT.eq (iN 0 86400000 ([x.Read]) (some ⟨BU,0,none⟩) 1 (by (simp; done))) cS) (aw (aZ 0 U U (by simp [bB]) U)<|aI) U) ?_
 refine rP 3 [] mn ?_
 refine cR (t:=106) U (bq fun AF=>?_) (bp fun AF=>?_)
 ·refine bf 20 U<|RK L<|aO U<|WS fun _ Af=>rP 2 [] mn ?_
  refine RK Af<|an<|LX hQ (false,51,0,none,0,none,0,[],[],[],none,0,[],[],none,0) [] [] mn U (by rfl) U U ?_
  exact rr<|pU (jf (me:=me) C (vQ hx (by unfold j_ ld; omega)))
 refine rP 7 [0,1] (mc 2 U (mc 15 U mn)) ?_
 refine cR (t:=113) U (aL fun AH=>?_) (aM fun AH=>?_)
 ·refine bf 13 U<|RK L<|aO U<|WS fun _ Ag=>rP 2 [] mn ?_
  refine RK Ag<|an<|LX hQ (false,51,0,none,0,none,0,[],[],[],none,0,[],[],none,0) [] [] mn U (by rfl) U U ?_
  exact rr<|pU (jf (me:=me) C (vQ hx (by unfold j_ ld; omega)))
 refine rP 6 [0,1] (mc 2 U (mc 15 U mn)) ?_
 refine b_ (t:=119) U (aM fun AJ=>?_) (aL fun AJ=>?_)
 ·refine bf 7 U<|RK L<|aW U<|WK p<|ah fun _ u=>WS fun _ Al=>fw 2 [0,1] (mc 4 U (mc 2 U mn)) U<|rS (CL (Jh l kA kC az cA cC bA bC x hin asm I) (bj [5,6,7,8]) U)<|AL U de fun B0=>fP U cm U<|RK Al<|WS fun _ Am=>rP 5 [] (mc 0 U mn) ?_
  refine RK Am<|bL U (aM fun D=>?_) (aL fun D=>?_)
  ·refine WK u<|aj<|rP 1 [] (mc 3 U mn) ?_
   refine jl (vs:=(aK.cells x)) (cs':=(aK.cells x)) (C':=[_,_,_,_,_,_,_,_,_,_,_,_,_,_,_,_,(bV V 123 (aK.cells x)),_]) 16 U U U wo U U U U U U U<|aC<|aG<|KK BV ?_
   have BD:(aK.cells x)=(aK.cells (mK r.ag (i+1))):=by rw [pA hx]
   rw [BD]
   refine aj<|rP 2 [] mn ?_
   refine aC ?_
   rw [show (dQ l r.ag i)=(dQ l r.ag (i+1)) from (wZ hx D).symm]
   have BE:(vI (((i+1):Nat):Int))=(vI ((i:Int)+1)):=by exact cI I
   refine aS (T ⟨(i+1),⟨I,lP A hx (by unfold j_ ld; omega)⟩⟩ _ _ _ U os (ct 9<|aX U BE<|dh.nil _) (aH [4,5,6,7,8,9,10,11,12,13,14,15,16,17]))
  obtain ⟨mb,Z⟩:=aJ (dQ l r.ag i) ((x.gd).toNat) I
  obtain ⟨ga,M⟩:=aJ fb ((x.gd).toNat) I
  refine Gf 17 Z M U U U ?_
  try dsimp only
  refine dA cu 10 kr<|lJ 1 U<|dS (SX (bI U U) U U)<|dP 4 [0,1] (mc 16 U (mc 5 U mn)) ?_
  have BG:(List.map oC (eo fb l.ae.length))[(x.gd).toNat]? =some (oC (some ga)):=rI (oO M)
  refine dS (IA ((x.gd).toNat) U (ai (n:=l.ae.length) 17 U sq) Gl dc I I) ?_
  refine dS (fV ((x.gd).toNat) 0 (Value.map (some ga)) U bX (ai (n:=(eo fb l.ae.length).length) 17 U sm) BG U dc U)<|mJ 2 [] (mc 2 U mn) U<|cL<|g_ (kV:=iV) (x:=(i:Int)) (C':=[(gV iV ga (bK dv (dL mb (i:Int) (cz l x)))),_,_,_,_,_,_,_,_,_,_,_,_,_,_,_,_,_,_]) 0 U U U U l7 (dC oG) U (fM _ _ _ _).symm U<|RK u<|aj<|rP 1 [] (mc 5 U mn) ?_
  refine jl (vs:=(aK.cells x)) (cs':=(aK.cells x)) (C':=[_,_,_,_,_,_,_,_,_,_,_,_,_,_,_,_,_,_,(bV V 123 (aK.cells x))]) 18 U U U wo U U U U U U U<|aC<|aG<|KK BV ?_
  have BB:(aK.cells x)=(aK.cells (mK r.ag (i+1))):=by rw [pA hx]
  rw [BB]
  refine aj<|rP 2 [] mn ?_
  refine aC ?_
  refine LZ (f:=ru) (ms:=(dQ l r.ag i)) (m:=(dL mb (i:Int) (cz l x))) 1 0 (by rw [ji]; omega) M U U U ?_
  rw [yT hx I D Z]
  have BC:(vI (((i+1):Nat):Int))=(vI ((i:Int)+1)):=by exact cI I
  refine aS (T ⟨(i+1),⟨I,lP A hx (by unfold j_ ld; omega)⟩⟩ _ _ _ U os (ct 9<|aX U BC<|dh.nil _) (aH [5,6,7,8,9,10,11,12,13,14,15,16,17,0]))
 refine rP 7 [0,1] (mc 2 U (mc 15 U mn)) ?_
 refine RK L<|cy U (aL fun AK=>?_) (aM fun AK=>?_)
 ·refine WS fun _ Ah=>rP 2 [] mn ?_
  refine RK Ah<|an<|LX hQ (false,51,0,none,0,none,0,[],[],[],none,0,[],[],none,0) [] [] mn U (by rfl) U U ?_
  exact rr<|pU (jf (me:=me) C (vQ hx (by unfold j_ ld; omega)))
 refine WK p<|ah fun _ s=>WS fun _ Ai=>fw 2 [0,1] (mc 4 U (mc 2 U mn)) U<|rS (CL (Jh l kA kC az cA cC bA bC x hin asm I) (bj [5,6,7,8]) U)<|AL U de fun Bz=>fP U cm U<|RK Ai<|WS fun _ Ak=>rP 5 [] (mc 0 U mn) ?_
 refine RK Ak<|bL U (aM fun D=>?_) (aL fun D=>?_)
 ·refine WK s<|aj<|rP 1 [] (mc 3 U mn) ?_
  refine jl (vs:=(aK.cells x)) (cs':=(aK.cells x)) (C':=[_,_,_,_,_,_,_,_,_,_,_,_,_,_,_,_,(bV V 123 (aK.cells x)),_]) 16 U U U wo U U U U U U U<|aC<|aG<|KK BV ?_
  have A_:(aK.cells x)=(aK.cells (mK r.ag (i+1))):=by rw [pA hx]
  rw [A_]
  refine aj<|rP 2 [] mn ?_
  refine aC ?_
  rw [show (dQ l r.ag i)=(dQ l r.ag (i+1)) from (wZ hx D).symm]
  have BA:(vI (((i+1):Nat):Int))=(vI ((i:Int)+1)):=by exact cI I
  refine aS (T ⟨(i+1),⟨I,lP A hx (by unfold j_ ld; omega)⟩⟩ _ _ _ U os (ct 9<|aX U BA<|dh.nil _) (aH [4,5,6,7,8,9,10,11,12,13,14,15,16,17]))
 obtain ⟨mb,Z⟩:=aJ (dQ l r.ag i) ((x.gd).toNat) I
 obtain ⟨ga,M⟩:=aJ fb ((x.gd).toNat) I
 refine Gf 17 Z M U U U ?_
 try dsimp only
 refine dA cu 10 kr<|lJ 1 U<|dS (SX (bI U U) U U)<|dP 4 [0,1] (mc 16 U (mc 5 U mn)) ?_
 have BF:(List.map oC (eo fb l.ae.length))[(x.gd).toNat]? =some (oC (some ga)):=rI (oO M)
 refine dS (IA ((x.gd).toNat) U (ai (n:=l.ae.length) 17 U sq) Gl dc I I) ?_
 refine dS (fV ((x.gd).toNat) 0 (Value.map (some ga)) U bX (ai (n:=(eo fb l.ae.length).length) 17 U sm) BF U dc U)<|mJ 2 [] (mc 2 U mn) U<|cL<|g_ (kV:=iV) (x:=(i:Int)) (C':=[(gV iV ga (bK dv (dL mb (i:Int) (cz l x)))),_,_,_,_,_,_,_,_,_,_,_,_,_,_,_,_,_,_]) 0 U U U U l7 (dC oG) U (fM _ _ _ _).symm U<|RK s<|aj<|rP 1 [] (mc 5 U mn) ?_
 refine jl (vs:=(aK.cells x)) (cs':=(aK.cells x)) (C':=[_,_,_,_,_,_,_,_,_,_,_,_,_,_,_,_,_,_,(bV V 123 (aK.cells x))]) 18 U U U wo U U U U U U U<|aC<|aG<|KK BV ?_
 have A8:(aK.cells x)=(aK.cells (mK r.ag (i+1))):=by rw [pA hx]
 rw [A8]
 refine aj<|rP 2 [] mn ?_
 refine aC ?_
 refine LZ (f:=ru) (ms:=(dQ l r.ag i)) (m:=(dL mb (i:Int) (cz l x))) 1 0 (by rw [ji]; omega) M U U U ?_
 rw [yT hx I D Z]
 have A9:(vI (((i+1):Nat):Int))=(vI ((i:Int)+1)):=by exact cI I
 refine aS (T ⟨(i+1),⟨I,lP A hx (by unfold j_ ld; omega)⟩⟩ _ _ _ U os (ct 9<|aX U A9<|dh.nil _) (aH [5,6,7,8,9,10,11,12,13,14,15,16,17,0]))
end
section
open Go.RowKit
theorem KS (l:a_) (kA:OA) (kC:Nat) (az:List RA) (cA:OA) (cC:Nat) (bA:OA) (bC:Nat) (r:cv) (sgA:OA) (sgC:Nat) (bq_:Int) (hin:er l az) (hsl:r.ag.length≤1000000):
 dT Tryz.prog 204 [(vA (ck.cells (lk l kA kC cA cC bA bC))),(vA (eC.cells (mD r sgA sgC))),(vI bq_)] [(rd kA l.aP.length 9 (l.aP.map al.cells)),(rd cA l.ak.length 2 (List.zipWith ar.cells l.ak az)),(eW (aV ar.gZ l.ak az)),(rd bA l.ae.length 4 (l.ae.map bD.cells)),(rd sgA r.ag.length 2 (r.ag.map aK.cells))] (vT [(vA (aa.cells (eQ l r bq_))),(vI (eL l r bq_))]):=by
 have A2:=hin.sH
 have Av:=hin.sI
 have Aq:=hin.ov
 have At:=hin.sD
 have A0:=hin.side
 refine bx kr Tryz.func204 U U fun w0 Q hQ hN=>?_
 try dsimp only
 refine WS fun _ AF=>fK U fun b2=>fK U fun b3=>uI U U fun b4=>AL U de fun b5=>bf 1 U<|RK AF<|WS fun _ p=>rP 2 [0,1] (mc 3 U (mc 2 U mn)) ?_
 refine rS (FU U)<|cU (xs:=[.tmp 17]) (cs:=[(Value.func (.func 206) [].toArray [(vP b2),(vP b4)].toArray)]) U Pp TC U U U U (by simp [Value.cells]) U U fun b7=>cX (Oz l kA kC az cA cC bA bC r sgA sgC (Value.func (.func 206) [].toArray [(vP b2),(vP b4)].toArray) (eW [(rd kA l.aP.length 9 (l.aP.map al.cells)),(rd cA l.ak.length 2 (List.zipWith ar.cells l.ak az)),(eW (aV ar.gZ l.ak az)),(rd bA l.ae.length 4 (l.ae.map bD.cells)),(bV b2 31 (ck.cells (lk l kA kC cA cC bA bC))),(bV b4 3 [(vI bq_)])]) (jB l bq_) b7 (by exact nm (fi:=[]) (ca:=[(vP b2),(vP b4)]) (lX (D6 l kA kC az cA cC bA bC b2 bq_ b4 (by first|assumption|omega)) (bj [0,1,2,3,4,5]))) hin hsl) (lL [5,6,7,8,9]<|aw (lV (bj [5,6,7,8,4,2]))<|fz 0 U U<|aI) U fun y8 AW=>?_
 obtain ⟨AX,Al,E,H,AD,g,j,m,B,L,J,K,A,G,d,f⟩:=y8
 cases AX
 ·obtain ⟨AS,he⟩:=AW.2 rfl
  try dsimp only at AS he
  subst AS
  try dsimp only [cond_true,cond_false,List.cons_append,List.nil_append]
  refine bf 5 U<|RK p<|ah fun _ Am=>WS fun _ AO=>rP 2 [] mn ?_
  refine RK AO<|bL U (bp fun AN=>?_) (bq fun AN=>?_)
  ·exact absurd AN he
  refine WS fun _ AP=>rS (SX (bh (xs:=[]) (cs:=(aa.cells (aa.mk 0 0))) U U (bg gf U)) U U)<|bf 1 U<|ua U cm U<|rP 1 [] mn ?_
  refine RK AP<|an<|lh hQ [0] (mc 1 U mn) U ?_
  (have e:=np (b:=bq_) he; rw [e.1,e.2]<;>rfl)
 obtain ⟨he,D,C,Ab,Aa,Ae⟩:=AW.1 rfl
 try dsimp only [cond_true,cond_false,List.cons_append,List.nil_append]
 dsimp only at D C Ab Aa Ae
 obtain ⟨AZ,AJ,Ad,Ax⟩:=jL he
 obtain ⟨Af,AU⟩:=gF AZ
 have Ac:=AU.head
 unfold gp at Ac
 have Ag:=o6 Af AU AJ
 have Az:=AJ.time
 have Ay:=AJ.len
 have AT:(cG l l.ae.length).length=l.ae.length:=dU
 have AV:(dQ l r.ag r.ag.length).length=l.ae.length:=ji
 have Aw:B.length=l.ae.length+1:=by have:=D.len; rw [show (cj l r).n=l.ae.length from dU] at this; exact this
 have Au:A.length=l.ae.length+1:=by have:=C.len; rw [show (cj l r).n=l.ae.length from dU] at this; exact this
 obtain ⟨Ar,As⟩:=Ei Ad
 obtain ⟨b,AG⟩: ∃ b:Nat,bq_=(b:Int):=⟨bq_.toNat,I⟩
 rw [AG]
 refine bf 5 U<|RK p<|ah fun _ N=>WS fun _ O=>bf 1 U<|rS (SX (bU (r:= .bool false) U U U l6) U U)<|RK O<|aW U<|WK N<|WS fun _ P=>rS (SX (bh (xs:=[(0,.const (vI 1))]) (cs:=(aa.cells (aa.mk 1 0))) U U (bg gf U)) U U)<|AL U de fun AK=>fP U cm U<|RK P<|WS fun _ R=>fw 1 [] (mc 0 U mn) U<|AL U de fun AM=>fP U cm U<|RK R<|ah fun _ T=>WS fun _ AC=>rP 2 [] (mc 12 U mn) ?_
 obtain ⟨mf,Y⟩:=aJ B b I
 obtain ⟨mb,Z⟩:=aJ A (b+1) I
 refine cX (Jp E b) (aI) U fun Ai An=>?_
 obtain ⟨AA,AB⟩:=Ai
 try dsimp only
 refine RK AC<|av ?_
 refine nG (L0:=[(3,(vP b2)),(4,(vP b3)),(5,(vP b4)),(6,(vP b5)),(7,(vI 0)),(10,(vP AK)),(11,(vP AM))]) (F:=[(own H AD 3 1 ((cG l l.ae.length).map iC)),(own g j 64 1 (List.zipWith gD (dQ l r.ag r.ag.length) m)),(bw (aV ru (dQ l r.ag r.ag.length) m)),(own J K 278 1 (List.zipWith gD B L)),(bw (aV nQ B L)),(own d f 278 1 (List.zipWith gD A G)),(bw (aV nQ A G)),(bV E 274 (bW.cells (bW.mk (lk l kA kC cA cC bA bC) (mD r sgA sgC) (br.mk H ((cG l l.ae.length).length) AD) (br.mk g ((dQ l r.ag r.ag.length).length) j) (br.mk J B.length K) (br.mk d A.length f)))),(bV AA 263 [(vP E)]),(bV AB 3 [(vI (b:Int))])]) (fun k (y:aa)=>(kg k y)∧(∀ q∈k,q∈pN (cj l r) b mf mb)) (fun k y=>[(bV AM 40 (aa.cells y)),(bV AK 40 (aa.cells (aa.mk 1 0))),(bV b5 40 (aa.cells (aa.mk 0 0))),(bV b4 3 [(vI (b:Int))]),(bV b3 43 (eC.cells (mD r sgA sgC))),(bV b2 31 (ck.cells (lk l kA kC cA cC bA bC))),(rd kA l.aP.length 9 (l.aP.map al.cells)).ro,(rd cA l.ak.length 2 (List.zipWith ar.cells l.ak az)).ro,(eW (aV ar.gZ l.ak az)).ro,(rd bA l.ae.length 4 (l.ae.map bD.cells)).ro,(rd sgA r.ag.length 2 (r.ag.map aK.cells)).ro]) (fun _ (_:Unit)=>False) (fun _ _=>[]) [2,3,13,14,15,16,17,18,19,20,21] [5,6,7,8,9,10,11,4,0,1] mh rfl rfl (HP (lk l kA kC cA cC bA bC) (mD r sgA sgC) (cG l l.ae.length) (dQ l r.ag r.ag.length) H AD m g j B A L J K G d f E b AA AB mf mb (by rw [AT]; omega) (by exact Ag) (by rw [AV]; omega) (by exact D) I (by exact C) I (by show r.ag.length≤1000; omega) (by exact Y) (by exact Z)) rfl rfl rfl (by exact ⟨Bm,fun q hq=>by cases hq⟩) (by simp only [List.forall_mem_cons,List.not_mem_nil,false_imp_iff,implies_true,and_true]; exact ⟨⟨_,aR (i:=0) rfl,(j9 sm)⟩,⟨_,aR (i:=1) rfl,(j9 (by rw [List.length_zipWith]; omega))⟩,⟨_,aR (i:=2) rfl,tm⟩,⟨_,aR (i:=3) rfl,(j9 (by rw [List.length_zipWith]; omega))⟩,⟨_,aR (i:=4) rfl,tm⟩,⟨_,aR (i:=5) rfl,(j9 (by rw [List.length_zipWith]; omega))⟩,⟨_,aR (i:=6) rfl,tm⟩,⟨_,aR (i:=7) rfl,(bO _)⟩,⟨_,aR (i:=8) rfl,(bO _)⟩,⟨_,aR (i:=9) rfl,(bO _)⟩⟩) (by rintro k x k2 ⟨o,_,rfl,_⟩; rfl) rfl (aT rfl) ?_ ?_ (fun _ _ _ h=>h.elim) (fun _ _ h=>h.elim)
 ·rintro k x k2 h lr ra rb S w1 K41 Qr42 A1 hx AH AQ X Ah Aj
  obtain ⟨q,hq,rfl,rfl⟩:=hx
  obtain ⟨a,c⟩:=AH
  try dsimp only
  refine aj<|AL U de fun Ao=>fP U cm U<|aC<|jy (fun _ _ h=>h) (aH [1,0,2,3,4,5,6,7,8,9,10,11,12])<|aS (AQ _ _ ?_)
  refine av<|ah fun _ s=>WS fun _ AR=>rP 2 [0,1] (mc 2 U (mc 3 U mn)) ?_
  refine rS (BI U (Rq _ _ h (aa.mk 1 0)))<|RK AR<|bL U (bp fun M=>?_) (bq fun M=>?_)
  ·refine WK s<|aj<|rP 1 [] (mc 1 U mn) ?_
   refine HL U cm U<|aC<|aG ?_
   exact X q.2 _ _ (by refine ⟨yw a (mW hq) ?_,fun z hz=>?_⟩; (first|exact if_neg M|exact if_pos M); (rcases List.mem_append.1 hz with hz|hz; exact c z hz; (rw [List.mem_singleton.1 hz]; exact hq))) (aH [0,2,3,4,5,6,7,8,9,10,11,12])
  refine aj<|fw 4 [0,1] (mc 1 U (mc 2 U mn)) U<|rS (MN U)<|fw 4 [0,1] (mc 1 U (mc 2 U mn)) U<|rS (MX U)<|rS (SX (bh (xs:=[(0,.tmp 40),(1,.tmp 45)]) (cs:=(aa.cells (aa.mk (min q.2.Lo h.Lo) (max q.2.Hi h.Hi)))) U U (bg gf U)) U U)<|ua U cm U<|RK s<|aj<|rP 1 [] (mc 1 U mn) ?_
  refine HL U cm U<|aC<|aG ?_
  exact X (aa.mk (min q.2.Lo h.Lo) (max q.2.Hi h.Hi)) _ _ (by refine ⟨yw a (mW hq) ?_,fun z hz=>?_⟩; (first|exact if_neg M|exact if_pos M); (rcases List.mem_append.1 hz with hz|hz; exact c z hz; (rw [List.mem_singleton.1 hz]; exact hq))) (aH [0,2,3,4,5,6,7,8,9,10,11,12])
 rintro A4 k h v AI
 obtain ⟨a,c⟩:=AI
 try dsimp only
 refine aG<|KK T<|ah fun _ V=>WS fun _ W=>rP 2 [0,1] (mc 11 U (mc 12 U mn)) ?_
 refine rS (BI U (sW _ _ h (aa.mk 1 0)))<|RK W<|bL U (aM fun AE=>?_) (aL fun AE=>?_)
 ·refine WK V<|WS fun _ u=>fw 1 [] (mc 11 U mn) U<|jl (vs:=(aa.cells h)) (cs':=(aa.cells h)) (C':=[_,_,_,_,_,_,_,_,_,_,_,_,_,(bV b5 40 (aa.cells h)),_,_,_,_,_,_,_,_]) 13 U U U cm U U U U U U U<|rP 1 [] mn ?_
  refine RK u<|an<|hQ _ _ _ (ou 0 U U<|gU (vs:=[(vA (aa.cells h)),(vI 0)]) ⟨⟨_,U,.inl ⟨_,_,bX,pE (vs:=(aa.cells h)) 13 U U,U,U⟩⟩,U,trivial⟩ fun w hs=>DL ?_ hs)
  show (vT [(vA (aa.cells h)),(vI 0)])=(vT [(vA (aa.cells (eQ l r bq_))),(vI (eL l r bq_))])
  clear hs w hQ hN u W V AC T R P O N p AF
  (rw [AG] at he ⊢; have hh:h=my l r b:=zF (D.min _ _ Y) (C.max _ _ Z) (D.keys _ _ Y) (C.keys _ _ Z) c v a; (have e:=oa he (fun q=>AE (hh.trans q)); rw [e.1,e.2,hh]<;>rfl))
 refine WS fun _ t=>rS (SX (bh (xs:=[]) (cs:=(aa.cells (aa.mk 0 0))) U U (bg gf U)) U U)<|jl (vs:=(aa.cells (aa.mk 0 0))) (cs':=(aa.cells (aa.mk 0 0))) (C':=[_,_,_,_,_,_,_,_,_,_,_,_,_,(bV b5 40 (aa.cells (aa.mk 0 0))),_,_,_,_,_,_,_,_]) 13 U U U cm U U U U U U U<|rP 1 [] mn ?_
 refine RK t<|an<|hQ _ _ _ (ou 0 U U<|gU (vs:=[(vA (aa.cells (aa.mk 0 0))),(vI 6)]) ⟨⟨_,U,.inl ⟨_,_,bX,pE (vs:=(aa.cells (aa.mk 0 0))) 13 U U,U,U⟩⟩,U,trivial⟩ fun w hs=>DL ?_ hs)
 show (vT [(vA (aa.cells (aa.mk 0 0))),(vI 6)])=(vT [(vA (aa.cells (eQ l r bq_))),(vI (eL l r bq_))])
 clear hs w hQ hN t W V AC T R P O N p AF
 (rw [AG] at he ⊢; have hh:h=my l r b:=zF (D.min _ _ Y) (C.max _ _ Z) (D.keys _ _ Y) (C.keys _ _ Z) c v a; (have e:=qm he (hh.symm.trans AE); rw [e.1,e.2]<;>rfl))
theorem S3 (l:a_) (kA:OA) (kC:Nat) (az:List RA) (cA:OA) (cC:Nat) (bA:OA) (bC:Nat) (r:cv) (sgA:OA) (sgC:Nat) (hin:er l az) (hsl:r.ag.length≤1000000):
 dT Tryz.prog 203 [(vA (ck.cells (lk l kA kC cA cC bA bC))),(vA (eC.cells (mD r sgA sgC)))] [(rd kA l.aP.length 9 (l.aP.map al.cells)),(rd cA l.ak.length 2 (List.zipWith ar.cells l.ak az)),(eW (aV ar.gZ l.ak az)),(rd bA l.ae.length 4 (l.ae.map bD.cells)),(rd sgA r.ag.length 2 (r.ag.map aK.cells))] (vT [(vA (aa.cells (zO l r))),(vI (eL l r l.cH))]):=by
 have N:=hin.sH
 have J:=hin.sI
 have H:=hin.ov
 have AA:=hin.sD
 have M:=hin.side
 refine bx kr Tryz.func203 U U fun T Q hQ hN=>?_
 try dsimp only
 refine WS fun _ C=>fK U fun O=>fK U fun P=>AL U de fun R=>bf 1 U<|RK C<|WS fun _ D=>fw 4 [0,1] (mc 2 U (mc 1 U mn)) U<|rS (CL (KS l kA kC az cA cC bA bC r sgA sgC l.cH hin hsl) (bj [3,4,5,6,7]) U)<|bf 3 U<|AL U de fun S=>fP U cm U<|bf 1 U<|RK D<|ah fun _ E=>WS fun _ F=>rP 2 [] mn ?_
 refine RK F<|cy U (bq fun A=>?_) (bp fun A=>?_)
 ·refine WS fun _ G=>rS (SX (bh (xs:=[]) (cs:=(aa.cells (aa.mk 0 0))) U U (bg gf U)) U U)<|bf 1 U<|ua U cm U<|rP 1 [] mn ?_
  refine RK G<|an<|lh hQ [0] (mc 1 U mn) U ?_
  (rw [EN A]<;>rfl)
 refine WK E<|WS fun _ B=>rP 4 [0,1] (mc 0 U (mc 2 U mn)) ?_
 have K:=wT A
 have L:=(vp A).time
 refine fw 6 [0,1] (mc 0 U (mc 2 U mn)) U<|rS (SX (bh (xs:=[(0,.tmp 24),(1,.tmp 29)]) (cs:=(aa.cells (aa.mk (((eQ l r l.cH).Lo)-r.Start) (((eQ l r l.cH).Hi)-r.Start)))) U U (bg gf U)) U U)<|ua U cm U<|rP 1 [] mn ?_
 refine RK B<|an<|lh hQ [0] (mc 1 U mn) U ?_
 (rw [Au A,A]<;>rfl)
end
section
open Go.RowKit
theorem MJ (l:a_) (kA:OA) (kC:Nat) (az:List RA) (cA:OA) (cC:Nat) (bA:OA) (bC:Nat) (d:ax) (sgA:OA) (sgC:Nat) (hin:er l az):
 dT Tryz.prog 197 [(vA (ck.cells (lk l kA kC cA cC bA bC))),(vA (bk.cells (bk.mk d.Out d.eH d.Time (mD d.cr sgA sgC))))] [(rd kA l.aP.length 9 (l.aP.map al.cells)),(rd cA l.ak.length 2 (List.zipWith ar.cells l.ak az)),(eW (aV ar.gZ l.ak az)),(rd bA l.ae.length 4 (l.ae.map bD.cells)),(rd sgA d.cr.ag.length 2 (d.cr.ag.map aK.cells))] (vT [(vA (aa.cells d.Time)),(vB (decide (d.eH=false∧d.Time=dw∧mw d.cr)))]):=by
 refine bx kr Tryz.func197 U U fun K Q hQ hN=>?_
 try dsimp only
 refine WS fun _ B=>fK U fun H=>fK U fun AA=>AL U de fun J=>rP 1 [] mn ?_
 refine RK B<|ah fun _ A=>dG cu [15] [] [] [1,2,3,4,5,6,7] [] U U U U U<|eS U (FA 2 U fu U)<|eS U (LP (aa.cells d.Time) 0 U bX U U U)<|eS U (FA 1 U fu U)<|eS U (L1 (vB d.eH) 0 U bX U U)<|eS U (NT U)<|eS U (MV U)<|qO (t:=11) U (fun G=>?_) (fun G=>?_)
 rotate_left 1
 ·rw [Bool.not_eq_false'] at G
  refine eS U (OX U)<|eS U (OX U)<|eS U (OX U)<|eS U (OX U)<|eS U (PK U)<|eS U (MV U)<|eS U (OX U)<|eS U (OX U)<|eS U (PK U)<|eS U (AG U)<|eV U<|bY U fun T10 C=>fP U cm U<|aC (C _ _ (aH [1,2,3,4,5,6,7]) ?_)
  refine fF U<|KK A<|an<|lh hQ [0] (mc 0 U mn) U ?_
  clear hQ hN C T10 A B
  refine congrArg (fun z=>Value.tuple #[_,vB z]) ?_
  first|rfl|(simp_all [dw]; done)
 rw [Bool.not_eq_true'] at G
 refine eS U (FA 2 U fu U)<|eS U (LP (aa.cells d.Time) 0 U bX U U U)<|eS U (SX (bh (xs:=[]) (cs:=(aa.cells (aa.mk 0 0))) U U (bg gf U)) U U)<|eS U (BI U (sW _ _ d.Time (aa.mk 0 0)))<|eS U (PK U)<|eS U (MV U)<|qO (t:=17) U (fun D=>?_) (fun D=>?_)
 rotate_left 1
 ·replace D:=DF D
  refine eS U (OX U)<|eS U (OX U)<|eS U (PK U)<|eS U (AG U)<|eV U<|bY U fun T9 F=>fP U cm U<|aC (F _ _ (aH [1,2,3,4,5,6,7]) ?_)
  refine fF U<|KK A<|an<|lh hQ [0] (mc 0 U mn) U ?_
  clear hQ hN F T9 A B
  refine congrArg (fun z=>Value.tuple #[_,vB z]) ?_
  first|rfl|(simp_all [dw]; done)
 replace D:=DT D
 refine eS U (LW 0 U bX U U)<|eS U (CL (IC d sgA sgC) (bj [6]) U)<|eS U (PK U)<|eS U (AG U)<|eV U<|bY U fun T8 E=>fP U cm U<|aC (E _ _ (aH [1,2,3,4,5,6,7]) ?_)
 refine fF U<|KK A<|an<|lh hQ [0] (mc 0 U mn) U ?_
 clear hQ hN E T8 A B
 refine congrArg (fun z=>Value.tuple #[_,vB z]) ?_
 first|rfl|(simp_all [dw]; done)
theorem NL (l:a_) (kA:OA) (kC:Nat) (az:List RA) (cA:OA) (cC:Nat) (bA:OA) (bC:Nat) (d:ax) (sgA:OA) (sgC:Nat) (hin:er l az):
 dT Tryz.prog 200 [(vA (ck.cells (lk l kA kC cA cC bA bC))),(vA (bk.cells (bk.mk d.Out d.eH d.Time (mD d.cr sgA sgC))))] [(rd kA l.aP.length 9 (l.aP.map al.cells)),(rd cA l.ak.length 2 (List.zipWith ar.cells l.ak az)),(eW (aV ar.gZ l.ak az)),(rd bA l.ae.length 4 (l.ae.map bD.cells)),(rd sgA d.cr.ag.length 2 (d.cr.ag.map aK.cells))] (vT [(vA (aa.cells d.Time)),(vB (decide (iH d.Time∧mw d.cr)))]):=by
 refine bx kr Tryz.func200 U U fun AA Q hQ hN=>?_
 try dsimp only
 refine WS fun _ B=>fK U fun F=>fK U fun G=>AL U de fun H=>rP 1 [] mn ?_
 refine RK B<|ah fun _ A=>dG cu [9] [] [] [1,2,3,4,5,6,7] [] U U U U U<|eS U (FA 2 U fu U)<|eS U (LP (aa.cells d.Time) 0 U bX U U U)<|eS U (FA 2 U fu U)<|eS U (LP (aa.cells d.Time) 0 U bX U U U)<|eS U (CL (Fc d.Time) (aI) U)<|eS U (MV U)<|qO (t:=11) U (fun C=>?_) (fun C=>?_)
 rotate_left 1
 ·replace C:=DF C
  refine eS U (OX U)<|eS U (OX U)<|eS U (PK U)<|eS U (AG U)<|eV U<|bY U fun T8 E=>fP U cm U<|aC (E _ _ (aH [1,2,3,4,5,6,7]) ?_)
  refine fF U<|KK A<|an<|lh hQ [0] (mc 0 U mn) U ?_
  clear hQ hN E T8 A B
  refine congrArg (fun z=>Value.tuple #[_,vB z]) ?_
  first|rfl|(simp_all; done)
 replace C:=DT C
 refine eS U (LW 0 U bX U U)<|eS U (CL (IC d sgA sgC) (bj [6]) U)<|eS U (PK U)<|eS U (AG U)<|eV U<|bY U fun T7 D=>fP U cm U<|aC (D _ _ (aH [1,2,3,4,5,6,7]) ?_)
 refine fF U<|KK A<|an<|lh hQ [0] (mc 0 U mn) U ?_
 clear hQ hN D T7 A B
 refine congrArg (fun z=>Value.tuple #[_,vB z]) ?_
 first|rfl|(simp_all; done)
theorem N0 (l:a_) (kA:OA) (kC:Nat) (az:List RA) (cA:OA) (cC:Nat) (bA:OA) (bC:Nat) (d:ax) (sgA:OA) (sgC:Nat) (hin:er l az) (hsl:d.cr.ag.length≤1000000):
 dT Tryz.prog 202 [(vA (ck.cells (lk l kA kC cA cC bA bC))),(vA (bk.cells (bk.mk d.Out d.eH d.Time (mD d.cr sgA sgC))))] [(rd kA l.aP.length 9 (l.aP.map al.cells)),(rd cA l.ak.length 2 (List.zipWith ar.cells l.ak az)),(eW (aV ar.gZ l.ak az)),(rd bA l.ae.length 4 (l.ae.map bD.cells)),(rd sgA d.cr.ag.length 2 (d.cr.ag.map aK.cells))] (vT [(vA (aa.cells (zO l d.cr))),(vB (decide (eL l d.cr l.cH=0∧d.Time=dw)))]):=by
 have K:=hin.sH
 have AA:=hin.sI
 have G:=hin.ov
 have H:=hin.sD
 have J:=hin.side
 refine bx kr Tryz.func202 U U fun P Q hQ hN=>?_
 try dsimp only
 refine WS fun _ C=>fK U fun L=>fK U fun M=>AL U de fun N=>bf 1 U<|RK C<|WS fun _ D=>fw 2 [] (mc 2 U mn) U<|rS (LP (eC.cells (mD d.cr sgA sgC)) 1 U bX U U U)<|rS (CL (S3 l kA kC az cA cC bA bC d.cr sgA sgC hin hsl) (bj [3,4,5,6,7]) U)<|bf 3 U<|AL U de fun O=>fP U cm U<|rP 1 [] mn ?_
 refine RK D<|ah fun _ A=>dG cu [9] [] [] [0,2,3,4,5,6,7,8] [] U U U U U<|eS U (LW 0 U bX U U)<|eS U (MV U)<|eS U (BI U lu)<|eS U (MV U)<|qO (t:=18) U (fun E=>?_) (fun E=>?_)
 rotate_left 1
 ·replace E:=DF E
  refine eS U (OX U)<|eS U (OX U)<|eS U (OX U)<|eS U (OX U)<|eS U (PK U)<|eS U (AG U)<|eV U<|bY U fun T10 B=>ua U cm U<|aC (B _ _ (aH [0,2,3,4,5,6,7,8]) ?_)
  refine fF U<|KK A<|an<|lh hQ [0] (mc 1 U mn) U ?_
  clear hQ hN B T10 A D C
  refine congrArg (fun z=>Value.tuple #[_,vB z]) ?_
  first|rfl|(simp_all [dw]; done)
 replace E:=DT E
 refine eS U (FA 2 U fu U)<|eS U (LP (aa.cells d.Time) 1 U bX U U U)<|eS U (SX (bh (xs:=[]) (cs:=(aa.cells (aa.mk 0 0))) U U (bg gf U)) U U)<|eS U (BI U (sW _ _ d.Time (aa.mk 0 0)))<|eS U (PK U)<|eS U (AG U)<|eV U<|bY U fun T9 F=>ua U cm U<|aC (F _ _ (aH [0,2,3,4,5,6,7,8]) ?_)
 refine fF U<|KK A<|an<|lh hQ [0] (mc 1 U mn) U ?_
 clear hQ hN F T9 A D C
 refine congrArg (fun z=>Value.tuple #[_,vB z]) ?_
 first|rfl|(simp_all [dw]; done)
theorem GB (d:ax) (sgA:OA) (sgC g1:Nat):
 dT Tryz.prog 85 [(vA (mL.cells (mL.mk (Value.func (.func 196) [].toArray [].toArray) (Value.func (.func 197) [].toArray [].toArray)))),(vP g1)] [(rd sgA d.cr.ag.length 2 (d.cr.ag.map aK.cells)),(bV g1 45 (bk.cells (bk.mk d.Out d.eH d.Time (mD d.cr sgA sgC))))] (vB d.Out):=by
 refine bx kr Tryz.func85 U U fun D Q hQ hN=>?_
 try dsimp only
 refine WS fun _ A=>fK U fun C=>bf 1 U<|RK A<|WS fun _ B=>fw 3 [0,1] (mc 0 U (mr 2 U mn)) U<|rS (CL (Tw d sgA sgC) (bj [1]) U)<|rP 1 [] mn ?_
 refine RK B<|an<|Q1 hQ U U U ?_
 rfl
theorem Gu (d:ax) (sgA:OA) (sgC g1:Nat):
 dT Tryz.prog 85 [(vA (mL.cells (mL.mk (Value.func (.func 199) [].toArray [].toArray) (Value.func (.func 200) [].toArray [].toArray)))),(vP g1)] [(rd sgA d.cr.ag.length 2 (d.cr.ag.map aK.cells)),(bV g1 45 (bk.cells (bk.mk d.Out d.eH d.Time (mD d.cr sgA sgC))))] (vB d.eH):=by
 refine bx kr Tryz.func85 U U fun D Q hQ hN=>?_
 try dsimp only
 refine WS fun _ A=>fK U fun C=>bf 1 U<|RK A<|WS fun _ B=>fw 3 [0,1] (mc 0 U (mr 2 U mn)) U<|rS (CL (Q_ d sgA sgC) (bj [1]) U)<|rP 1 [] mn ?_
 refine RK B<|an<|Q1 hQ U U U ?_
 rfl
theorem G1 (d:ax) (sgA:OA) (sgC g1:Nat):
 dT Tryz.prog 85 [(vA (mL.cells (mL.mk (Value.func (.func 201) [].toArray [].toArray) (Value.func (.func 202) [].toArray [].toArray)))),(vP g1)] [(rd sgA d.cr.ag.length 2 (d.cr.ag.map aK.cells)),(bV g1 45 (bk.cells (bk.mk d.Out d.eH d.Time (mD d.cr sgA sgC))))] (vB true):=by
 refine bx kr Tryz.func85 U U fun D Q hQ hN=>?_
 try dsimp only
 refine WS fun _ A=>fK U fun C=>bf 1 U<|RK A<|WS fun _ B=>fw 3 [0,1] (mc 0 U (mr 2 U mn)) U<|rS (CL (Tx d sgA sgC) (bj [1]) U)<|rP 1 [] mn ?_
 refine RK B<|an<|Q1 hQ U U U ?_
 rfl
end
section
open Go.RowKit
theorem wV (d:ax) (sgA:OA) (sgC g1:Nat):
 dT Tryz.prog 84 [(vS eX 3 3),(Value.func (.func 85) [].toArray [(vP g1)].toArray)] [(rd eX 3 2 dY),(rd sgA d.cr.ag.length 2 (d.cr.ag.map aK.cells)),(bV g1 45 (bk.cells (bk.mk d.Out d.eH d.Time (mD d.cr sgA sgC))))] (vI (oB d)):=by
 refine bx kr Tryz.func84 U U fun b Q hQ hN=>?_
 try dsimp only
 refine WS fun _ F=>bf 1 U<|RK F<|ah fun _ AA=>WS fun _ G=>bf 3 U<|RK G<|av<|jQ 4<|ed fun R4 Z=>WS fun _ H=>rS (SX (bU (r:= .bool true) U U U gQ) U U)<|RK H<|ah fun _ AB=>aO U<|WK AB<|ah fun _ J=>av<|WS fun _ K=>bf 2 U<|RK K<|WS fun _ L=>rP 3 [] mn ?_
 refine rS (IA 0 U (aD 0 U) Kx dc U I)<|rS (oH 0 0 (mL.cells (mL.mk (Value.func (.func 196) [].toArray [].toArray) (Value.func (.func 197) [].toArray [].toArray))) U bX (aD 0 U) (show dY[0]? =some [(Value.func (.func 196) [].toArray [].toArray),(Value.func (.func 197) [].toArray [].toArray)] from U) U dc U U)<|rS (CL (GB d sgA sgC g1) (bj [1,2]) U)<|RK L<|cy U (fun X=>?_) (fun X=>?_)
 ·refine WS fun _ M=>rP 2 [] mn ?_
  refine RK M<|an<|Q1 hQ U U U ?_
  clear hQ hN M L K J AB H G AA F
  refine cI ?_
  simp [oB, *]
 refine bZ<|aG<|KK J<|aj<|rS (SX (bU (r:= .int .i64 1) U U U (ib ⟨dc,dc⟩)) U U)<|bf 1 U<|RK Z<|ed fun R12 W=>WS fun _ A=>rS (SX (bU (r:= .bool true) U U U gQ) U U)<|RK A<|ah fun _ B=>aO U<|WK B<|ah fun _ C=>av<|WS fun _ D=>bf 2 U<|RK D<|WS fun _ E=>rP 3 [] mn ?_
 refine rS (IA 1 U (aD 0 U) Kx dc U I)<|rS (oH 1 0 (mL.cells (mL.mk (Value.func (.func 199) [].toArray [].toArray) (Value.func (.func 200) [].toArray [].toArray))) U bX (aD 0 U) (show dY[1]? =some [(Value.func (.func 199) [].toArray [].toArray),(Value.func (.func 200) [].toArray [].toArray)] from U) U dc U U)<|rS (CL (Gu d sgA sgC g1) (bj [1,2]) U)<|RK E<|cy U (fun Y=>?_) (fun Y=>?_)
 ·refine WS fun _ N=>rP 2 [] mn ?_
  refine RK N<|an<|Q1 hQ U U U ?_
  clear hQ hN N E D C B A L K J AB H G AA F
  refine cI ?_
  simp [oB, *]
 refine bZ<|aG<|KK C<|aj<|rS (SX (bU (r:= .int .i64 2) U U U (ib ⟨dc,dc⟩)) U U)<|bf 1 U<|RK W<|ed fun R20 a=>WS fun _ O=>rS (SX (bU (r:= .bool true) U U U gQ) U U)<|RK O<|ah fun _ P=>aO U<|WK P<|ah fun _ V=>av<|WS fun _ R=>bf 2 U<|RK R<|WS fun _ S=>bf 3 U<|rS (IA 2 U (aD 0 U) Kx dc U I)<|rS (oH 2 0 (mL.cells (mL.mk (Value.func (.func 201) [].toArray [].toArray) (Value.func (.func 202) [].toArray [].toArray))) U bX (aD 0 U) (show dY[2]? =some [(Value.func (.func 201) [].toArray [].toArray),(Value.func (.func 202) [].toArray [].toArray)] from U) U dc U U)<|rS (CL (G1 d sgA sgC g1) (bj [1,2]) U)<|RK S<|aO U<|WS fun _ T=>rP 2 [] mn ?_
 refine RK T<|an<|Q1 hQ U U U ?_
 clear hQ hN T S R V P O E D C B A L K J AB H G AA F
 refine cI ?_
 simp [oB, *]
end
section
open Go.RowKit
theorem Se (d:ax) (sgA:OA) (sgC g1:Nat) (hk:d.Out=true):
 dT Tryz.prog 84 [(vS eX 3 3),(Value.func (.func 85) [].toArray [(vP g1)].toArray)] [(rd eX 3 2 dY),(rd sgA d.cr.ag.length 2 (d.cr.ag.map aK.cells)),(bV g1 45 (bk.cells (bk.mk d.Out d.eH d.Time (mD d.cr sgA sgC))))] (vI 0):=by
 have h:=wV d sgA sgC g1
 have e:oB d=0:=by simp [oB,hk]
 rw [e] at h
 exact h
theorem TA (d:ax) (sgA:OA) (sgC g1:Nat) (hk:d.Out=false∧d.eH=true):
 dT Tryz.prog 84 [(vS eX 3 3),(Value.func (.func 85) [].toArray [(vP g1)].toArray)] [(rd eX 3 2 dY),(rd sgA d.cr.ag.length 2 (d.cr.ag.map aK.cells)),(bV g1 45 (bk.cells (bk.mk d.Out d.eH d.Time (mD d.cr sgA sgC))))] (vI 1):=by
 have h:=wV d sgA sgC g1
 have e:oB d=1:=by simp [oB,hk]
 rw [e] at h
 exact h
theorem Ty (d:ax) (sgA:OA) (sgC g1:Nat) (hk:d.Out=false∧d.eH=false):
 dT Tryz.prog 84 [(vS eX 3 3),(Value.func (.func 85) [].toArray [(vP g1)].toArray)] [(rd eX 3 2 dY),(rd sgA d.cr.ag.length 2 (d.cr.ag.map aK.cells)),(bV g1 45 (bk.cells (bk.mk d.Out d.eH d.Time (mD d.cr sgA sgC))))] (vI 2):=by
 have h:=wV d sgA sgC g1
 have e:oB d=2:=by simp [oB,hk]
 rw [e] at h
 exact h
theorem Ct (l:a_) (kA:OA) (kC:Nat) (az:List RA) (cA:OA) (cC:Nat) (bA:OA) (bC:Nat) (d:ax) (sgA:OA) (sgC:Nat) (hin:er l az) (hsl:d.cr.ag.length≤1000000) (hk:d.Out=true):
 dT Tryz.prog 62 [(vA (ck.cells (lk l kA kC cA cC bA bC))),(vA (bk.cells (bk.mk d.Out d.eH d.Time (mD d.cr sgA sgC))))] [(rd eX 3 2 dY),(rd kA l.aP.length 9 (l.aP.map al.cells)),(rd cA l.ak.length 2 (List.zipWith ar.cells l.ak az)),(eW (aV ar.gZ l.ak az)),(rd bA l.ae.length 4 (l.ae.map bD.cells)),(rd sgA d.cr.ag.length 2 (d.cr.ag.map aK.cells))] (vT [(vA (aa.cells (dx l d))),(vB (decide (ig l d)))]):=by
 refine bx kr Tryz.func62 U U fun AA Q hQ hN=>?_
 try dsimp only
 refine WS fun _ A=>fK U fun G=>fK U fun D=>AL U de fun H=>bf 1 U<|RK A<|WS fun _ B=>rS (SX (EC U U yK) U U)<|rS (FU U)<|rS (CL (Se d sgA sgC D hk) (Nb 3 8 1 U U U U U U) U)<|bf 1 U<|RK B<|ah fun _ C=>dA cu 9 kr<|lJ 1 U<|dS (SX (Ed (k:=0) U U U yK U I) U U)<|dS (nR ((0*2)+1) U (aD 3 U) (Nat.mul_pos I dc) fu U)<|dS (fV 0 1 (Value.func (.func 197) [].toArray [].toArray) U bX (aD 3 U) (show dY[0]? =some [(Value.func (.func 196) [].toArray [].toArray),(Value.func (.func 197) [].toArray [].toArray)] from U) U dc U)<|mJ 2 [0,1] (mc 2 U (mc 1 U mn)) U<|dS (CL (MJ l kA kC az cA cC bA bC d sgA sgC hin) (bj [4,5,6,7,8]) U)<|lJ 2 U<|cL<|fP U cm U<|rP 1 [] mn ?_
 refine RK C<|an<|lh hQ [0] (mc 0 U mn) U ?_
 have E:=FW (l:=l) hk
 have F:=p_ (l:=l) hk
 simp only [E,F]
theorem Bb (l:a_) (kA:OA) (kC:Nat) (az:List RA) (cA:OA) (cC:Nat) (bA:OA) (bC:Nat) (d:ax) (sgA:OA) (sgC:Nat) (hin:er l az) (hsl:d.cr.ag.length≤1000000) (hk:d.Out=false∧d.eH=true):
 dT Tryz.prog 62 [(vA (ck.cells (lk l kA kC cA cC bA bC))),(vA (bk.cells (bk.mk d.Out d.eH d.Time (mD d.cr sgA sgC))))] [(rd eX 3 2 dY),(rd kA l.aP.length 9 (l.aP.map al.cells)),(rd cA l.ak.length 2 (List.zipWith ar.cells l.ak az)),(eW (aV ar.gZ l.ak az)),(rd bA l.ae.length 4 (l.ae.map bD.cells)),(rd sgA d.cr.ag.length 2 (d.cr.ag.map aK.cells))] (vT [(vA (aa.cells (dx l d))),(vB (decide (ig l d)))]):=by
 refine bx kr Tryz.func62 U U fun AA Q hQ hN=>?_
 try dsimp only
 refine WS fun _ A=>fK U fun G=>fK U fun D=>AL U de fun H=>bf 1 U<|RK A<|WS fun _ B=>rS (SX (EC U U yK) U U)<|rS (FU U)<|rS (CL (TA d sgA sgC D hk) (Nb 3 8 1 U U U U U U) U)<|bf 1 U<|RK B<|ah fun _ C=>dA cu 9 kr<|lJ 1 U<|dS (SX (Ed (k:=1) U U U yK U I) U U)<|dS (nR ((1*2)+1) U (aD 3 U) (Nat.mul_pos I dc) fu U)<|dS (fV 1 1 (Value.func (.func 200) [].toArray [].toArray) U bX (aD 3 U) (show dY[1]? =some [(Value.func (.func 199) [].toArray [].toArray),(Value.func (.func 200) [].toArray [].toArray)] from U) U dc U)<|mJ 2 [0,1] (mc 2 U (mc 1 U mn)) U<|dS (CL (NL l kA kC az cA cC bA bC d sgA sgC hin) (bj [4,5,6,7,8]) U)<|lJ 2 U<|cL<|fP U cm U<|rP 1 [] mn ?_
 refine RK C<|an<|lh hQ [0] (mc 0 U mn) U ?_
 have E:=Af (l:=l) hk
 have F:=tY (l:=l) hk
 simp only [E,F]
theorem CM (l:a_) (kA:OA) (kC:Nat) (az:List RA) (cA:OA) (cC:Nat) (bA:OA) (bC:Nat) (d:ax) (sgA:OA) (sgC:Nat) (hin:er l az) (hsl:d.cr.ag.length≤1000000) (hk:d.Out=false∧d.eH=false):
 dT Tryz.prog 62 [(vA (ck.cells (lk l kA kC cA cC bA bC))),(vA (bk.cells (bk.mk d.Out d.eH d.Time (mD d.cr sgA sgC))))] [(rd eX 3 2 dY),(rd kA l.aP.length 9 (l.aP.map al.cells)),(rd cA l.ak.length 2 (List.zipWith ar.cells l.ak az)),(eW (aV ar.gZ l.ak az)),(rd bA l.ae.length 4 (l.ae.map bD.cells)),(rd sgA d.cr.ag.length 2 (d.cr.ag.map aK.cells))] (vT [(vA (aa.cells (dx l d))),(vB (decide (ig l d)))]):=by
 refine bx kr Tryz.func62 U U fun AA Q hQ hN=>?_
 try dsimp only
 refine WS fun _ A=>fK U fun G=>fK U fun D=>AL U de fun H=>bf 1 U<|RK A<|WS fun _ B=>rS (SX (EC U U yK) U U)<|rS (FU U)<|rS (CL (Ty d sgA sgC D hk) (Nb 3 8 1 U U U U U U) U)<|bf 1 U<|RK B<|ah fun _ C=>dA cu 9 kr<|lJ 1 U<|dS (SX (Ed (k:=2) U U U yK U I) U U)<|dS (nR ((2*2)+1) U (aD 3 U) (Nat.mul_pos I dc) fu U)<|dS (fV 2 1 (Value.func (.func 202) [].toArray [].toArray) U bX (aD 3 U) (show dY[2]? =some [(Value.func (.func 201) [].toArray [].toArray),(Value.func (.func 202) [].toArray [].toArray)] from U) U dc U)<|mJ 2 [0,1] (mc 2 U (mc 1 U mn)) U<|dS (CL (N0 l kA kC az cA cC bA bC d sgA sgC hin hsl) (bj [4,5,6,7,8]) U)<|lJ 2 U<|cL<|fP U cm U<|rP 1 [] mn ?_
 refine RK C<|an<|lh hQ [0] (mc 0 U mn) U ?_
 have E:=vW (l:=l) hk
 have F:=sO (l:=l) hk
 simp only [E,F]
theorem Ex (l:a_) (kA:OA) (kC:Nat) (az:List RA) (cA:OA) (cC:Nat) (bA:OA) (bC:Nat) (d:ax) (sgA:OA) (sgC:Nat) (hin:er l az) (hsl:d.cr.ag.length≤1000000):
 dT Tryz.prog 62 [(vA (ck.cells (lk l kA kC cA cC bA bC))),(vA (bk.cells (bk.mk d.Out d.eH d.Time (mD d.cr sgA sgC))))] [(rd eX 3 2 dY),(rd kA l.aP.length 9 (l.aP.map al.cells)),(rd cA l.ak.length 2 (List.zipWith ar.cells l.ak az)),(eW (aV ar.gZ l.ak az)),(rd bA l.ae.length 4 (l.ae.map bD.cells)),(rd sgA d.cr.ag.length 2 (d.cr.ag.map aK.cells))] (vT [(vA (aa.cells (dx l d))),(vB (decide (ig l d)))]):=by
 by_cases ho:d.Out=true
 ·exact Ct l kA kC az cA cC bA bC d sgA sgC hin hsl ho
 by_cases hf:d.eH=true
 ·exact Bb l kA kC az cA cC bA bC d sgA sgC hin hsl ⟨by simpa using ho,hf⟩
 ·exact CM l kA kC az cA cC bA bC d sgA sgC hin hsl ⟨by simpa using ho,by simpa using hf⟩
end
section
open Go.RowKit
theorem KE (r:bT) (kA:OA) (kC:Nat) (az:List RA) (cA:OA) (cC:Nat) (bA:OA) (bC:Nat) (slA:OA) (slC:Nat) (drA:OA) (drC:Nat) (ha:List cO) (heA:OA) (heC:Nat) (tz:List RA) (tA:OA) (tC:Nat) (ms:Value) (gw h:Nat) (gm g1 g2:Nat) (hin:e9 r az ha) (htz:tz.length=r.ay.length) (hh:h<r.ay.length) (hok:j6 r (h+1)):
 Dr Tryz.prog 72 [(vI (h:Int)),(vP g1),(vP g2)] [(rd kA r.ao.aP.length 9 (r.ao.aP.map al.cells)),(rd cA r.ao.ak.length 2 (List.zipWith ar.cells r.ao.ak az)),(eW (aV ar.gZ r.ao.ak az)),(rd bA r.ao.ae.length 4 (r.ao.ae.map bD.cells)),(rd slA r.aQ.length 1 (r.aQ.map iC)),(rd drA r.bQ.length 1 (r.bQ.map iC)),(rd heA r.ay.length 1 (List.zipWith cP r.ay ha)),(eW (aV iq r.ay ha)),(rd tA ((cN r).length) 1 (List.zipWith E1 (cN r) tz)),(eW (aV Mu (cN r) tz)),(bV gw 91 (fH.cells (fH.mk (oF r kA kC cA cC bA bC slA slC drA drC heA heC) (br.mk tA ((cN r).length) tC) ms))),(bV g1 81 [(vP gw)]),(bV g2 64 [(Value.map (some gm))])] (gV iV gm (bK dv (dZ r.ao r.ay r.aQ.length h 0))) (fun (x:Unit)=>(vT [])) (fun (x:Unit)=>True) (fun (x:Unit)=>(gV iV gm (bK dv (dZ r.ao r.ay r.aQ.length (h+1) 0)))):=by
 have v:=hin.line
 have AI:=hin.iM
 have AJ:=hin.has
 have AC:=hin.iL
 have AA:=hin.draw
 have AD:=dB (r:=r)
 refine mF kr Tryz.func72 U U fun w0 Q hQ hN=>?_
 try dsimp only
 refine WS fun _ g=>fw 1 [] (mr 12 U mn) U<|rS (SX (bI U U) U U)<|rP 3 [] (mr 11 U mn) ?_
 obtain ⟨ht,B⟩:=aJ r.ay h I
 obtain ⟨A,C⟩:=aJ ha h I
 have Z:(List.zipWith cP r.ay ha)[h]? =some (cP ht A):=dy B C
 have s:=hin.o1 _ _ _ B C
 have AB:=s.ov
 have N:=hok h ht I B
 obtain ⟨tr,G⟩:=aJ (cN r) h I
 obtain ⟨tra,F⟩:=aJ tz h I
 have c:(List.zipWith E1 (cN r) tz)[h]? =some (E1 tr tra):=dy G F
 refine rS (IA h U (aD 9 U) Oc dc I I)<|rS (fV h 0 (vS tra.1 tr.length tra.2) U bX (aD 9 U) c U dc U) ?_
 have AM:=zz B G
 have AF:tr.length=r.aQ.length:=by rw [AM,List.length_map]; exact N.1
 have AE:=N.1
 refine rP 2 [] mn ?_
 refine RK g<|av ?_
 have E:(0≤r.aQ.length):=by exact Nat.zero_le _
 refine bH (ι:={z:Nat // (z≤r.aQ.length)}) [0,1,2,14,15] [1,2,3,4,5,6,7,8,9,10,11,12,13] U U (fun z=>[(16,(vI (z.1:Int)))]) (fun z=>[(gV iV gm (bK dv (dZ r.ao r.ay r.aQ.length h z.1)))]) (fun _=>rfl) (fun _=>rfl) (fun z=>r.aQ.length-z.1) ⟨0,E⟩ (aT U) (aH [1,2,3,4,5,6,7,8,9,10,11,12,13,0]) ?_
 clear E
 rintro ⟨i,u⟩ J2 K
 try dsimp only
 have a:i<r.aQ.length→(dZ r.ao r.ay r.aQ.length h i).lookup (i:Int)=fJ r.ao r.ay i h:=Iv
 refine WS fun _ k=>rP 1 [] mn ?_
 refine RK k<|ah fun _ m=>bL U (aM fun h5=>?_) (aL fun h5=>?_)
 ·refine bu<|ab<|ab<|au ?_
  rw [show (dZ r.ao r.ay r.aQ.length h i)=(dZ r.ao r.ay r.aQ.length (h+1) 0) from by rw [show i=r.aQ.length by omega]; exact OB]
  refine LM hN () 13 [] mn U U U U ?_
  trivial
 refine WK m<|ah fun _ L=>av<|WS fun _ n=>rP 1 [] mn ?_
 obtain ⟨x,hx⟩:=aJ tr i I
 have y:=bG aa.cells hx
 refine rS (IA i U (show ij _ (rd tra.1 tr.length 2 (tr.map aa.cells)).holds from (du 9 U (bM G F (by simp [Mu])))) jN dc I I)<|rS (oH i 0 (aa.cells x) U bX (show ij _ (rd tra.1 tr.length 2 (tr.map aa.cells)).holds from (du 9 U (bM G F (by simp [Mu])))) y U dc U U)<|AL U de fun b8=>bf 1 U<|fP U cm U<|RK n<|WS fun _ o=>fw 2 [] (mr 13 U mn) U<|rS (SX (jT (kV:=iV) (x:=(i:Int)) (l:=(dZ r.ao r.ay r.aQ.length h i)) (f:=dv) (z:=(aa.mk 0 0)) U U U l7 (dC oG) vC (by exact aD 14 U)) U U)<|bf 3 U<|AL U de fun AG=>fP U cm U<|bf 1 U<|RK o<|ah fun _ P=>WS fun _ H=>fw 1 [] (mr 13 U mn) U<|rS (SX (bI U U) U U)<|fw 4 [] (mr 12 U mn) U<|rS (IA h U (aD 8 U) ry dc I I)<|rS (fV h 0 (vS A.1.1 ht.length A.1.2) U bX (aD 8 U) Z U dc U)<|rP 1 [] mn ?_
 obtain ⟨d,hd⟩:=aJ ht i I
 obtain ⟨da,p⟩:=aJ A.2 i I
 have q:(List.zipWith ax.cells ht A.2)[i]? =some (ax.cells d da):=dy hd p
 refine rS (IA i U (show ij _ (rd A.1.1 ht.length 7 (List.zipWith ax.cells ht A.2)).holds from (du 9 U (bM B C cb))) xD dc I I)<|rS (nR (i*7) U (show ij _ (rd A.1.1 ht.length 7 (List.zipWith ax.cells ht A.2)).holds from (du 9 U (bM B C cb))) (Nat.mul_pos I dc) fu U)<|rS (fV i 0 (vB d.Out) U bX (show ij _ (rd A.1.1 ht.length 7 (List.zipWith ax.cells ht A.2)).holds from (du 9 U (bM B C cb))) q U dc U)<|rP 1 [] mn ?_
 refine cR (t:=39) U (fun J=>?_) (fun J=>?_)
 ·refine bf 3 U<|RK H<|aO U<|WS fun _ R=>rP 2 [] (mr 14 U mn) ?_
  have T:(cp (dZ r.ao r.ay r.aQ.length h i) (i:Int))=(dZ r.ao r.ay r.aQ.length h (i+1)):=by exact FD (by exact Hm B hd J)
  refine o_ (kV:=iV) (x:=(i:Int)) (C':=[_,_,_,_,_,_,_,_,_,_,_,_,_,_,_,(gV iV gm (bK dv (dZ r.ao r.ay r.aQ.length h (i+1))))]) 15 U U U U l7 (dC oG) U ((lQ _ _ _).symm.trans (congrArg _ T)) U<|RK R<|bu<|ab<|au<|KK L<|aj<|rP 2 [] mn ?_
  refine aC ?_
  have AH:(vI (((i+1):Nat):Int))=(vI ((i:Int)+1)):=by exact cI I
  refine aS (K ⟨(i+1),(by first|omega|(simp only []; omega))⟩ _ _ _ U os (ct 5<|aX U AH<|dh.nil _) (aH [2,3,4,5,6,7,8,9,10,11,12,13,14,15]))
 refine rP 3 [] mn ?_
 refine RK H<|cy U (fun D=>?_) (fun D=>?_)
 ·rw [Bool.not_eq_true'] at D
  refine WS fun _ S=>rP 2 [] (mr 14 U mn) ?_
  have V:(cp (dZ r.ao r.ay r.aQ.length h i) (i:Int))=(dZ r.ao r.ay r.aQ.length h (i+1)):=by exact FD (by exact D0 ((a I).symm.trans (Option.not_isSome_iff_eq_none.1 (by rw [D]; decide))))
  refine o_ (kV:=iV) (x:=(i:Int)) (C':=[_,_,_,_,_,_,_,_,_,_,_,_,_,_,_,(gV iV gm (bK dv (dZ r.ao r.ay r.aQ.length h (i+1))))]) 15 U U U U l7 (dC oG) U ((lQ _ _ _).symm.trans (congrArg _ V)) U<|RK S<|bu<|ab<|au<|KK L<|aj<|rP 2 [] mn ?_
  refine aC ?_
  have W:(vI (((i+1):Nat):Int))=(vI ((i:Int)+1)):=by exact cI I
  refine aS (K ⟨(i+1),(by first|omega|(simp only []; omega))⟩ _ _ _ U os (ct 5<|aX U W<|dh.nil _) (aH [2,3,4,5,6,7,8,9,10,11,12,13,14,15]))
 rw [Bool.not_eq_false'] at D
 refine WK P<|aj ?_
 obtain ⟨O,b⟩:=Option.isSome_iff_exists.1 D
 have M:fJ r.ao r.ay i h=some O:=(a I).symm.trans b
 have e:=JT AM hx hd
 have AK:=Ai (fun j x hj hx=>hok j x I hx) I M
 have w:=FB (N.2 d (aR hd))
 rw [← e] at w
 rw [show ((List.lookup (i:Int) (dZ r.ao r.ay r.aQ.length h i)).getD (aa.mk 0 0))=O from by rw [b]; rfl]
 refine fw 6 [0,1,2] (mr 14 U (mc 0 U (mc 1 U mn))) U<|rS (BI U (sL I I I))<|fw 5 [0,1] (mc 0 U (mc 1 U mn)) U<|rS (BI U (sL I I I))<|rP 1 [] mn ?_
 refine rS (SX (bh (xs:=[(0,.tmp 52),(1,.tmp 58)]) (cs:=(aa.cells (aa.mk (O.Lo+(x.Lo/10)) (O.Hi+(x.Hi/10))))) U U (bg gf U)) U U) ?_
 have X:(dL (dZ r.ao r.ay r.aQ.length h i) (i:Int) (aa.mk (O.Lo+(x.Lo/10)) (O.Hi+(x.Hi/10))))=(dZ r.ao r.ay r.aQ.length h (i+1)):=by exact N6 I (by rw [M]; rfl) (by rw [e]; exact D8 B hd (by rw [J]; decide) M)
 refine g_ (kV:=iV) (x:=(i:Int)) (C':=[_,_,_,_,_,_,_,_,_,_,_,_,_,_,_,(gV iV gm (bK dv (dZ r.ao r.ay r.aQ.length h (i+1))))]) 15 U U U U l7 (dC oG) U ((fM _ _ _ _).symm.trans (congrArg _ X)) U<|aC<|aG<|KK L<|aj<|rP 2 [] mn ?_
 refine aC ?_
 have Y:(vI (((i+1):Nat):Int))=(vI ((i:Int)+1)):=by exact cI I
 refine aS (K ⟨(i+1),(by first|omega|(simp only []; omega))⟩ _ _ _ U os (ct 5<|aX U Y<|dh.nil _) (aH [2,3,4,5,6,7,8,9,10,11,12,13,14,15]))
theorem OU (r:bT) (kA:OA) (kC:Nat) (az:List RA) (cA:OA) (cC:Nat) (bA:OA) (bC:Nat) (slA:OA) (slC:Nat) (drA:OA) (drC:Nat) (ha:List cO) (heA:OA) (heC:Nat) (tz:List RA) (tA:OA) (tC:Nat) (ms:Value) (gw n:Nat) (hin:e9 r az ha) (htz:tz.length=r.ay.length) (hn:n≤r.ay.length) (hok:j6 r n):
 lq Tryz.prog 46 [(vP gw),(vI (n:Int))] [(rd kA r.ao.aP.length 9 (r.ao.aP.map al.cells)),(rd cA r.ao.ak.length 2 (List.zipWith ar.cells r.ao.ak az)),(eW (aV ar.gZ r.ao.ak az)),(rd bA r.ao.ae.length 4 (r.ao.ae.map bD.cells)),(rd slA r.aQ.length 1 (r.aQ.map iC)),(rd drA r.bQ.length 1 (r.bQ.map iC)),(rd heA r.ay.length 1 (List.zipWith cP r.ay ha)),(eW (aV iq r.ay ha)),(rd tA ((cN r).length) 1 (List.zipWith E1 (cN r) tz)),(eW (aV Mu (cN r) tz)),(bV gw 91 (fH.cells (fH.mk (oF r kA kC cA cC bA bC slA slC drA drC heA heC) (br.mk tA ((cN r).length) tC) ms)))] (fun (x:Nat)=>(Value.map (some x))) (fun (x:Nat)=>True) (fun (x:Nat)=>[(gV iV x (bK dv (eB r n)))]):=by
 have c:=hin.line
 have m:=hin.iM
 have o:=hin.has
 have e:=hin.iL
 have d:=hin.draw
 have f:=dB (r:=r)
 refine dj kr Tryz.func46 U U fun q Q hQ hN=>?_
 try dsimp only
 refine WS fun _ V=>uI U U fun k=>rP 1 [] mn ?_
 refine RK V<|WS fun _ W=>mz (kV:=iV) U U fun B=>?_
 try dsimp only
 refine AL U Tg fun l=>H8 U M1 U U<|RK W<|ah fun _ X=>WS fun _ Y=>fw 1 [] (mc 2 U mn) U<|rS (SX (bI U U) U U)<|rP 5 [] (mr 13 U mn) ?_
 refine RK Y<|av ?_
 skip
 have A:(0≤r.aQ.length):=by exact Nat.zero_le _
 refine bH (ι:={z:Nat // (z≤r.aQ.length)}) [1,2,5,15] [0,2,3,4,5,6,7,8,9,10,11,12,13] U U (fun z=>[(16,(vI (z.1:Int)))]) (fun z=>[(gV iV B (bK dv (dZ r.ao r.ay z.1 0 0)))]) (fun _=>rfl) (fun _=>rfl) (fun z=>r.aQ.length-z.1) ⟨0,A⟩ (aT U) (aH [0,2,3,4,5,6,7,8,9,10,11,12,13,1]) ?_
 clear A
 rintro ⟨i,a⟩ J8 AA
 try dsimp only
 refine WS fun _ Z=>rP 1 [] mn ?_
 refine RK Z<|ah fun _ D=>cy U (aL fun S=>?_) (aM fun S=>?_)
 ·refine WK D<|ah fun _ E=>av<|WS fun _ F=>bf 2 U<|RK F<|aj<|rP 2 [] (mc 0 U mn) ?_
  refine rS (SX (bh (xs:=[]) (cs:=(aa.cells (aa.mk 0 0))) U U (bg gf U)) U U) ?_
  have O:(dL (dZ r.ao r.ay i 0 0) (i:Int) (aa.mk 0 0))=(dZ r.ao r.ay (i+1) 0 0):=by exact N_
  refine g_ (kV:=iV) (x:=(i:Int)) (C':=[_,_,_,_,_,_,_,_,_,_,_,_,_,(gV iV B (bK dv (dZ r.ao r.ay (i+1) 0 0)))]) 13 U U U U l7 (dC oG) U ((fM _ _ _ _).symm.trans (congrArg _ O)) U<|aC<|aG<|KK E<|aj<|rP 2 [] mn ?_
  refine aC ?_
  have P:(vI (((i+1):Nat):Int))=(vI ((i:Int)+1)):=by exact cI I
  refine aS (AA ⟨(i+1),(by first|omega|(simp only []; omega))⟩ _ _ _ U os (ct 4<|aX U P<|dh.nil _) (aH [0,1,2,3,4,5,6,7,8,9,10,11,12,13]))
 refine bu<|ab<|ab<|au<|KK X<|WS fun _ G=>rS (FU U)<|bf 1 U<|RK G<|ah fun _ H=>WS fun _ AB=>rP 2 [] mn ?_
 refine RK AB<|av ?_
 rw [show (dZ r.ao r.ay i 0 0)=(dZ r.ao r.ay r.aQ.length 0 0) from by rw [show i=r.aQ.length by omega]]
 have A:(0≤n):=by exact Nat.zero_le _
 refine bH (ι:={z:Nat // (z≤n)}) [2,5,7,24] [0,1,2,3,4,5,6,7,8,9,10,11,12] U U (fun z=>[(25,(vI (z.1:Int)))]) (fun z=>[(gV iV B (bK dv (dZ r.ao r.ay r.aQ.length z.1 0)))]) (fun _=>rfl) (fun _=>rfl) (fun z=>n-z.1) ⟨0,A⟩ (aT U) (aH [0,1,2,3,4,5,6,7,8,9,10,11,12,13]) ?_
 clear A
 rintro ⟨h,b⟩ J19 C
 try dsimp only
 refine WS fun _ J=>rP 1 [] mn ?_
 refine RK J<|ah fun _ K=>bL U (aM fun T=>?_) (aL fun T=>?_)
 ·refine bu<|ab<|ab<|au<|KK H<|ah fun _ N=>?_
  rw [show (dZ r.ao r.ay r.aQ.length h 0)=(eB r n) from by rw [show h=n by omega]; exact MB]
  refine aj<|rP 2 [] (mc 0 U mn) ?_
  refine RK N<|an<|LX hQ B [13] [] mn U U U U ?_
  trivial
 refine WK K<|ah fun _ L=>av<|WS fun _ M=>bf 2 U<|RK M<|aj<|rP 2 [] mn ?_
 refine iO 13 U U U U (KE r kA kC az cA cC bA bC slA slC drA drC ha heA heC tz tA tC ms gw h B k l hin htz I (by exact fun j x hj hx=>hok j x I hx)) U (dR 2 U U (dD (bO _)) (dR 3 U U (dD (bO _)) (dR 4 U U (dD (bO _)) (dR 5 U U (dD (bO _)) (dR 6 U U (dD (bO _)) (dR 7 U U (dD (bO _)) (dR 8 U U (dD (bO _)) (dR 9 U U (dD (bO _)) (dR 10 U U (dD (bO _)) (dR 11 U U (dD (bO _)) (dR 12 U U (dD (bO _)) (dR 1 U U (bO _) (dR 0 U U (bO _) kd))))))))))))) U (fun p g=>?_)
 try dsimp only
 refine aC<|aG<|KK L<|aj<|rP 2 [] mn ?_
 refine aC ?_
 have R:(vI (((h+1):Nat):Int))=(vI ((h:Int)+1)):=by exact cI I
 refine aS (C ⟨(h+1),(by first|omega|(simp only []; omega))⟩ _ _ _ U os (ct 4<|aX U R<|dh.nil _) (aH [0,1,2,3,4,5,6,7,8,9,10,11,12,13]))
end
section
open Go.RowKit
theorem n9 (r:bT) (kA:OA) (kC:Nat) (az:List RA) (cA:OA) (cC:Nat) (bA:OA) (bC:Nat) (slA:OA) (slC:Nat) (drA:OA) (drC:Nat) (ha:List cO) (heA:OA) (heC:Nat) (hin:e9 r az ha):
 lq Tryz.prog 36 [(vA (cw.cells (oF r kA kC cA cC bA bC slA slC drA drC heA heC)))] [(rd eX 3 2 dY),(rd kA r.ao.aP.length 9 (r.ao.aP.map al.cells)),(rd cA r.ao.ak.length 2 (List.zipWith ar.cells r.ao.ak az)),(eW (aV ar.gZ r.ao.ak az)),(rd bA r.ao.ae.length 4 (r.ao.ae.map bD.cells)),(rd slA r.aQ.length 1 (r.aQ.map iC)),(rd drA r.bQ.length 1 (r.bQ.map iC)),(rd heA r.ay.length 1 (List.zipWith cP r.ay ha)),(eW (aV iq r.ay ha))] (fun (x:Bool×Int×Nat×Nat×(OA)×Nat×(List RA))=>bif x.1 then (vT [(Value.pointer (some ⟨x.2.2.1,0,none⟩)),(vI 0)]) else (vT [(Value.pointer none),(vI x.2.1)])) (fun (x:Bool×Int×Nat×Nat×(OA)×Nat×(List RA))=>(x.1=true→(cK r=0∧x.2.2.2.2.2.2.length=r.ay.length))∧(x.1=false→(x.2.1=cK r∧ ¬ cK r=0))) (fun (x:Bool×Int×Nat×Nat×(OA)×Nat×(List RA))=>bif x.1 then [(bV x.2.2.1 91 (fH.cells (fH.mk (oF r kA kC cA cC bA bC slA slC drA drC heA heC) (br.mk x.2.2.2.2.1 ((cN r).length) x.2.2.2.2.2.1) (Value.map (some x.2.2.2.1))))),(own x.2.2.2.2.1 x.2.2.2.2.2.1 82 1 (List.zipWith E1 (cN r) x.2.2.2.2.2.2)),(bw (aV Dq (cN r) x.2.2.2.2.2.2)),(gV iV x.2.2.2.1 (bK dv (aF r)))] else []):=by
 have BA:=hin.line
 have BV:=hin.iM
 have BW:=hin.has
 have BL:=hin.iL
 have BJ:=hin.draw
 have Ai:=dB (r:=r)
 refine dj kr Tryz.func36 U U fun w0 Q hQ hN=>?_
 try dsimp only
 refine WS fun _ A1=>fK U fun b2=>bf 2 U<|RK A1<|ah fun _ A2=>WS fun _ A3=>bf 1 U<|rS (LP (ck.cells (lk r.ao kA kC cA cC bA bC)) 0 U bX U U U)<|rS (CL (CP r.ao kA kC az cA cC bA bC asm) (bj [2,3,4,5]) U)<|bf 1 U<|RK A3<|WS fun _ A4=>rP 2 [] mn ?_
 refine RK A4<|cy U (bq fun B=>?_) (bp fun B=>?_)
 ·refine WS fun _ A5=>rP 3 [] mn ?_
  refine RK A5<|an<|LX hQ (false,(dq r.ao),0,0,none,0,[]) [] [] mn U (by rfl) U U ?_
  exact rr<|Me (zj B) B
 refine WK A2<|WS fun _ A6=>fw 4 [] (mc 0 U mn) U<|RK A6<|WS fun _ A7=>rP 2 [] (mc 0 U mn) ?_
 refine cX (w5 drA r.bQ.length drC) (aI) U fun Am BM=>?_
 try dsimp only
 refine cX (xo r.bQ drA drC Am asm) (bj [8,0]) U fun BI BN=>?_
 obtain ⟨BP,BU⟩:=BI
 try dsimp only
 refine bf 1 U<|RK A7<|ah fun _ e=>WS fun _ H=>rP 1 [] mn ?_
 refine cU (xs:=[.tmp 29]) (cs:=[(vI (r.aQ.length:Int))]) U cq jd U U U U (by simp [Value.cells]) U U fun An=>?_
 refine rS (CL (dT.eq (j2 1 5 ([(r.aQ.length:Int)]) (some ⟨An,0,none⟩) 1 (by (simp; done))) cS) (aw (aZ 0 U U (by simp [bB]) U)<|aI) U) ?_
 refine rP 2 [] mn ?_
 refine cR (t:=33) U (bq fun Ar=>?_) (bp fun Ar=>?_)
 ·refine bf 26 U<|RK H<|aO U<|WS fun _ f=>rP 2 [] mn ?_
  refine RK f<|an<|LX hQ (false,60,0,0,none,0,[]) [] [] mn U (by rfl) U U ?_
  exact rr<|pU (kj B (fun q:eP r=>by have q1:=q.num; have q2:=q.wj; have q3:=q.nh; have q4:=q.yh; omega))
 refine rP 6 [] mn ?_
 refine cR (t:=39) U (bq fun As=>?_) (bp fun As=>?_)
 ·refine bf 20 U<|RK H<|aO U<|WS fun _ g=>rP 2 [] mn ?_
  refine RK g<|an<|LX hQ (false,60,0,0,none,0,[]) [] [] mn U (by rfl) U U ?_
  exact rr<|pU (kj B (fun q:eP r=>by have q1:=q.num; have q2:=q.wj; have q3:=q.nh; have q4:=q.yh; omega))
 refine rP 2 [] (mc 3 U mn) ?_
 refine cU (xs:=[.tmp 41]) (cs:=[(vI r.iI)]) U cq jd U U U U (by simp [Value.cells]) U U fun Ao=>?_
 refine rS (CL (dT.eq (j2 0 5 ([r.iI]) (some ⟨Ao,0,none⟩) 1 (by (simp; done))) cS) (aw (aZ 0 U U (by simp [bB]) U)<|aI) U) ?_
 refine rP 3 [] mn ?_
 refine cR (t:=46) U (bq fun At=>?_) (bp fun At=>?_)
 ·refine bf 13 U<|RK H<|aO U<|WS fun _ k=>rP 2 [] mn ?_
  refine RK k<|an<|LX hQ (false,60,0,0,none,0,[]) [] [] mn U (by rfl) U U ?_
  exact rr<|pU (kj B (fun q:eP r=>by have q1:=q.num; have q2:=q.wj; have q3:=q.nh; have q4:=q.yh; omega))
 refine rP 3 [] (mc 4 U mn) ?_
 refine cU (xs:=[.tmp 49]) (cs:=[(vI (r.ay.length:Int))]) U cq jd U U U U (by simp [Value.cells]) U U fun Ap=>?_
 refine rS (CL (dT.eq (j2 1 3 ([(r.ay.length:Int)]) (some ⟨Ap,0,none⟩) 1 (by (simp; done))) cS) (aw (aZ 0 U U (by simp [bB]) U)<|aI) U) ?_
 refine rP 3 [] mn ?_
 refine cR (t:=54) U (bq fun Au=>?_) (bp fun Au=>?_)
 ·refine bf 5 U<|RK H<|aO U<|WS fun _ l=>rP 2 [] mn ?_
  refine RK l<|an<|LX hQ (false,60,0,0,none,0,[]) [] [] mn U (by rfl) U U ?_
  exact rr<|pU (kj B (fun q:eP r=>by have q1:=q.num; have q2:=q.wj; have q3:=q.nh; have q4:=q.yh; omega))
 refine fw 2 [] (mc 5 U mn) U<|rS (CL (j2 0 9999 r.aQ slA slC asm) (bj [11]) U)<|rP 2 [] mn ?_
 refine RK H<|cy U (fun N=>?_) (fun N=>?_)
 ·rw [Bool.not_eq_true'] at N
  refine WS fun _ m=>rP 2 [] mn ?_
  refine RK m<|an<|LX hQ (false,60,0,0,none,0,[]) [] [] mn U (by rfl) U U ?_
  exact rr<|pU (kj B (fun q:eP r=>by exact absurd (q.ins.symm.trans N) dc))
 rw [Bool.not_eq_false'] at N
 refine WK e<|ah fun _ o=>WS fun _ p=>?_
 have BX:(df r.bQ).length=r.aQ.length:=by rw [gh]; omega
 refine rP 2 [] mn ?_
 refine RK p<|av ?_
 have A:(0≤r.aQ.length)∧(q_ r 0):=by exact ⟨Nat.zero_le _,EE⟩
 refine bH (ι:={z:Nat // (z≤r.aQ.length)∧(q_ r z)}) [1,5,6,60] [3,5,6,7,8,9,10,11,12,13,14] U U (fun z=>[(61,(vI (z.1:Int)))]) (fun z=>[]) (fun _=>rfl) (fun _=>rfl) (fun z=>r.aQ.length-z.1) ⟨0,A⟩ (aT U) (aH [3,5,6,7,8,9,10,11,12,13,14]) ?_
 clear A
 rintro ⟨i,⟨A_,J⟩⟩ J28 V
 try dsimp only
 refine WS fun _ s=>rP 1 [] mn ?_
 refine RK s<|ah fun _ w=>cy U (aL fun Aw=>?_) (aM fun Aw=>?_)
 ·refine WK w<|ah fun _ W=>av<|WS fun _ AA=>bf 2 U<|RK AA<|ah fun _ O=>dA cu 24 kr<|dP 2 [] mn ?_
  obtain ⟨x,hx⟩:=aJ (df r.bQ) i I
  have BB:=bG iC hx
  refine dS (IA i U (ai (n:=r.bQ.length) 0 U sq) cq dc I I) ?_
  refine dS (fV i 0 (vI x) U bX (ai (n:=(df r.bQ).length) 0 U sm) BB U dc U)<|dP 3 [] mn ?_
  refine iY (t:=70) U (bq fun S=>?_) (bp fun S=>?_)
  ·refine lJ 17 U<|cL<|RK O<|aO U<|WS fun _ AB=>rP 2 [] mn ?_
   refine RK AB<|an<|LX hQ (false,60,0,0,none,0,[]) [] [] mn U (by rfl) U U ?_
   exact rr<|pU (kj B (fun q:eP r=>by exact absurd (q.drawn hx) S))
  refine dP 3 [] mn ?_
  refine jh (t:=73) U (aM fun Ax=>?_) (aL fun Ax=>?_)
  ·refine lJ 14 U<|cL<|RK O<|aW U<|bZ<|aG<|KK W<|aj<|rP 2 [] mn ?_
   refine aC ?_
   have Ac:(vI (((i+1):Nat):Int))=(vI ((i:Int)+1)):=by exact cI I
   refine aS (V ⟨(i+1),⟨I,wO J hx S (fun u v hu hv hw=>by omega)⟩⟩ _ _ _ U os (ct 4<|aX U Ac<|dh.nil _) (aH [0,1,2,3,4,5,6,7,8,9,10]))
  refine dP 3 [] (mc 1 U mn) ?_
  obtain ⟨y,hy⟩:=aJ r.aQ i I
  have BC:=bG iC hy
  refine dS (IA i U (aD 7 U) cq dc I I)<|dS (fV i 0 (vI y) U bX (aD 7 U) BC U dc U)<|dP 4 [] (mc 1 U mn) ?_
  obtain ⟨z,hz⟩:=aJ r.aQ (i-1) I
  have BD:=bG iC hz
  refine dS (IA (i-1) U (aD 7 U) cq dc I I)<|dS (fV (i-1) 0 (vI z) U bX (aD 7 U) BD U dc U)<|dP 3 [] mn ?_
  refine cL<|RK O<|bL U (aM fun Az=>?_) (aL fun Az=>?_)
  ·refine bZ<|aG<|KK W<|aj<|rP 2 [] mn ?_
   refine aC ?_
   have Ab:(vI (((i+1):Nat):Int))=(vI ((i:Int)+1)):=by exact cI I
   refine aS (V ⟨(i+1),⟨I,wO J hx S (fun u v hu hv hw=>by (rw [hy] at hu; cases hu; rw [hz] at hw; cases hw; omega))⟩⟩ _ _ _ rfl os (ct 4<|aX rfl Ab<|dh.nil _) (aH [0,1,2,3,4,5,6,7,8,9,10]))
  refine WS fun _ AC=>rP 2 [] mn ?_
  refine RK AC<|an<|LX hQ (false,60,0,0,none,0,[]) [] [] mn U (by rfl) U U ?_
  exact rr<|pU (kj B (fun q:eP r=>by have q1:=(q.ids i y hy).2 z I hz; omega))
 refine bu<|ab<|ab<|au<|KK o<|WS fun _ AD=>fw 1 [] (mc 1 U mn) U<|rS (SX (bh (xs:=[(0,.tmp 89)]) (cs:=(fH.cells (fH.mk (oF r kA kC cA cC bA bC slA slC drA drC heA heC) (br.mk none 0 0) (Value.map none)))) U U (bg UN U)) U U)<|fK U fun L=>bf 1 U<|RK AD<|ah fun _ AE=>WS fun _ AF=>rP 4 [] (mc 2 U mn) ?_
 refine RK AF<|av<|fT 82 1<|oz ?_
 have A:(0≤r.ay.length)∧(([]:List RA).length=0)∧(j6 r 0):=by exact ⟨Nat.zero_le _,rfl,xA⟩
 refine bH (ι:={z:Nat×(List RA)×(OA)×Nat // (z.1≤r.ay.length)∧(z.2.1.length=z.1)∧(j6 r z.1)}) [1,5,8,93,94] [3,4,5,6,7,8,9,10,11,12,13] U U (fun z=>[(95,(vI (z.1.1:Int)))]) (fun z=>[(bw (aV Dq (gu r z.1.1) z.1.2.1)),(own z.1.2.2.1 z.1.2.2.2 82 1 (List.map sC (List.zipWith B6 (gu r z.1.1) z.1.2.1))),(bV L 91 (fH.cells (fH.mk (oF r kA kC cA cC bA bC slA slC drA drC heA heC) (br.mk z.1.2.2.1 ((List.zipWith B6 (gu r z.1.1) z.1.2.1).length) z.1.2.2.2) (Value.map none))))]) (fun _=>rfl) (fun _=>rfl) (fun z=>r.ay.length-z.1.1) ⟨(0,([]:List RA),none,0),A⟩ (aT U) (aH [3,4,5,6,7,8,9,10,11,12,13,0,1,2]) ?_
 clear A
 rintro ⟨⟨h,tz,a,c⟩,⟨T,C,E⟩⟩ J42 Z
 try dsimp only at T C E
 try dsimp only
 refine WS fun _ AG=>rP 1 [] mn ?_
 refine RK AG<|ah fun _ AH=>bL U (aM fun A0=>?_) (aL fun A0=>?_)
 ·refine bu<|ab<|ab<|au<|KK AE<|ah fun _ AZ=>?_
  have A9:gu r h=cN r:=by unfold cN; rw [show h=r.ay.length by omega]
  have Aj:tz.length=r.ay.length:=by omega
  rw [A9,zI,show (List.zipWith B6 (cN r) tz).length=(cN r).length from by rw [List.length_zipWith]; omega]
  have X:eP r:=Mb (n:=i) I I I I I N J E I
  refine aj<|rP 5 [] (mc 1 U mn) ?_
  refine cX (OU r kA kC az cA cC bA bC slA slC drA drC ha heA heC tz a c (Value.map none) L r.ay.length hin asm I (by exact X.Ay)) (lL [3,4,5,6,7,8,9,10]<|aw (ai (n:=(cN r).length) 12 U (mO (by rw [Ai]; exact Aj)))<|aw (cM 11 U tH)<|fz 13 U U<|aI) U fun K BO=>?_
  try dsimp only
  refine rS (SX (bI U U) U U)<|rP 1 [] mn ?_
  refine jl (vs:=[(Value.map (some K))]) (cs':=(fH.cells (fH.mk (oF r kA kC cA cC bA bC slA slC drA drC heA heC) (br.mk a ((cN r).length) c) (Value.map (some K))))) (C':=[_,_,_,_,_,_,_,_,_,_,_,_,_,_,(bV L 91 (fH.cells (fH.mk (oF r kA kC cA cC bA bC slA slC drA drC heA heC) (br.mk a ((cN r).length) c) (Value.map (some K)))))]) 14 U U U M1 U U U U U U U<|RK AZ<|ah fun _ Aa=>?_
  rw [show eB r r.ay.length=aF r from rfl]
  refine aj<|rP 3 [] mn ?_
  refine RK Aa<|an ?_
  refine LX hQ (true,0,L,K,a,c,tz) [14,13,12,0] [] mn U (by (show List.all _ _=true; simp only [cond_true,fB,List.all_nil,wi,Bool.and_true]; rfl)) U U ?_
  exact ⟨fun _=>⟨BF B X,Aj⟩,ND⟩
 refine WK AH<|ah fun _ AI=>av<|WS fun _ AJ=>?_
 obtain ⟨ht,D⟩:=aJ r.ay h I
 obtain ⟨G,BE⟩:=aJ ha h I
 have Ah:(List.zipWith cP r.ay ha)[h]? =some (cP ht G):=dy D BE
 refine rS (IA h U (aD 9 U) ry dc I I)<|rS (fV h 0 (vS G.1.1 ht.length G.1.2) U bX (aD 9 U) Ah U dc U)<|rP 1 [] mn ?_
 refine RK AJ<|ah fun _ AK=>WS fun _ AM=>?_
 have Ag:=hin.o1 _ _ _ D BE
 have BK:=Ag.ov
 refine rP 4 [] mn ?_
 refine RK AM<|cy U (bq fun Y=>?_) (bp fun Y=>?_)
 ·refine WS fun _ AN=>rP 2 [] mn ?_
  refine RK AN<|an<|LX hQ (false,60,0,0,none,0,[]) [] [] mn U (by rfl) U U ?_
  exact rr<|pU (kj B (fun q:eP r=>by have q1:=(q.o1 ht (aR D)).1; omega))
 refine WK AK<|WS fun _ AO=>bf 1 U<|RK AO<|ah fun _ AP=>WS fun _ AQ=>rP 3 [] mn ?_
 refine RK AQ<|av<|fT 40 2 ?_
 have A:(0≤ht.length)∧(oj r.ao ht 0):=by exact ⟨Nat.zero_le _,vr⟩
 refine bH (ι:={z:Nat×(OA)×Nat // (z.1≤ht.length)∧(oj r.ao ht z.1)}) [1,5,8,10,93,94,95,103,104] [1,2,3,4,5,6,7,8,9,10,11,12,13,14] U U (fun z=>[(11,(vS z.1.2.1 (((ht.take z.1.1).map (dx r.ao)).length) z.1.2.2)),(105,(vI (z.1.1:Int)))]) (fun z=>[(own z.1.2.1 z.1.2.2 40 2 (((ht.take z.1.1).map (dx r.ao)).map aa.cells))]) (fun _=>rfl) (fun _=>rfl) (fun z=>ht.length-z.1.1) ⟨(0,none,0),A⟩ (aT U) (aH [1,2,3,4,5,6,7,8,9,10,11,12,13,14,0]) ?_
 clear A
 rintro ⟨⟨j,la,lc⟩,⟨Ak,F⟩⟩ J53 b
 try dsimp only at Ak F
 try dsimp only
 refine WS fun _ AR=>rP 1 [] mn ?_
 refine RK AR<|ah fun _ AS=>bL U (aM fun Av=>?_) (aL fun Av=>?_)
 ·refine bu<|ab<|ab<|au<|KK AP<|aj<|bf 2 U<|rS (SX (bI U U) U U)<|rP 2 [] (mc 13 U mn) ?_
  rw [show ((ht.take j).map (dx r.ao))=ht.map (dx r.ao) from by rw [List.take_of_length_le I]]
  refine rP 1 [] mn ?_
  refine cU (xs:=[.tmp 128]) (cs:=[(vS la ((ht.map (dx r.ao)).length) lc)]) U Oc Sr U U U U (by simp [Value.cells]) U U fun BT=>?_
  refine db (es2:=(List.map sC (List.zipWith B6 (gu r (h+1)) (tz++[(la,lc)])))) (m':=(List.zipWith B6 (gu r (h+1)) (tz++[(la,lc)])).length) 13 U U U Tt U U sm (aZ (es:=List.map sC [(br.mk la ((ht.map (dx r.ao)).length) lc)]) 0 U U (by simp [yA]) U) (JL _) (by rw [List.length_zipWith,kJ I]; omega) (by rw [List.length_zipWith,kJ I]; simp only [maxLen]; omega) (by rw [tq D C,List.map_append]; rfl) (by rw [tq D C]; simp) U fun P R=>?_
  try dsimp only
  refine rS (SX (bI U U) U U)<|bf 1 U<|jl (vs:=[(vS P ((List.zipWith B6 (gu r (h+1)) (tz++[(la,lc)])).length) R)]) (cs':=(fH.cells (fH.mk (oF r kA kC cA cC bA bC slA slC drA drC heA heC) (br.mk P ((List.zipWith B6 (gu r (h+1)) (tz++[(la,lc)])).length) R) (Value.map none)))) (C':=[_,_,_,_,_,_,_,_,_,_,_,_,_,_,(bV L 91 (fH.cells (fH.mk (oF r kA kC cA cC bA bC slA slC drA drC heA heC) (br.mk P ((List.zipWith B6 (gu r (h+1)) (tz++[(la,lc)])).length) R) (Value.map none)))),_]) 14 U U U TX U U U U U U U<|aC<|aG<|KK AI<|aj<|rP 2 [] mn ?_
  refine aC<|BY (X':=aV Dq (gu r (h+1)) (tz++[(la,lc)])) 12 15 U U (Cl (a:=(la,lc)) D C) ?_
  have Ae:(vI (((h+1):Nat):Int))=(vI ((h:Int)+1)):=by exact cI I
  refine aS (Z ⟨((h+1),(tz++[(la,lc)]),P,R),⟨I,by simp; omega,wx E D (FC I F I)⟩⟩ _ _ _ U os (ct 5<|aX U Ae<|dh.nil _) (aH [2,3,4,5,6,7,8,9,10,11,12,0,13,14]))
 refine WK AS<|ah fun _ AT=>av<|WS fun _ AU=>?_
 obtain ⟨d,hd⟩:=aJ ht j I
 obtain ⟨da,Af⟩:=aJ G.2 j I
 have A8:(List.zipWith ax.cells ht G.2)[j]? =some (ax.cells d da):=dy hd Af
 refine rS (IA j U (show ij _ (rd G.1.1 ht.length 7 (List.zipWith ax.cells ht G.2)).holds from (du 10 U (bM D BE cb))) xD dc I I)<|rS (oH j 0 (bk.cells (bk.mk d.Out d.eH d.Time (eC.mk d.cr.Start d.cr.fZ (br.mk da.1 d.cr.ag.length da.2)))) U bX (show ij _ (rd G.1.1 ht.length 7 (List.zipWith ax.cells ht G.2)).holds from (du 10 U (bM D BE cb))) A8 U dc U U)<|AL U Nn fun BQ=>fP U PE U<|RK AU<|WS fun _ AV=>bf 1 U<|rS (LP (ck.cells (lk r.ao kA kC cA cC bA bC)) 2 U bX U U U)<|rP 1 [] (mc 0 U mn) ?_
 have BZ:=Ag.sig d (aR hd)
 refine rS (CL (Ex r.ao kA kC az cA cC bA bC d da.1 da.2 asm asm) (lL [3,4,5,6,7]<|aw (show ij _ (rd da.1 d.cr.ag.length 2 (d.cr.ag.map aK.cells)).holds from (du 11 U (bM D BE (cQ _ (bM hd Af (by simp [ax.gZ]))))))<|aI) U)<|bf 3 U<|AL U de fun BR=>fP U cm U<|bf 1 U<|RK AV<|ah fun _ AW=>WS fun _ AX=>rP 2 [] mn ?_
 refine RK AX<|bL U (bp fun M=>?_) (bq fun M=>?_)
 ·refine WK AW<|aj<|rP 2 [] (mc 0 U mn) ?_
  refine cU (xs:=[.tmp 119]) (cs:=(aa.cells (dx r.ao d))) U jN de U U U U (by simp [Value.cells,aa.aU]) U U fun BS=>?_
  refine db (es2:=(List.map aa.cells ((ht.take (j+1)).map (dx r.ao)))) (m':=((ht.take (j+1)).map (dx r.ao)).length) 17 U U U DM U U sm (aZ (es:=List.map aa.cells [(dx r.ao d)]) 0 U U (by simp [aa.aU]) U) (gS _) (by simp only [List.length_map,List.length_take]; omega) (by simp only [maxLen,List.length_map,List.length_take]; omega) (by rw [List.take_add_one,hd]; simp) sq U fun Al Aq=>?_
  try dsimp only
  refine bf 1 U<|aC<|aG<|KK AT<|aj<|rP 2 [] mn ?_
  refine aC ?_
  have Ad:(vI (((j+1):Nat):Int))=(vI ((j:Int)+1)):=by exact cI I
  refine aS (b ⟨((j+1),Al,Aq),⟨I,vq F hd M⟩⟩ _ _ _ U os (ct 10<|aX U Ad<|dh.nil _) (aH [3,4,5,6,7,8,9,10,11,12,13,14,15,16,17]))
 refine WS fun _ AY=>rP 2 [] mn ?_
 refine RK AY<|an<|LX hQ (false,60,0,0,none,0,[]) [] [] mn U (by rfl) U U ?_
 exact rr<|pU (kj B (fun q:eP r=>by exact M ((q.o1 ht (aR D)).2 d (aR hd))))
end
section
open Go.RowKit
theorem DB (l:List Int) (lA:OA) (lC:Nat) (hlen:l.length=1):
 Dr Tryz.prog 59 [(vS lA 1 lC)] [] (own lA lC 3 1 (l.map iC)) (fun (x:Unit)=>(vS lA 1 lC)) (fun (x:Unit)=>True) (fun (x:Unit)=>(own lA lC 3 1 (l.map iC))):=by
 refine mF kr Tryz.func59 U U fun E Q hQ hN=>?_
 try dsimp only
 refine WS fun _ A=>bf 1 U<|RK A<|ah fun _ D=>WS fun _ B=>bf 2 U<|rS (SX (bU (r:= .bool true) U U U gQ) U U)<|RK B<|aO U<|WS fun _ C=>rP 2 [] mn ?_
 refine RK C<|an<|LM hQ () 0 [] mn U U U U ?_
 trivial
theorem DU (l:List Int) (lA:OA) (lC:Nat) (hlen:l.length=2):
 Dr Tryz.prog 59 [(vS lA 2 lC)] [] (own lA lC 3 1 (l.map iC)) (fun (x:(List Int))=>(vS lA (Ka l) lC)) (fun (x:(List Int))=>True) (fun (x:(List Int))=>(own lA lC 3 1 (x.map iC))):=by
 refine mF kr Tryz.func59 U U fun c Q hQ hN=>?_
 try dsimp only
 refine WS fun _ M=>bf 1 U<|RK M<|ah fun _ N=>WS fun _ O=>bf 2 U<|rS (SX (bU (r:= .bool false) U U U gQ) U U)<|RK O<|aW U<|WK N<|ah fun _ P=>WS fun _ R=>bf 1 U<|RK R<|av<|jQ 3<|ed fun R6 V=>ah fun _ S=>WS fun _ T=>bf 3 U<|rS (SX (bU (r:= .bool true) U U U gQ) U U)<|RK T<|aO U<|WK S<|ah fun _ AA=>av<|ah fun _ B=>dA cu 10 kr<|dP 2 [] mn ?_
 obtain ⟨x,hx⟩:=aJ l 1 I
 have W:=bG iC hx
 refine dS (IA 1 U (ai (n:=2) 0 U sq) cq dc U I) ?_
 refine dS (fV 1 0 (vI x) U bX (ai (n:=l.length) 0 U sm) W U dc U)<|dP 2 [] mn ?_
 refine dS (SX (bU (r:= .int .i64 0) U U U (rM ⟨dc,dc⟩)) U U) ?_
 obtain ⟨y,hy⟩:=aJ l 0 I
 have X:=bG iC hy
 refine dS (IA 0 U (ai (n:=2) 0 U sq) cq dc U I) ?_
 refine dS (fV 0 0 (vI y) U bX (ai (n:=l.length) 0 U sm) X U dc U)<|dP 1 [] mn ?_
 refine cL<|RK B<|bL U (aM fun A=>?_) (aL fun A=>?_)
 ·refine bZ<|aG<|KK AA<|aj<|bf 1 U<|rS (SX (bU (r:= .int .i64 2) U U U (ib ⟨dc,dc⟩)) U U)<|bf 1 U<|RK V<|ed fun R19 b=>ah fun _ Z=>WS fun _ AB=>bf 3 U<|rS (SX (bU (r:= .bool false) U U U gQ) U U)<|RK AB<|aW U<|bu<|ab<|ab<|au<|KK P<|WS fun _ J=>rP 2 [] mn ?_
  refine RK J<|an ?_
  refine LM hQ l 0 [] mn U U U ?_ ?_
  ·(rw [Cm hlen hy hx A,hlen]; rfl)
  ·trivial
 refine WS fun _ C=>rP 2 [] mn ?_
 refine rS (Vq 1 U cq U os) ?_
 refine bf 1 U<|RK C<|ah fun _ D=>WS fun _ E=>bf 1 U<|RK E<|av<|jQ 2<|ed fun R14 a=>ah fun _ Y=>WS fun _ F=>rP 4 [] mn ?_
 refine RK F<|cy U (aL fun L=>?_) (aM fun L=>?_)
 ·exfalso; omega
 refine bu<|ab<|ab<|au<|KK D<|WS fun _ G=>rP 2 [] mn ?_
 refine rS (Vq 1 U cq U os) ?_
 refine NP (k:=1) 0 rfl rfl pX (by intro v hv; simp [Value.cells] at hv; subst hv; rfl) rfl os I ?_
 try dsimp only
 rw [show (own lA lC 3 1 ((l.map iC).take 1))=(own lA lC 3 1 ((l.take 1).map iC)) from by rw [List.map_take]]
 refine RK G<|WS fun _ H=>LD 0 U fun K=>?_
 simp only [List.length_map,List.length_take] at K
 refine bf 2 U<|rS (UL 1 U cq U I)<|rP 1 [] mn ?_
 refine RK H<|an ?_
 refine LM hQ (l.take 1) 0 [] mn U U U ?_ ?_
 ·(rw [zA hlen hy hx A]; rfl)
 ·trivial
end
section
open Go.RowKit
theorem yM (r:bT) (kA:OA) (kC:Nat) (az:List RA) (cA:OA) (cC:Nat) (bA:OA) (bC:Nat) (slA:OA) (slC:Nat) (drA:OA) (drC:Nat) (ha:List cO) (heA:OA) (heC:Nat) (a:Int) (gq:Nat) (hin:e9 r az ha):
 lq Tryz.prog 35 [(vA (cw.cells (oF r kA kC cA cC bA bC slA slC drA drC heA heC))),(vS (some ⟨gq,0,none⟩) 1 1)] [(rd eX 3 2 dY),(rd kA r.ao.aP.length 9 (r.ao.aP.map al.cells)),(rd cA r.ao.ak.length 2 (List.zipWith ar.cells r.ao.ak az)),(eW (aV ar.gZ r.ao.ak az)),(rd bA r.ao.ae.length 4 (r.ao.ae.map bD.cells)),(rd slA r.aQ.length 1 (r.aQ.map iC)),(rd drA r.bQ.length 1 (r.bQ.map iC)),(rd heA r.ay.length 1 (List.zipWith cP r.ay ha)),(eW (aV iq r.ay ha)),(bV gq 3 [(vI a)])] (fun (x:Bool×Int×Nat×Nat×(OA)×Nat×(List RA)×(OA)×Nat)=>bif x.1 then (vT [(Value.pointer (some ⟨x.2.2.1,0,none⟩)),(vS x.2.2.2.2.2.2.2.1 1 x.2.2.2.2.2.2.2.2),(vI 0)]) else (vT [(Value.pointer none),(vS none 0 0),(vI x.2.1)])) (fun (x:Bool×Int×Nat×Nat×(OA)×Nat×(List RA)×(OA)×Nat)=>(x.1=true→(jI r a=0∧x.2.2.2.2.2.2.1.length=r.ay.length))∧(x.1=false→(x.2.1=jI r a∧ ¬ jI r a=0))) (fun (x:Bool×Int×Nat×Nat×(OA)×Nat×(List RA)×(OA)×Nat)=>bif x.1 then [(bV x.2.2.1 91 (fH.cells (fH.mk (oF r kA kC cA cC bA bC slA slC drA drC heA heC) (br.mk x.2.2.2.2.1 ((cN r).length) x.2.2.2.2.2.1) (Value.map (some x.2.2.2.1))))),(own x.2.2.2.2.1 x.2.2.2.2.2.1 82 1 (List.zipWith E1 (cN r) x.2.2.2.2.2.2.1)),(bw (aV Dq (cN r) x.2.2.2.2.2.2.1)),(gV iV x.2.2.2.1 (bK dv (aF r))),(own x.2.2.2.2.2.2.2.1 x.2.2.2.2.2.2.2.2 40 2 ([(aA (aF r) a)].map aa.cells))] else []):=by
 have y:=hin.line
 have AN:=hin.iM
 have AO:=hin.has
 have AF:=hin.iL
 have AE:=hin.draw
 have g:=dB (r:=r)
 refine dj kr Tryz.func35 U U fun w0 Q hQ hN=>?_
 try dsimp only
 refine WS fun _ w=>fK U fun b2=>bf 3 U<|RK w<|WS fun _ N=>rP 1 [] (mc 0 U mn) ?_
 refine cX (n9 r kA kC az cA cC bA bC slA slC drA drC ha heA heC hin) (bj [1,2,3,4,5,6,7,8,9]) U fun y4 j=>?_
 obtain ⟨k,AM,F,E,m,B,C⟩:=y4
 cases k
 ·obtain ⟨e,he⟩:=j.2 rfl
  try dsimp only at e he
  subst e
  try dsimp only [cond_true,cond_false,List.cons_append,List.nil_append]
  refine bf 5 U<|RK N<|ah fun _ AB=>WS fun _ H=>rP 2 [] mn ?_
  refine RK H<|bL U (bp fun G=>?_) (bq fun G=>?_)
  ·exact absurd G he
  refine WS fun _ AR=>rP 4 [] mn ?_
  refine RK AR<|an<|LX hQ (false,(cK r),0,0,none,0,[],none,0) [] [] mn U (by rfl) U U ?_
  exact rr<|Me (LU (i:=a) he) he
 obtain ⟨he,h⟩:=j.1 rfl
 try dsimp only [cond_true,cond_false,List.cons_append,List.nil_append]
 refine bf 5 U<|RK N<|ah fun _ J=>WS fun _ K=>bf 1 U<|rS (SX (bU (r:= .bool false) U U U l6) U U)<|RK K<|aW U<|WK J<|ah fun _ L=>WS fun _ A=>rP 2 [] mn ?_
 refine rS (CL (dT.eq (AV r kA kC az cA cC bA bC slA slC drA drC ha heA heC C m B (Value.map (some E)) F ([a]) (some ⟨gq,0,none⟩) 1 hin (by (simp; done))) cS) (lL [6,7,8,9,10,11,12,13]<|aw (ai (n:=(cN r).length) 1 U (mO (by rw [g]; exact h)))<|aw (cM 2 U tH)<|fz 0 U U<|aw (n_ 14 U U (by simp [bB]) U)<|aI) U) ?_
 refine rP 2 [] mn ?_
 refine cR (t:=26) U (bq fun v=>?_) (bp fun v=>?_)
 ·refine bf 3 U<|bf 4 U<|bf 2 U<|RK A<|aO U<|WS fun _ M=>rP 3 [] mn ?_
  refine RK M<|an<|LX hQ (false,2,0,0,none,0,[],none,0) [] [] mn U (by rfl) U U ?_
  exact rr<|pU (Iq (i:=a) he I)
 refine rP 1 [] mn ?_
 refine cX (w5 (some ⟨gq,0,none⟩) 1 1) (aI) U fun q AG=>?_
 try dsimp only
 refine cX (xo ([a]) (some ⟨gq,0,none⟩) 1 q (by (simp; done))) (aw (n_ 15 U U (by simp [bB]) U)<|fz 0 U U<|aI) U fun AA AH=>?_
 obtain ⟨o,s⟩:=AA
 try dsimp only
 try dsimp only
 refine iO 0 U U U U (DB (df ([a])) o s (by (simp; done))) U kd U (fun AP AI=>?_)
 try dsimp only
 refine bf 3 U<|rS (SX (bU (r:= .bool false) U U U gQ) U U)<|bf 1 U<|RK A<|aW U<|WK L<|WS fun _ O=>bf 1 U<|RK O<|ah fun _ P=>WS fun _ R=>bf 3 U<|RK R<|av<|jQ 2<|ed fun R33 d=>WS fun _ S=>rS (SX (bU (r:= .bool true) U U U gQ) U U)<|RK S<|ah fun _ T=>aO U<|WK T<|ah fun _ AQ=>av<|WS fun _ V=>rS (TO 0 0 U cq U dc U)<|fw 2 [] (mr 16 U mn) U<|RK V<|WS fun _ W=>bf 1 U<|rS (SX (bI U U) U U)<|fw 3 [] (mc 2 U mn) U<|rS (SX (jT (kV:=iV) (x:=a) (l:=(aF r)) (f:=dv) (z:=(aa.mk 0 0)) U U U l7 (dC oG) vC (by exact aD 5 U)) U U)<|bf 3 U<|AL U de fun AJ=>fP U cm U<|rP 1 [] mn ?_
 refine RK W<|ah fun _ X=>WS fun _ Y=>?_
 rw [show ((List.lookup a (aF r)).getD (aa.mk 0 0))=(aA (aF r) a) from rfl]
 refine rP 2 [] mn ?_
 refine RK Y<|cy U (fun D=>?_) (fun D=>?_)
 ·rw [Bool.not_eq_true'] at D
  refine WS fun _ Z=>rP 3 [] mn ?_
  refine RK Z<|an<|LX hQ (false,6,0,0,none,0,[],none,0) [] [] mn U (by rfl) U U ?_
  exact rr<|pU (zC (i:=a) he I asm)
 rw [Bool.not_eq_false'] at D
 refine WK X<|aj<|rP 2 [] (mc 0 U mn) ?_
 refine cU (xs:=[.tmp 54]) (cs:=(aa.cells (aA (aF r) a))) U jN de U U U U (by simp [Value.cells,aa.aU]) U U fun AK=>dH 40 2<|db (es2:=(List.map aa.cells ([(aA (aF r) a)]))) (m':=([(aA (aF r) a)]).length) 0 U U U DM U U sm (aZ (es:=List.map aa.cells [(aA (aF r) a)]) 1 U U (by simp [aa.aU]) U) (gS _) sm (by simp [maxLen]) sm sm U fun p u=>?_
 try dsimp only
 refine bf 1 U<|aC<|aG<|KK AQ<|aj<|rS (SX (bU (r:= .int .i64 1) U U U (ib ⟨dc,dc⟩)) U U)<|bf 1 U<|RK d<|ed fun R46 AD=>WS fun _ b=>rS (SX (bU (r:= .bool false) U U U gQ) U U)<|RK b<|ah fun _ AC=>aW U<|bu<|ab<|ab<|au<|KK P<|WS fun _ c=>rP 5 [] mn ?_
 refine RK c<|an ?_
 refine LX hQ (true,0,F,E,m,B,C,p,u) [5,6,7,8,0] [] mn U (by (show List.all _ _=true; simp only [cond_true,fB,List.all_nil,wi,Bool.and_true]; rfl)) U U ?_
 exact ⟨fun _=>⟨FV he I asm,h⟩,ND⟩
end
section
open Go.RowKit
theorem yO (r:bT) (kA:OA) (kC:Nat) (az:List RA) (cA:OA) (cC:Nat) (bA:OA) (bC:Nat) (slA:OA) (slC:Nat) (drA:OA) (drC:Nat) (ha:List cO) (heA:OA) (heC:Nat) (a b:Int) (gq:Nat) (hin:e9 r az ha):
 lq Tryz.prog 35 [(vA (cw.cells (oF r kA kC cA cC bA bC slA slC drA drC heA heC))),(vS (some ⟨gq,0,none⟩) 2 2)] [(rd eX 3 2 dY),(rd kA r.ao.aP.length 9 (r.ao.aP.map al.cells)),(rd cA r.ao.ak.length 2 (List.zipWith ar.cells r.ao.ak az)),(eW (aV ar.gZ r.ao.ak az)),(rd bA r.ao.ae.length 4 (r.ao.ae.map bD.cells)),(rd slA r.aQ.length 1 (r.aQ.map iC)),(rd drA r.bQ.length 1 (r.bQ.map iC)),(rd heA r.ay.length 1 (List.zipWith cP r.ay ha)),(eW (aV iq r.ay ha)),(bV gq 3 [(vI a),(vI b)])] (fun (x:Bool×Int×Nat×Nat×(OA)×Nat×(List RA)×(OA)×Nat)=>bif x.1 then (vT [(Value.pointer (some ⟨x.2.2.1,0,none⟩)),(vS x.2.2.2.2.2.2.2.1 2 x.2.2.2.2.2.2.2.2),(vI 0)]) else (vT [(Value.pointer none),(vS none 0 0),(vI x.2.1)])) (fun (x:Bool×Int×Nat×Nat×(OA)×Nat×(List RA)×(OA)×Nat)=>(x.1=true→(mu r a b=0∧x.2.2.2.2.2.2.1.length=r.ay.length))∧(x.1=false→(x.2.1=mu r a b∧ ¬ mu r a b=0))) (fun (x:Bool×Int×Nat×Nat×(OA)×Nat×(List RA)×(OA)×Nat)=>bif x.1 then [(bV x.2.2.1 91 (fH.cells (fH.mk (oF r kA kC cA cC bA bC slA slC drA drC heA heC) (br.mk x.2.2.2.2.1 ((cN r).length) x.2.2.2.2.2.1) (Value.map (some x.2.2.2.1))))),(own x.2.2.2.2.1 x.2.2.2.2.2.1 82 1 (List.zipWith E1 (cN r) x.2.2.2.2.2.2.1)),(bw (aV Dq (cN r) x.2.2.2.2.2.2.1)),(gV iV x.2.2.2.1 (bK dv (aF r))),(own x.2.2.2.2.2.2.2.1 x.2.2.2.2.2.2.2.2 40 2 ([(aA (aF r) a),(aA (aF r) b)].map aa.cells))] else []):=by
 have AK:=hin.line
 have Ae:=hin.iM
 have Af:=hin.has
 have AR:=hin.iL
 have AQ:=hin.draw
 have v:=dB (r:=r)
 refine dj kr Tryz.func35 U U fun w0 Q hQ hN=>?_
 try dsimp only
 refine WS fun _ AJ=>fK U fun b2=>bf 3 U<|RK AJ<|WS fun _ N=>rP 1 [] (mc 0 U mn) ?_
 refine cX (n9 r kA kC az cA cC bA bC slA slC drA drC ha heA heC hin) (bj [1,2,3,4,5,6,7,8,9]) U fun y4 y=>?_
 obtain ⟨AA,Ac,F,E,AB,C,D⟩:=y4
 cases AA
 ·obtain ⟨u,he⟩:=y.2 rfl
  try dsimp only at u he
  subst u
  try dsimp only [cond_true,cond_false,List.cons_append,List.nil_append]
  refine bf 5 U<|RK N<|ah fun _ AN=>WS fun _ H=>rP 2 [] mn ?_
  refine RK H<|bL U (bp fun G=>?_) (bq fun G=>?_)
  ·exact absurd G he
  refine WS fun _ Ai=>rP 4 [] mn ?_
  refine RK Ai<|an<|LX hQ (false,(cK r),0,0,none,0,[],none,0) [] [] mn U (by rfl) U U ?_
  exact rr<|Me (Lf (a:=a) (b:=b) he) he
 obtain ⟨he,w⟩:=y.1 rfl
 try dsimp only [cond_true,cond_false,List.cons_append,List.nil_append]
 refine bf 5 U<|RK N<|ah fun _ J=>WS fun _ K=>bf 1 U<|rS (SX (bU (r:= .bool false) U U U l6) U U)<|RK K<|aW U<|WK J<|ah fun _ L=>WS fun _ B=>rP 2 [] mn ?_
 refine rS (CL (dT.eq (AV r kA kC az cA cC bA bC slA slC drA drC ha heA heC D AB C (Value.map (some E)) F ([a,b]) (some ⟨gq,0,none⟩) 2 hin (by (simp; done))) qR) (lL [6,7,8,9,10,11,12,13]<|aw (ai (n:=(cN r).length) 1 U (mO (by rw [v]; exact w)))<|aw (cM 2 U tH)<|fz 0 U U<|aw (n_ 14 U U (by simp [bB]) U)<|aI) U) ?_
 refine rP 2 [] mn ?_
 refine cR (t:=26) U (bq fun AH=>?_) (bp fun AH=>?_)
 ·refine bf 3 U<|bf 4 U<|bf 2 U<|RK B<|aO U<|WS fun _ M=>rP 3 [] mn ?_
  refine RK M<|an<|LX hQ (false,2,0,0,none,0,[],none,0) [] [] mn U (by rfl) U U ?_
  exact rr<|pU (By (a:=a) (b:=b) he I)
 refine rP 1 [] mn ?_
 refine cX (w5 (some ⟨gq,0,none⟩) 2 2) (aI) U fun AE AS=>?_
 try dsimp only
 refine cX (xo ([a,b]) (some ⟨gq,0,none⟩) 2 AE (by (simp; done))) (aw (n_ 15 U U (by simp [bB]) U)<|fz 0 U U<|aI) U fun AM AT=>?_
 obtain ⟨AC,AF⟩:=AM
 try dsimp only
 try dsimp only
 refine iO 0 U U U U (DU (df ([a,b])) AC AF (by (simp; done))) U kd U (fun Ag AU=>?_)
 try dsimp only
 refine rP 3 [] mn ?_
 have Ad:=Ll a b
 refine rP 2 [] mn ?_
 refine RK B<|cy U (aL fun AI=>?_) (aM fun AI=>?_)
 ·refine WS fun _ O=>rP 3 [] mn ?_
  refine RK O<|an<|LX hQ (false,2,0,0,none,0,[],none,0) [] [] mn U (by rfl) U U ?_
  exact rr<|pU (By (a:=a) (b:=b) he I)
 refine WK L<|WS fun _ P=>bf 1 U<|RK P<|ah fun _ R=>WS fun _ S=>bf 3 U<|RK S<|av<|jQ 3<|ed fun R35 q=>WS fun _ T=>rS (SX (bU (r:= .bool true) U U U gQ) U U)<|RK T<|ah fun _ Ah=>aO U<|WK Ah<|ah fun _ V=>av<|WS fun _ W=>rS (TO 0 0 U cq U dc U)<|fw 2 [] (mr 16 U mn) U<|RK W<|WS fun _ X=>bf 1 U<|rS (SX (bI U U) U U)<|fw 3 [] (mc 2 U mn) U<|rS (SX (jT (kV:=iV) (x:=a) (l:=(aF r)) (f:=dv) (z:=(aa.mk 0 0)) U U U l7 (dC oG) vC (by exact aD 5 U)) U U)<|bf 3 U<|AL U de fun AX=>fP U cm U<|rP 1 [] mn ?_
 refine RK X<|ah fun _ Y=>WS fun _ Z=>?_
 rw [show ((List.lookup a (aF r)).getD (aa.mk 0 0))=(aA (aF r) a) from rfl]
 refine rP 2 [] mn ?_
 refine RK Z<|cy U (fun A=>?_) (fun A=>?_)
 ·rw [Bool.not_eq_true'] at A
  refine WS fun _ c=>rP 3 [] mn ?_
  refine RK c<|an<|LX hQ (false,6,0,0,none,0,[],none,0) [] [] mn U (by rfl) U U ?_
  exact rr<|pU (zf (a:=a) (b:=b) he I (by exact .inl asm))
 rw [Bool.not_eq_false'] at A
 refine WK Y<|aj<|rP 2 [] (mc 0 U mn) ?_
 refine cU (xs:=[.tmp 54]) (cs:=(aa.cells (aA (aF r) a))) U jN de U U U U (by simp [Value.cells,aa.aU]) U U fun AY=>dH 40 2<|db (es2:=(List.map aa.cells ([(aA (aF r) a)]))) (m':=([(aA (aF r) a)]).length) 0 U U U DM U U sm (aZ (es:=List.map aa.cells [(aA (aF r) a)]) 1 U U (by simp [aa.aU]) U) (gS _) sm (by simp [maxLen]) sm sm U fun AW Ab=>?_
 try dsimp only
 refine bf 1 U<|aC<|aG<|KK V<|aj<|rS (SX (bU (r:= .int .i64 1) U U U (ib ⟨dc,dc⟩)) U U)<|bf 1 U<|RK q<|ed fun R48 s=>WS fun _ d=>rS (SX (bU (r:= .bool true) U U U gQ) U U)<|RK d<|ah fun _ e=>aO U<|WK e<|ah fun _ g=>av<|WS fun _ h=>rS (TO 1 1 U cq U dc U)<|fw 2 [] (mr 19 U mn) U<|RK h<|WS fun _ i=>bf 1 U<|rS (SX (bI U U) U U)<|fw 3 [] (mc 5 U mn) U<|rS (SX (jT (kV:=iV) (x:=b) (l:=(aF r)) (f:=dv) (z:=(aa.mk 0 0)) U U U l7 (dC oG) vC (by exact aD 8 U)) U U)<|bf 3 U<|AL U de fun AZ=>fP U cm U<|rP 1 [] mn ?_
 refine RK i<|ah fun _ j=>WS fun _ k=>?_
 rw [show ((List.lookup b (aF r)).getD (aa.mk 0 0))=(aA (aF r) b) from rfl]
 refine rP 2 [] mn ?_
 refine RK k<|cy U (fun A=>?_) (fun A=>?_)
 ·rw [Bool.not_eq_true'] at A
  refine WS fun _ m=>rP 3 [] mn ?_
  refine RK m<|an<|LX hQ (false,6,0,0,none,0,[],none,0) [] [] mn U (by rfl) U U ?_
  exact rr<|pU (zf (a:=a) (b:=b) he I (by exact .inr asm))
 rw [Bool.not_eq_false'] at A
 refine WK j<|aj<|rP 2 [] (mc 0 U mn) ?_
 refine cU (xs:=[.tmp 54]) (cs:=(aa.cells (aA (aF r) b))) U jN de U U U U (by simp [Value.cells,aa.aU]) U U fun Aa=>db (es2:=(List.map aa.cells ([(aA (aF r) a),(aA (aF r) b)]))) (m':=([(aA (aF r) a),(aA (aF r) b)]).length) 2 U U U DM U U sm (aZ (es:=List.map aa.cells [(aA (aF r) b)]) 0 U U (by simp [aa.aU]) U) (gS _) sm (by simp [maxLen]) sm sm U fun AD AG=>?_
 try dsimp only
 refine bf 1 U<|aC<|aG<|KK g<|aj<|rS (SX (bU (r:= .int .i64 2) U U U (ib ⟨dc,dc⟩)) U U)<|bf 1 U<|RK s<|ed fun R61 AP=>WS fun _ o=>rS (SX (bU (r:= .bool false) U U U gQ) U U)<|RK o<|ah fun _ AO=>aW U<|bu<|ab<|ab<|au<|KK R<|WS fun _ p=>rP 5 [] mn ?_
 refine RK p<|an ?_
 refine LX hQ (true,0,F,E,AB,C,D,AD,AG) [7,8,9,10,2] [] mn U (by (show List.all _ _=true; simp only [cond_true,fB,List.all_nil,wi,Bool.and_true]; rfl)) U U ?_
 exact ⟨fun _=>⟨Nt he I asm asm,w⟩,ND⟩
end
section
open Go.RowKit
theorem Ii (m:p8) (gm g1:Nat):
 E4 Tryz.prog 97 [] [(vP g1)] [(gV iV gm (bK vB m)),(bV g1 67 [(Value.map (some gm))])] ([]:List Int) (fun ys x ys'=> ∃ n zs,(ys++[n]++zs).Perm (m.map (·.1))∧x=[vI n]∧ys'=ys++[n]) (fun ys=>ys.Perm (m.map (·.1))):=by
 refine th kr Tryz.func97 U U fun l J Z A0 S Q hY M L hQ hN=>?_
 try dsimp only
 refine WS fun _ O=>rP 1 [] (mr 2 U mn) ?_
 refine jW (kV:=iV) (m:=bK vB m) 1 U U vJ U ⟨U,fun h=>h⟩ (by exact j4 1 U) U fun V=>?_
 try dsimp only
 refine RK O<|av ?_
 have G:(oy m m ([]:List Int))∧(∀ p∈m,p∈m)∧(J ([]:List Int) A0)∧(Fo A0 S A0):=by exact ⟨vl,fun p hp=>hp,M,L⟩
 refine bH (ι:={z:p8×(List Int)×aq // (oy m z.1 z.2.1)∧(∀ p∈z.1,p∈m)∧(J z.2.1 z.2.2)∧(Fo A0 S z.2.2)}) [0,1,5] [2,3] U U (fun z=>[]) (fun z=>[(yQ iV V gm (bK vB m) (bK vB z.1.1) none),z.1.2.2]) (fun _=>rfl) (fun _=>rfl) (fun z=>z.1.1.length) ⟨(m,([]:List Int),A0),G⟩ (dh.nil _) (aH [2,3,0,1]) ?_
 clear G
 rintro ⟨⟨left,ys,A⟩,⟨B,H,C,D⟩⟩ J3 N
 try dsimp only at B H C D
 try dsimp only
 refine WS fun _ AB=>ja (dC oG).inj (f:=Value.bool) 2 U U U U (fun T=>?_) (fun x y hm hn=>?_)
 ·refine rP 1 [] mn ?_
  refine RK AB<|ah fun _ AA=>aW U<|bu<|ab<|ab<|au ?_
  refine hN _ _ _ (gU (vs:=[]) trivial fun w hs=>Ke 3 U (by rw [T] at B; exact xR B) C D hs)
 try dsimp only
 refine bf 1 U<|RK AB<|ah fun _ P=>aO U<|WK P<|av<|WS fun _ R=>rS (SX (i_ 2 U U U) U U)<|bf 2 U<|RK R<|WS fun _ K=>rP 2 [] mn ?_
 refine km (k:=ys) (k':=(ys++[(x)])) 3 (by first|exact hsz|exact Nat.le_refl _) hY C D U U U (by exact ⟨x,_,oi hn hm B,U,U⟩) U U (fun B9 F E=>?_) (fun B9 F E=>?_)
 rotate_left 1
 ·refine rP 1 [] mn ?_
  refine RK K<|aO U<|an ?_
  refine hQ _ _ _ (gU (vs:=[]) trivial fun w hs=>rG 3 U F E hs)
 refine rP 1 [] mn ?_
 refine RK K<|aW U<|bZ<|aG<|gT 2 U fr U ?_
 refine aS (N ⟨((cp left x),(ys++[(x)]),B9),⟨oi hn hm B,fR H,F,E⟩⟩ _ _ _ U (eO hm) (aT U) (aH [0,1,2,3]))
theorem NN (gm:Nat):
 lq Tryz.prog 71 [(Value.map (some gm))] [] (fun (x:Nat)=>(Value.func (.func 97) [].toArray [(vP x)].toArray)) (fun (x:Nat)=>True) (fun (x:Nat)=>[(bV x 67 [(Value.map (some gm))])]):=by
 refine dj kr Tryz.func71 U U fun D Q hQ hN=>?_
 try dsimp only
 refine WS fun _ A=>uI U U fun C=>bf 1 U<|RK A<|WS fun _ B=>rS (FU U)<|rP 1 [] mn ?_
 refine RK B<|an<|LX hQ C [0] [] mn U U U U ?_
 trivial
end
section
open Go.RowKit
theorem H4 (m:p8) (gm g1:Nat) (hlen:m.length≤12):
 lq Tryz.prog 94 [(vS none 0 0),(Value.func (.func 97) [].toArray [(vP g1)].toArray)] [(gV iV gm (bK vB m)),(bV g1 67 [(Value.map (some gm))])] (fun (x:(List Int)×(OA)×Nat)=>(vS x.2.1 x.1.length x.2.2)) (fun (x:(List Int)×(OA)×Nat)=>x.1.Perm (m.map (·.1))) (fun (x:(List Int)×(OA)×Nat)=>[(own x.2.1 x.2.2 3 1 (x.1.map iC))]):=by
 refine dj kr Tryz.func94 U U fun X Q hQ hN=>?_
 try dsimp only
 refine WS fun _ AB=>uI U U fun N=>bf 1 U<|RK AB<|ah fun _ J=>WS fun _ K=>rP 1 [] mn ?_
 refine RK K<|av<|ku 1 U (by exact fun _ h=>h)<|ku 3 U (by exact fun _ h=>h)<|fT 3 1 ?_
 refine nG (L0:=[(2,(vP N))]) (F:=[(gV iV gm (bK vB m)).ro,(bV g1 67 [(Value.map (some gm))]).ro]) (fun k (y:(OA)×Nat)=>(∃ zs,(k++zs).Perm (m.map (·.1)))) (fun k y=>[(own y.1 y.2 3 1 (k.map iC)),(bV N 32 [(vS y.1 k.length y.2)]),(gV iV gm (bK vB m)).ro]) (fun _ (_:Unit)=>False) (fun _ _=>[]) [0,3,4] [2,1] (none,0) rfl rfl (Ii m gm g1) rfl rfl rfl (by exact ⟨_,List.Perm.refl _⟩) (by simp only [List.forall_mem_cons,List.not_mem_nil,false_imp_iff,implies_true,and_true]; exact ⟨⟨_,sm,(dD (bO _))⟩,⟨_,sm,(dD (bO _))⟩⟩) (by rintro k x AA ⟨n,zs,_,rfl,_⟩; rfl) rfl (aT rfl) ?_ ?_ (fun _ _ _ h=>h.elim) (fun _ _ h=>h.elim)
 rotate_left 1
 ·rintro V k ⟨a,c⟩ E A
  have B:=A
  try dsimp only at B
  try dsimp only
  refine aG<|KK J<|WS fun _ C=>rP 2 [] (mc 4 U mn) ?_
  refine RK C<|an<|hQ _ _ _ (ou 0 U U<|gU (vs:=[(vS a k.length c)]) ⟨U,trivial⟩ fun w hs=>Kn (k,a,c) [3] ?_ ?_ U U U hs)
  ·rfl
  ·first|exact E|exact hys
 rintro k x AA ⟨a,c⟩ l ra rb S Y K5 Qr6 T hx G L D O P
 obtain ⟨n,zs,hn,rfl,rfl⟩:=hx; have M:=hn.length_eq; simp only [List.length_append,List.length_map,List.length_singleton] at M
 have B:=G
 try dsimp only at B
 try dsimp only
 refine aj<|rP 1 [] mn ?_
 refine aC<|aS (L _ _ ?_)
 refine av<|aj<|rP 2 [] (mc 2 U mn) ?_
 refine cU (xs:=[.tmp 9]) (cs:=[(vI n)]) U cq jd U U U U (by simp [Value.cells]) U U fun W=>?_
 refine db (es2:=(List.map iC (k++[n]))) (m':=(k++[n]).length) 2 U U U pX U U sm (aZ (es:=List.map iC [n]) 0 U U (by simp [bB]) U) (kf _) os (by simp only [maxLen]; omega) sm sm U fun R H=>?_
 try dsimp only
 refine UK U AI U U<|aC<|aG ?_
 exact D (R,H) _ _ (by exact ⟨_,hn⟩) (aH [1,2,3,4])
end
section
open Go.RowKit
theorem El (m:p8) (gm g1:Nat) (hlen:m.length≤12):
 lq Tryz.prog 67 [(Value.func (.func 97) [].toArray [(vP g1)].toArray)] [(gV iV gm (bK vB m)),(bV g1 67 [(Value.map (some gm))])] (fun (x:(List Int)×(OA)×Nat)=>(vS x.2.1 x.1.length x.2.2)) (fun (x:(List Int)×(OA)×Nat)=>x.1.Perm (m.map (·.1))) (fun (x:(List Int)×(OA)×Nat)=>[(own x.2.1 x.2.2 3 1 (x.1.map iC))]):=by
 refine dj kr Tryz.func67 U U fun AA Q hQ hN=>?_
 try dsimp only
 refine WS fun _ A=>bf 1 U<|RK A<|WS fun _ B=>rP 1 [] mn ?_
 refine cX (H4 m gm g1 hlen) (bj [0,1]) U fun H C=>?_
 obtain ⟨E,F,G⟩:=H
 try dsimp only
 have D:=C
 refine rP 1 [] mn ?_
 refine RK B<|an<|LX hQ (E,F,G) [0] [] mn U U U U ?_
 first|exact hfin|exact D
theorem G8 (m:p8) (gm g1:Nat) (hlen:m.length≤12):
 lq Tryz.prog 41 [(Value.func (.func 97) [].toArray [(vP g1)].toArray)] [(gV iV gm (bK vB m)),(bV g1 67 [(Value.map (some gm))])] (fun (x:(OA)×Nat)=>(vS x.1 m.length x.2)) (fun (x:(OA)×Nat)=>True) (fun (x:(OA)×Nat)=>[(own x.1 x.2 3 1 ((df (m.map (·.1))).map iC))]):=by
 refine dj kr Tryz.func41 U U fun M Q hQ hN=>?_
 try dsimp only
 refine WS fun _ E=>bf 1 U<|RK E<|WS fun _ F=>rP 1 [] mn ?_
 refine cX (El m gm g1 hlen) (bj [0,1]) U fun L H=>?_
 obtain ⟨AA,J,K⟩:=L
 try dsimp only
 have D:=H
 refine bf 1 U<|RK F<|WS fun _ G=>rP 1 [] mn ?_
 have B:=D.length_eq
 simp only [List.length_map] at B
 refine iO 0 U U U U (As AA J K I) U kd U (fun ms C=>?_)
 try dsimp only
 refine RK G<|WS fun _ A=>?_
 obtain rfl:=qE (C.1.trans D) C.2
 skip
 refine rP 2 [] mn ?_
 refine RK A<|an ?_
 refine LX hQ (J,K) [0] [] mn U U U ?_ ?_
 ·first|rfl|(rw [B]; rfl)
 ·trivial
end
section
open Go.RowKit
theorem Io (m:p8) (gm:Nat):
 lq Tryz.prog 69 [(Value.map (some gm))] [(gV iV gm (bK vB m))] (fun (x:Nat)=>(Value.map (some x))) (fun (x:Nat)=>True) (fun (x:Nat)=>[(gV iV x (bK vB m))]):=by
 refine dj UR Tryz.func69 U U fun F Q hQ hN=>?_
 try dsimp only
 refine WS fun _ A=>bf 1 U<|RK A<|ah fun _ B=>WS fun _ C=>bf 1 U<|rS (SX (bU (r:= .bool false) U U U (Qh vJ)) U U)<|RK C<|aW U<|WK B<|WS fun _ D=>rP 1 [] mn ?_
 refine rS (SX (OC U U vJ) U U)<|IM (kV:=iV) (fn:=Tryz.f95) U U Tryz.func95 U U U kr (by exact j4 0 U) U fun E=>?_
 try dsimp only
 refine rS (SX (Sm U U vJ) U U)<|rP 1 [] mn ?_
 refine RK D<|an<|LX hQ E [0] [] mn U U U U ?_
 trivial
end
section
open Go.RowKit
theorem GS (r:bT) (kA:OA) (kC:Nat) (cA:OA) (cC:Nat) (bA:OA) (bC:Nat) (slA:OA) (slC:Nat) (drA:OA) (drC:Nat) (heA:OA) (heC:Nat) (tA:OA) (tN tC:Nat) (gs gw:Nat) (m:gX) (i:Int) (g1 g2:Nat) (hb: ∀ p∈m,0≤p.2.Lo∧p.2.Lo≤p.2.Hi∧p.2.Hi≤30000000):
 E4 Tryz.prog 96 [] [(vP g1),(vP g2)] [(bV gw 91 (fH.cells (fH.mk (oF r kA kC cA cC bA bC slA slC drA drC heA heC) (br.mk tA tN tC) (Value.map (some gs))))),(gV iV gs (bK dv m)),(bV g1 81 [(vP gw)]),(bV g2 3 [(vI i)])] ([]:List Int) (fun ys x ys'=> ∃ n,n∈(jA m i (aA m i))∧x=[vI n]∧ys'=ys++[n]) (fun ys=> ∀ n,n∈ys↔n∈(jA m i (aA m i))):=by
 have BF:=gK (i:=i) hb
 refine th kr Tryz.func96 U U fun l J Z A0 w0 Q hY An Am hQ hN=>?_
 try dsimp only
 refine ah fun _ Ao=>dG cu [6,7] [] [] [0,1,2,3,4] [] U U U U U<|eS U (TI 3 U bX U)<|eS U (SX (bI U U) U U)<|eS U (FA 12 U fu U)<|eS U (Ib (Value.map (some gs)) 1 U bX U U)<|eS U (TI 4 U bX U)<|eS U (SX (jU (kV:=iV) (x:=i) (l:=m) (f:=dv) (z:=(aa.mk 0 0)) U U U l7 (dC oG) vC (by exact j4 2 U)) U U)<|eV U<|bY U fun T2 Aq=>AL U de fun b3=>aC (Aq _ _ (aH [1,2,3,4,5]) ?_)
 refine bY U fun T4 Ar=>fP U cm U<|aC (Ar _ _ (aH [1,2,3,4,5]) ?_)
 refine fF U<|KK Ao<|ah fun _ Ap=>WS fun _ AR=>?_
 rw [show ((List.lookup i m).getD (aa.mk 0 0))=(aA m i) from rfl]
 refine rP 3 [] (mc 0 U mn) ?_
 refine km (k:=([]:List Int)) (k':=(([]:List Int)++[((aA m i).Lo)])) 1 (by first|exact hsz|exact Nat.le_refl _) hY An Am U U U (by exact ⟨_,cb ..,U,U⟩) U U (fun B7 u s=>?_) (fun B7 u s=>?_)
 rotate_left 1
 ·refine rP 1 [] mn ?_
  refine RK AR<|aO U<|an ?_
  refine hQ _ _ _ (gU (vs:=[]) trivial fun w hs=>rG 1 U u s hs)
 refine bf 1 U<|RK AR<|aW U<|WK Ap<|WS fun _ AA=>fw 1 [] (mr 4 U mn) U<|rS (SX (bI U U) U U)<|rP 2 [] (mr 2 U mn) ?_
 refine jW (kV:=iV) (m:=bK dv m) 3 U U l7 U ⟨U,fun h=>h⟩ (by exact j4 3 U) U fun At=>?_
 try dsimp only
 refine RK AA<|av ?_
 have j:(yR m i (aA m i) m (([]:List Int)++[((aA m i).Lo)]))∧(∀ p∈m,p∈m)∧(J (([]:List Int)++[((aA m i).Lo)]) B7)∧(Fo A0 w0 B7):=by exact ⟨L9,fun p hp=>hp,asm,asm⟩
 refine bH (ι:={z:gX×(List Int)×aq // (yR m i (aA m i) z.1 z.2.1)∧(∀ p∈z.1,p∈m)∧(J z.2.1 z.2.2)∧(Fo A0 w0 z.2.2)}) [0,1,2,4,24] [1,3,4,5,6] U U (fun z=>[]) (fun z=>[(yQ iV At gs (bK dv m) (bK dv z.1.1) none),z.1.2.2]) (fun _=>rfl) (fun _=>rfl) (fun z=>z.1.1.length) ⟨(m,(([]:List Int)++[((aA m i).Lo)]),B7),j⟩ (dh.nil _) (aH [1,3,4,5,6,0,2]) ?_
 clear j
 rintro ⟨⟨left,ys,A⟩,⟨D,B,E,F⟩⟩ J12 G
 try dsimp only at D B E F
 try dsimp only
 refine WS fun _ o=>ja (dC oG).inj (f:=dv) 5 U U U U (fun q=>?_) (fun x y hm hn=>?_)
 ·refine rP 1 [] mn ?_
  refine RK o<|ah fun _ Au=>aW U<|bu<|ab<|ab<|au ?_
  refine hN _ _ _ (gU (vs:=[]) trivial fun w hs=>Ke 6 U (by rw [q] at D; exact N8 D) E F hs)
 try dsimp only
 refine bf 1 U<|RK o<|ah fun _ AB=>aO U<|WK AB<|av<|WS fun _ AC=>rS (SX (i_ 5 U U U) U U)<|bf 2 U<|AL U de fun BE=>bf 1 U<|fP U cm U<|RK AC<|WS fun _ AD=>rP 1 [] mn ?_
 have As:=hb _ (B _ hm)
 dsimp only at As
 refine fw 5 [] (mc 0 U mn) U<|rS (SX (bh (xs:=[(0,.tmp 32),(1,.tmp 35)]) (cs:=[(vI (y.Lo+1)),(vI (y.Hi+1))]) U U (bg S4 U)) U U)<|bf 1 U<|RK AD<|av<|jQ 3<|ed fun R19 c=>WS fun _ AE=>rS (SX (bU (r:= .bool true) U U U gQ) U U)<|RK AE<|ah fun _ AF=>aO U<|WK AF<|ah fun _ X=>av<|WS fun _ AG=>rS (SX (rf (v:=(vI (y.Lo+1))) 0 U U U Gj bX U dc U) U U)<|bf 1 U<|RK AG<|WS fun _ M=>rP 4 [] (mr 5 U mn) ?_
 refine b_ (t:=43) U (bp fun q=>?_) (bq fun q=>?_)
 ·refine bf 14 U<|RK M<|aW U<|bZ<|aG<|KK X<|aj<|rS (SX (bU (r:= .int .i64 1) U U U (ib ⟨dc,dc⟩)) U U)<|bf 1 U<|RK c<|ed fun R73 g=>WS fun _ AV=>rS (SX (bU (r:= .bool true) U U U gQ) U U)<|RK AV<|ah fun _ AW=>aO U<|WK AW<|ah fun _ b=>av<|WS fun _ AX=>rS (SX (rf (v:=(vI (y.Hi+1))) 1 U U U Gj bX U dc U) U U)<|bf 1 U<|RK AX<|WS fun _ P=>rP 4 [] (mr 5 U mn) ?_
  refine b_ (t:=43) U (bp fun Ak=>?_) (bq fun Ak=>?_)
  ·refine bf 14 U<|RK P<|aW U<|bZ<|aG<|KK b<|aj<|rS (SX (bU (r:= .int .i64 2) U U U (ib ⟨dc,dc⟩)) U U)<|rP 1 [] mn ?_
   refine RK g<|ed fun R91 BC=>WS fun _ Aa=>rS (SX (bU (r:= .bool false) U U U gQ) U U)<|RK Aa<|ah fun _ A4=>aW U<|bu<|ab<|ab<|au<|aG<|gT 6 U fr U ?_
   refine aS (G ⟨((cp left x),ys,A),⟨kX hn hm B D (fun n C=>by first|exact C|(simp [C]; done)) (fun n C=>by exact .inl C) (fun L n C K=>by simp only [d_,List.not_mem_nil,or_false] at C; rcases C with rfl|rfl<;>first|(simp; done)|(exfalso; omega)),fR B,E,F⟩⟩ _ _ _ rfl (eO hm) (aT rfl) (aH [1,2,3,4,5,6,7]))
  refine fw 5 [] (mc 1 U mn) U<|cU (xs:=[.tmp 48]) (cs:=[(vI (y.Hi+1))]) U cq jd U U U U (by simp [Value.cells]) U U fun Ae=>rS (CL (dT.eq (j2 ((aA m i).Lo) ((aA m i).Hi) ([(y.Hi+1)]) (some ⟨Ae,0,none⟩) 1 I) cS) (aw (aZ 0 U U (by simp [bB]) U)<|aI) U)<|rP 2 [] mn ?_
  refine b_ (t:=52) U (aM fun Al=>?_) (aL fun Al=>?_)
  ·refine bf 5 U<|RK P<|aW U<|bZ<|aG<|KK b<|aj<|rS (SX (bU (r:= .int .i64 2) U U U (ib ⟨dc,dc⟩)) U U)<|rP 1 [] mn ?_
   refine RK g<|ed fun R88 BB=>WS fun _ AZ=>rS (SX (bU (r:= .bool false) U U U gQ) U U)<|RK AZ<|ah fun _ A3=>aW U<|bu<|ab<|ab<|au<|aG<|gT 7 U fr U ?_
   refine aS (G ⟨((cp left x),ys,A),⟨kX hn hm B D (fun n C=>by first|exact C|(simp [C]; done)) (fun n C=>by exact .inl C) (fun L n C K=>by simp only [d_,List.not_mem_nil,or_false] at C; rcases C with rfl|rfl<;>first|(simp; done)|(exfalso; omega)),fR B,E,F⟩⟩ _ _ _ rfl (eO hm) (aT rfl) (aH [2,3,4,5,6,7,8]))
  refine rP 2 [] mn ?_
  refine km (k:=ys) (k':=(ys++[((y.Hi+1))])) 8 (by first|exact hsz|exact Nat.le_refl _) hY E F U U U (by exact ⟨_,mS (B _ hm) dso (by first|exact .inl rfl|exact .inr U) I,U,U⟩) U U (fun B82 W T=>?_) (fun B82 W T=>?_)
  rotate_left 1
  ·refine rP 2 [] mn ?_
   refine RK P<|aO U<|an ?_
   refine hQ _ _ _ (gU (vs:=[]) trivial fun w hs=>rG 8 U W T hs)
  refine bf 2 U<|RK P<|aW U<|bZ<|aG<|KK b<|aj<|rS (SX (bU (r:= .int .i64 2) U U U (ib ⟨dc,dc⟩)) U U)<|rP 1 [] mn ?_
  refine RK g<|ed fun R85 BA=>WS fun _ AY=>rS (SX (bU (r:= .bool false) U U U gQ) U U)<|RK AY<|ah fun _ A2=>aW U<|bu<|ab<|ab<|au<|aG<|gT 7 U fr U ?_
  refine aS (G ⟨((cp left x),(ys++[((y.Hi+1))]),B82),⟨kX hn hm B D (fun n C=>by first|exact C|(simp [C]; done)) (fun n C=>by (simp only [kB,bS] at C; rcases C with C|rfl<;>first|exact .inl C|exact .inr (mS (B _ hm) dso sm I))) (fun L n C K=>by simp only [d_,List.not_mem_nil,or_false] at C; rcases C with rfl|rfl<;>first|(simp; done)|(exfalso; omega)),fR B,W,T⟩⟩ _ _ _ rfl (eO hm) (aT rfl) (aH [2,3,4,5,6,7,8]))
 refine rP 5 [] (mc 1 U mn) ?_
 refine cU (xs:=[.tmp 48]) (cs:=[(vI (y.Lo+1))]) U cq jd U U U U (by simp [Value.cells]) U U fun Ab=>?_
 refine rS (CL (dT.eq (j2 ((aA m i).Lo) ((aA m i).Hi) ([(y.Lo+1)]) (some ⟨Ab,0,none⟩) 1 (by (simp; done))) cS) (aw (aZ 0 U U (by simp [bB]) U)<|aI) U) ?_
 refine rP 2 [] mn ?_
 refine b_ (t:=52) U (aM fun Af=>?_) (aL fun Af=>?_)
 ·refine bf 5 U<|RK M<|aW U<|bZ<|aG<|KK X<|aj<|rS (SX (bU (r:= .int .i64 1) U U U (ib ⟨dc,dc⟩)) U U)<|bf 1 U<|RK c<|ed fun R52 e=>WS fun _ AO=>rS (SX (bU (r:= .bool true) U U U gQ) U U)<|RK AO<|ah fun _ AP=>aO U<|WK AP<|ah fun _ a=>av<|WS fun _ AQ=>rS (SX (rf (v:=(vI (y.Hi+1))) 1 U U U Gj bX U dc U) U U)<|bf 1 U<|RK AQ<|WS fun _ O=>rP 4 [] (mr 6 U mn) ?_
  refine b_ (t:=43) U (bp fun Ai=>?_) (bq fun Ai=>?_)
  ·refine bf 14 U<|RK O<|aW U<|bZ<|aG<|KK a<|aj<|rS (SX (bU (r:= .int .i64 2) U U U (ib ⟨dc,dc⟩)) U U)<|rP 1 [] mn ?_
   refine RK e<|ed fun R70 A_=>WS fun _ AU=>rS (SX (bU (r:= .bool false) U U U gQ) U U)<|RK AU<|ah fun _ A1=>aW U<|bu<|ab<|ab<|au<|aG<|gT 7 U fr U ?_
   refine aS (G ⟨((cp left x),ys,A),⟨kX hn hm B D (fun n C=>by first|exact C|(simp [C]; done)) (fun n C=>by exact .inl C) (fun L n C K=>by simp only [d_,List.not_mem_nil,or_false] at C; rcases C with rfl|rfl<;>first|(simp; done)|(exfalso; omega)),fR B,E,F⟩⟩ _ _ _ rfl (eO hm) (aT rfl) (aH [2,3,4,5,6,7,8]))
  refine rP 5 [] (mc 2 U mn) ?_
  refine cU (xs:=[.tmp 48]) (cs:=[(vI (y.Hi+1))]) U cq jd U U U U (by simp [Value.cells]) U U fun Ad=>?_
  refine rS (CL (dT.eq (j2 ((aA m i).Lo) ((aA m i).Hi) ([(y.Hi+1)]) (some ⟨Ad,0,none⟩) 1 (by (simp; done))) cS) (aw (aZ 0 U U (by simp [bB]) U)<|aI) U) ?_
  refine rP 2 [] mn ?_
  refine b_ (t:=52) U (aM fun Aj=>?_) (aL fun Aj=>?_)
  ·refine bf 5 U<|RK O<|aW U<|bZ<|aG<|KK a<|aj<|rS (SX (bU (r:= .int .i64 2) U U U (ib ⟨dc,dc⟩)) U U)<|rP 1 [] mn ?_
   refine RK e<|ed fun R67 A9=>WS fun _ AT=>rS (SX (bU (r:= .bool false) U U U gQ) U U)<|RK AT<|ah fun _ Az=>aW U<|bu<|ab<|ab<|au<|aG<|gT 8 U fr U ?_
   refine aS (G ⟨((cp left x),ys,A),⟨kX hn hm B D (fun n C=>by first|exact C|(simp [C]; done)) (fun n C=>by exact .inl C) (fun L n C K=>by simp only [d_,List.not_mem_nil,or_false] at C; rcases C with rfl|rfl<;>first|(simp; done)|(exfalso; omega)),fR B,E,F⟩⟩ _ _ _ rfl (eO hm) (aT rfl) (aH [3,4,5,6,7,8,9]))
  refine rP 2 [] mn ?_
  refine km (k:=ys) (k':=(ys++[((y.Hi+1))])) 9 (by first|exact hsz|exact Nat.le_refl _) hY E F U U U (by exact ⟨_,mS (B _ hm) dso (by first|exact .inl rfl|exact .inr U) I,U,U⟩) U U (fun B61 V S=>?_) (fun B61 V S=>?_)
  rotate_left 1
  ·refine rP 2 [] mn ?_
   refine RK O<|aO U<|an ?_
   refine hQ _ _ _ (gU (vs:=[]) trivial fun w hs=>rG 9 U V S hs)
  refine bf 2 U<|RK O<|aW U<|bZ<|aG<|KK a<|aj<|rS (SX (bU (r:= .int .i64 2) U U U (ib ⟨dc,dc⟩)) U U)<|rP 1 [] mn ?_
  refine RK e<|ed fun R64 A8=>WS fun _ AS=>rS (SX (bU (r:= .bool false) U U U gQ) U U)<|RK AS<|ah fun _ Ay=>aW U<|bu<|ab<|ab<|au<|aG<|gT 8 U fr U ?_
  refine aS (G ⟨((cp left x),(ys++[((y.Hi+1))]),B61),⟨kX hn hm B D (fun n C=>by first|exact C|(simp [C]; done)) (fun n C=>by (simp only [kB,bS] at C; rcases C with C|rfl<;>first|exact .inl C|exact .inr (mS (B _ hm) dso sm I))) (fun L n C K=>by simp only [d_,List.not_mem_nil,or_false] at C; rcases C with rfl|rfl<;>first|(simp; done)|(exfalso; omega)),fR B,V,S⟩⟩ _ _ _ rfl (eO hm) (aT rfl) (aH [3,4,5,6,7,8,9]))
 refine rP 2 [] mn ?_
 refine km (k:=ys) (k':=(ys++[((y.Lo+1))])) 8 (by first|exact hsz|exact Nat.le_refl _) hY E F U U U (by exact ⟨_,mS (B _ hm) dso (by first|exact .inl rfl|exact .inr U) I,U,U⟩) U U (fun B28 BG H=>?_) (fun B28 BG H=>?_)
 rotate_left 1
 ·refine rP 2 [] mn ?_
  refine RK M<|aO U<|an ?_
  refine hQ _ _ _ (gU (vs:=[]) trivial fun w hs=>rG 8 U BG H hs)
 refine bf 2 U<|RK M<|aW U<|bZ<|aG<|KK X<|aj<|rS (SX (bU (r:= .int .i64 1) U U U (ib ⟨dc,dc⟩)) U U)<|bf 1 U<|RK c<|ed fun R31 d=>WS fun _ AH=>rS (SX (bU (r:= .bool true) U U U gQ) U U)<|RK AH<|ah fun _ AI=>aO U<|WK AI<|ah fun _ Y=>av<|WS fun _ AJ=>rS (SX (rf (v:=(vI (y.Hi+1))) 1 U U U Gj bX U dc U) U U)<|bf 1 U<|RK AJ<|WS fun _ N=>rP 4 [] (mr 6 U mn) ?_
 refine b_ (t:=43) U (bp fun Ag=>?_) (bq fun Ag=>?_)
 ·refine bf 14 U<|RK N<|aW U<|bZ<|aG<|KK Y<|aj<|rS (SX (bU (r:= .int .i64 2) U U U (ib ⟨dc,dc⟩)) U U)<|rP 1 [] mn ?_
  refine RK d<|ed fun R49 A7=>WS fun _ AN=>rS (SX (bU (r:= .bool false) U U U gQ) U U)<|RK AN<|ah fun _ Ax=>aW U<|bu<|ab<|ab<|au<|aG<|gT 7 U fr U ?_
  refine aS (G ⟨((cp left x),(ys++[((y.Lo+1))]),B28),⟨kX hn hm B D (fun n C=>by first|exact C|(simp [C]; done)) (fun n C=>by (simp only [kB,bS] at C; rcases C with C|rfl<;>first|exact .inl C|exact .inr (mS (B _ hm) dso sm I))) (fun L n C K=>by simp only [d_,List.not_mem_nil,or_false] at C; rcases C with rfl|rfl<;>first|(simp; done)|(exfalso; omega)),fR B,BG,H⟩⟩ _ _ _ rfl (eO hm) (aT rfl) (aH [2,3,4,5,6,7,8]))
 refine rP 5 [] (mc 2 U mn) ?_
 refine cU (xs:=[.tmp 48]) (cs:=[(vI (y.Hi+1))]) U cq jd U U U U (by simp [Value.cells]) U U fun Ac=>?_
 refine rS (CL (dT.eq (j2 ((aA m i).Lo) ((aA m i).Hi) ([(y.Hi+1)]) (some ⟨Ac,0,none⟩) 1 (by (simp; done))) cS) (aw (aZ 0 U U (by simp [bB]) U)<|aI) U) ?_
 refine rP 2 [] mn ?_
 refine b_ (t:=52) U (aM fun Ah=>?_) (aL fun Ah=>?_)
 ·refine bf 5 U<|RK N<|aW U<|bZ<|aG<|KK Y<|aj<|rS (SX (bU (r:= .int .i64 2) U U U (ib ⟨dc,dc⟩)) U U)<|rP 1 [] mn ?_
  refine RK d<|ed fun R46 A6=>WS fun _ AM=>rS (SX (bU (r:= .bool false) U U U gQ) U U)<|RK AM<|ah fun _ Aw=>aW U<|bu<|ab<|ab<|au<|aG<|gT 8 U fr U ?_
  refine aS (G ⟨((cp left x),(ys++[((y.Lo+1))]),B28),⟨kX hn hm B D (fun n C=>by first|exact C|(simp [C]; done)) (fun n C=>by (simp only [kB,bS] at C; rcases C with C|rfl<;>first|exact .inl C|exact .inr (mS (B _ hm) dso sm I))) (fun L n C K=>by simp only [d_,List.not_mem_nil,or_false] at C; rcases C with rfl|rfl<;>first|(simp; done)|(exfalso; omega)),fR B,BG,H⟩⟩ _ _ _ rfl (eO hm) (aT rfl) (aH [3,4,5,6,7,8,9]))
 refine rP 2 [] mn ?_
 refine km (k:=(ys++[((y.Lo+1))])) (k':=((ys++[((y.Lo+1))])++[((y.Hi+1))])) 9 (by first|exact hsz|exact Nat.le_refl _) hY BG H U U U (by exact ⟨_,mS (B _ hm) dso (by first|exact .inl rfl|exact .inr U) I,U,U⟩) U U (fun B40 BD R=>?_) (fun B40 BD R=>?_)
 rotate_left 1
 ·refine rP 2 [] mn ?_
  refine RK N<|aO U<|an ?_
  refine hQ _ _ _ (gU (vs:=[]) trivial fun w hs=>rG 9 U BD R hs)
 refine bf 2 U<|RK N<|aW U<|bZ<|aG<|KK Y<|aj<|rS (SX (bU (r:= .int .i64 2) U U U (ib ⟨dc,dc⟩)) U U)<|rP 1 [] mn ?_
 refine RK d<|ed fun R43 A5=>WS fun _ AK=>rS (SX (bU (r:= .bool false) U U U gQ) U U)<|RK AK<|ah fun _ Av=>aW U<|bu<|ab<|ab<|au<|aG<|gT 8 U fr U ?_
 refine aS (G ⟨((cp left x),((ys++[((y.Lo+1))])++[((y.Hi+1))]),B40),⟨kX hn hm B D (fun n C=>by first|exact C|(simp [C]; done)) (fun n C=>by (simp only [kB,bS] at C; rcases C with (C|rfl)|rfl<;>first|exact .inl C|exact .inr (mS (B _ hm) dso sm I))) (fun L n C K=>by simp only [d_,List.not_mem_nil,or_false] at C; rcases C with rfl|rfl<;>first|(simp; done)|(exfalso; omega)),fR B,BD,R⟩⟩ _ _ _ rfl (eO hm) (aT rfl) (aH [3,4,5,6,7,8,9]))
theorem Km (gw:Nat) (i:Int):
 lq Tryz.prog 70 [(vP gw),(vI i)] [] (fun (x:Nat×Nat)=>(Value.func (.func 96) [].toArray [(Value.pointer (some ⟨x.1,0,none⟩)),(Value.pointer (some ⟨x.2,0,none⟩))].toArray)) (fun (x:Nat×Nat)=>True) (fun (x:Nat×Nat)=>[(bV x.1 81 [(vP gw)]),(bV x.2 3 [(vI i)])]):=by
 refine dj kr Tryz.func70 U U fun E Q hQ hN=>?_
 try dsimp only
 refine WS fun _ A=>uI U U fun C=>uI U U fun D=>bf 1 U<|RK A<|WS fun _ B=>rS (FU U)<|rP 1 [] mn ?_
 refine RK B<|an<|LX hQ (C,D) [1,0] [] mn U U U U ?_
 trivial
end
section
open Go.RowKit
theorem zZ (r:bT) (kA:OA) (kC:Nat) (cA:OA) (cC:Nat) (bA:OA) (bC:Nat) (slA:OA) (slC:Nat) (drA:OA) (drC:Nat) (heA:OA) (heC:Nat) (tA:OA) (tN tC:Nat) (gs gw:Nat) (m:gX) (i:Int) (hb: ∀ p∈m,0≤p.2.Lo∧p.2.Lo≤p.2.Hi∧p.2.Hi≤30000000) (hi:m.lookup i≠none) (hm12:m.length≤12):
 lq Tryz.prog 44 [(vP gw),(vI i)] [(bV gw 91 (fH.cells (fH.mk (oF r kA kC cA cC bA bC slA slC drA drC heA heC) (br.mk tA tN tC) (Value.map (some gs))))),(gV iV gs (bK dv m))] (fun (x:(OA)×Nat)=>(vS x.1 ((c_ m i (aA m i)).length) x.2)) (fun (x:(OA)×Nat)=>True) (fun (x:(OA)×Nat)=>[(own x.1 x.2 3 1 ((c_ m i (aA m i)).map iC))]):=by
 refine dj kr Tryz.func44 U U fun w0 Q hQ hN=>?_
 try dsimp only
 refine WS fun _ Ap=>uI U U fun b2=>uI U U fun b3=>rP 1 [] mn ?_
 refine RK Ap<|WS fun _ Aq=>mz (kV:=iV) U U fun Aw=>?_
 try dsimp only
 refine AL U Ul fun b6=>H8 U Uq U U<|RK Aq<|ah fun _ Ar=>WS fun _ As=>fw 1 [] (mc 3 U mn) U<|rS (SX (bI U U) U U)<|fw 2 [] (mr 4 U mn) U<|rS (SX (rY U U l7 (by exact j4 5 U)) U U)<|rP 1 [] mn ?_
 refine RK As<|av ?_
 have A:(0≤m.length)∧(iP ([]:o) (fun u=>1≤u∧u≤(0:Int))):=by exact ⟨Nat.zero_le _,Ml fun k=>by omega⟩
 refine bH (ι:={z:Nat×o // (z.1≤m.length)∧(iP z.2 (fun u=>1≤u∧u≤(z.1:Int)))}) [2,3,5,20] [0,2,3,4,5] U U (fun z=>[(21,(vI (z.1.1:Int)))]) (fun z=>[(gV iV Aw (bK vB z.1.2))]) (fun _=>rfl) (fun _=>rfl) (fun z=>m.length-z.1.1) ⟨(0,([]:o)),A⟩ (aT U) (aH [0,2,3,4,5,1]) ?_
 clear A
 rintro ⟨⟨n,nv⟩,⟨j,K⟩⟩ J9 Ao
 try dsimp only at j K
 try dsimp only
 refine WS fun _ AE=>rP 1 [] mn ?_
 refine RK AE<|ah fun _ AF=>cy U (aL fun Al=>?_) (aM fun Al=>?_)
 ·refine WK AF<|ah fun _ AG=>av<|WS fun _ AH=>bf 2 U<|RK AH<|aj<|fw 3 [] (mc 0 U mn) U<|g_ (kV:=iV) (x:=((n:Int)+1)) (C':=[_,_,_,_,_,(gV iV Aw (bK vB (dL nv ((n:Int)+1) true)))]) 5 U U U U vJ (dC oG) U (fM _ _ _ _).symm U<|aC<|aG<|KK AG<|aj<|rP 2 [] mn ?_
  refine aC ?_
  have Ag:(vI (((n+1):Nat):Int))=(vI ((n:Int)+1)):=by exact cI I
  refine aS (Ao ⟨((n+1),(dL nv ((n:Int)+1) true)),⟨I,(Ir K I).yl fun k=>by omega⟩⟩ _ _ _ U os (ct 4<|aX U Ag<|dh.nil _) (aH [0,1,2,3,4,5]))
 refine bu<|ab<|ab<|au<|KK Ar<|WS fun _ AI=>rP 1 [] (mc 0 U mn) ?_
 refine cX (Io nv Aw) (bj [5]) U fun G A8=>?_
 try dsimp only
 refine bf 1 U<|RK AI<|ah fun _ AJ=>WS fun _ AK=>rP 2 [0,1] (mc 3 U (mc 2 U mn)) ?_
 refine cX (Km gw i) (aI) U fun A0 A9=>?_
 obtain ⟨Z,c⟩:=A0
 try dsimp only
 refine RK AK<|av<|ku 6 U (by exact fun _ h=>h)<|ku 8 U (by exact fun _ h=>h) ?_
 refine nG (L0:=[(2,(vP b2)),(3,(vP b3)),(5,(vP b6)),(7,(Value.map (some G)))]) (F:=[(bV gw 91 (fH.cells (fH.mk (oF r kA kC cA cC bA bC slA slC drA drC heA heC) (br.mk tA tN tC) (Value.map (some gs))))).ro,(gV iV gs (bK dv m)).ro,(bV Z 81 [(vP gw)]),(bV c 3 [(vI i)])]) (fun k (y:o)=>(iP y (uS m i k))) (fun k y=>[(gV iV G (bK vB nv)),(bV b6 67 [(Value.map (some Aw))]),(bV b3 3 [(vI i)]),(bV b2 81 [(vP gw)]),(bV gw 91 (fH.cells (fH.mk (oF r kA kC cA cC bA bC slA slC drA drC heA heC) (br.mk tA tN tC) (Value.map (some gs))))).ro,(gV iV gs (bK dv m)).ro,(gV iV Aw (bK vB y))]) (fun _ (_:Unit)=>False) (fun _ _=>[]) [4,5,6,7,8,9,10] [1,0,2,3] nv rfl rfl (GS r kA kC cA cC bA bC slA slC drA drC heA heC tA tN tC gs gw m i Z c (by exact hb)) rfl rfl rfl (by exact IB (K.yl fun k=>by omega)) (by simp only [List.forall_mem_cons,List.not_mem_nil,false_imp_iff,implies_true,and_true]; exact ⟨⟨_,sm,(dD (bO _))⟩,⟨_,sm,(dD (bO _))⟩,⟨_,sm,(bO _)⟩,⟨_,sm,(bO _)⟩⟩) (by rintro k x k2 ⟨n,_,rfl,_⟩; rfl) rfl (aT rfl) ?_ ?_ (fun _ _ _ h=>h.elim) (fun _ _ h=>h.elim)
 rotate_left 1
 ·rintro BJ k nw Ah g
  have T:=g
  try dsimp only
  refine aG<|KK AJ<|ah fun _ Ab=>WS fun _ Ac=>rP 1 [] (mc 6 U mn) ?_
  refine uR 11 U U vJ U U fun Ay=>?_
  try dsimp only
  refine RK Ac<|av ?_
  have A:(∀ p∈nw,p∈nw)∧(iP nv (fun u=>(1≤u∧u≤(m.length:Int))∧ ¬ (uS m i k u∧u ∉ nw.map (·.1)))):=by exact ⟨fun p hp=>hp,K.yl fun u=>⟨fun q=>⟨I,fun z=>z.2 ((T.2 u).2 z.1)⟩,fun q=>by omega⟩⟩
  refine bH (ι:={z:o×o // (∀ p∈z.1,p∈nw)∧(iP z.2 (fun u=>(1≤u∧u≤(m.length:Int))∧ ¬ (uS m i k u∧u ∉ z.1.map (·.1))))}) [7,68] [0,1,2,9,10] U U (fun z=>[]) (fun z=>[(gV iV G (bK vB z.1.2)),(yW iV Ay Aw (bK vB nw) (bK vB z.1.1) none)]) (fun _=>rfl) (fun _=>rfl) (fun z=>z.1.1.length) ⟨(nw,nv),A⟩ (dh.nil _) (aH [0,1,2,9,10,5,11]) ?_
  clear A
  rintro ⟨⟨left,rk⟩,⟨A3,J⟩⟩ J55 AD
  try dsimp only at A3 J
  try dsimp only
  refine WS fun _ X=>r8 (dC oG).inj (f:=Value.bool) 6 U U U U (fun An=>?_) (fun u v Ai BC=>?_)
  rotate_left 1
  ·try dsimp only
   refine bf 1 U<|RK X<|ah fun _ Ae=>aO U<|WK Ae<|av<|WS fun _ Af=>rS (SX (sk 6 U U U) U U)<|bf 2 U<|RK Af<|aj<|rP 2 [] mn ?_
   refine o_ (kV:=iV) (x:=u) (C':=[_,_,_,_,_,(gV iV G (bK vB (cp rk u))),_]) 5 U U U U vJ (dC oG) U (lQ _ _ _).symm U<|aC<|aG<|gT 6 U wN U ?_
   refine aS (AD ⟨((cp left u),(cp rk u)),⟨fR A3,Na A3 T Ai J⟩⟩ _ _ _ U (eO Ai) (aT U) (aH [0,1,2,3,4,5,6]))
  refine rP 1 [] mn ?_
  refine RK X<|ah fun _ A7=>aW U<|bu<|ab<|ab<|au<|KK Ab<|WS fun _ Ad=>?_
  have Aj:iP rk (fun u=>(1≤u∧u≤(m.length:Int))∧ ¬ uS m i k u):=J.yl fun u=>⟨fun q=>⟨q.1,fun z=>q.2 ⟨z,by rw [An]; simp⟩⟩,fun q=>⟨q.1,fun z=>q.2 z.1⟩⟩
  have Y:df (rk.map (·.1))=(c_ m i (aA m i)):=ES hi Ah Aj
  have BE:rk.length≤m.length:=L4 Aj fun k q=>q.1
  have At:rk.length=(c_ m i (aA m i)).length:=by rw [← Y]; simp
  refine rP 1 [] mn ?_
  refine cX (NN G) (aI) U fun Ak A_=>?_
  try dsimp only
  refine cX (G8 rk G Ak I) (bj [6,0]) U fun A1 BA=>?_
  obtain ⟨AA,AB⟩:=A1
  try dsimp only
  rw [Y]
  refine rP 1 [] mn ?_
  refine RK Ad<|an<|hQ _ _ _ (ou 2 U U<|gU (vs:=[(vS AA rk.length AB)]) ⟨U,trivial⟩ fun w hs=>Kn (AA,AB) [0] ?_ ?_ U U U hs)
  ·(rw [← At]; rfl)
  ·trivial
 rintro k x k2 nw l ra rb S w1 K26 Qr27 BH hx e AM d Az A2
 obtain ⟨n,BD,rfl,rfl⟩:=hx
 have T:=e
 try dsimp only
 refine aj<|rP 1 [] mn ?_
 refine aC<|aS (AM _ _ ?_)
 refine av<|WS fun _ AN=>bf 2 U<|RK AN<|ah fun _ AO=>WS fun _ AP=>fw 1 [] (mc 4 U mn) U<|rS (SX (bI U U) U U)<|rP 2 [] (mr 5 U mn) ?_
 refine jW (kV:=iV) (m:=bK dv m) 6 U U l7 U ⟨U,fun h=>h⟩ (by exact j4 6 U) U fun Ax=>?_
 try dsimp only
 refine RK AP<|av ?_
 have A:((1:Int)+(gG m i n:Int)=1+(gG m i n:Int))∧((1:Int)+(jr m i n:Int)=1+(jr m i n:Int))∧(∀ p∈m,p∈m)∧(1≤(1:Int)∧1≤(1:Int)):=by exact ⟨rfl,rfl,fun p hp=>hp,I⟩
 refine bH (ι:={z:gX×Int×Int // (z.2.1+(gG z.1 i n:Int)=1+(gG m i n:Int))∧(z.2.2+(jr z.1 i n:Int)=1+(jr m i n:Int))∧(∀ p∈z.1,p∈m)∧(1≤z.2.1∧1≤z.2.2)}) [2,3,5,7,8,38] [1,2,3,4,5,6,7,8] U U (fun z=>[(9,(vI z.1.2.1)),(10,(vI z.1.2.2))]) (fun z=>[(yQ iV Ax gs (bK dv m) (bK dv z.1.1) none)]) (fun _=>rfl) (fun _=>rfl) (fun z=>z.1.1.length) ⟨(m,(1:Int),(1:Int)),A⟩ (aT U) (aH [1,2,3,4,5,6,7,8,0]) ?_
 clear A
 rintro ⟨⟨left,s,t⟩,⟨C,D,B,R⟩⟩ J33 L
 try dsimp only at C D B R
 try dsimp only
 have Au:=F6 (m:=m) (i:=i) (n:=n)
 have Av:=IT (m:=m) (i:=i) (n:=n)
 refine WS fun _ V=>ja (dC oG).inj (f:=dv) 8 U U U U (fun P=>?_) (fun x y hm hn=>?_)
 ·refine bf 1 U<|RK V<|ah fun _ A6=>aW U<|bu<|ab<|ab<|au<|KK AO<|WS fun _ AQ=>rP 2 [] mn ?_
  refine RK AQ<|av ?_
  have A:(s≤s∧(s≤t+1∨s=s))∧(iP nw (fun u=>uS m i k u∧ ¬ (s≤u∧u<s))):=by exact ⟨⟨Int.le_refl _,.inr rfl⟩,T.yl fun u=>⟨fun q=>⟨q,fun z=>by omega⟩,fun q=>q.1⟩⟩
  refine bH (ι:={z:Int×o // (s≤z.1∧(z.1≤t+1∨z.1=s))∧(iP z.2 (fun u=>uS m i k u∧ ¬ (s≤u∧u<z.1)))}) [2,3,5,7,8,9,10] [0,1,2,3,4,5,6,8] U U (fun z=>[(13,(vI z.1.1))]) (fun z=>[(gV iV Aw (bK vB z.1.2))]) (fun _=>rfl) (fun _=>rfl) (fun z=>(t+1-z.1.1).toNat) ⟨(s,nw),A⟩ (aT U) (aH [0,1,2,3,4,5,6,8,7]) ?_
  clear A
  rintro ⟨⟨q,n2⟩,⟨N,H⟩⟩ J37 AC
  try dsimp only at N H
  try dsimp only
  have Au:=F6 (m:=m) (i:=i) (n:=n)
  have Av:=IT (m:=m) (i:=i) (n:=n)
  have BF:s=1+(gG m i n:Int):=by rw [P] at C; simp only [zy] at C; omega
  have BG:t=1+(jr m i n:Int):=by rw [P] at D; simp only [CQ] at D; omega
  refine ah fun _ AR=>WS fun _ AS=>rP 3 [] mn ?_
  refine RK AS<|bL U (aM fun Am=>?_) (aL fun Am=>?_)
  ·refine bu<|ab<|ab<|au<|aG ?_
   exact d n2 _ _ (by exact Ks (a:=s) (b:=t) (by rw [P,zy] at C; omega) (by rw [P,CQ] at D; omega) (H.yl fun u=>⟨fun z=>⟨z.1,fun w=>z.2 I⟩,fun z=>⟨z.1,fun w=>z.2 I⟩⟩)) (aH [0,1,2,3,4,5,6,8])
  refine WK AR<|ah fun _ AT=>av<|aj<|fw 2 [] (mc 2 U mn) U<|o_ (kV:=iV) (x:=q) (C':=[_,_,_,_,_,_,_,_,(gV iV Aw (bK vB (cp n2 q)))]) 8 U U U U vJ (dC oG) U (lQ _ _ _).symm U<|aC<|aG<|KK AT<|aj<|rP 3 [] mn ?_
  refine aC ?_
  refine aS (AC ⟨((q+1),(cp n2 q)),⟨I,Ev N.1 H⟩⟩ _ _ _ U dso (aT U) (aH [0,1,2,3,4,5,6,7,8]))
 try dsimp only
 refine bf 1 U<|RK V<|ah fun _ AU=>aO U<|WK AU<|av<|WS fun _ AV=>rS (SX (i_ 8 U U U) U U)<|bf 2 U<|AL U de fun BB=>bf 1 U<|fP U cm U<|RK AV<|ah fun _ AW=>WS fun _ AX=>rP 3 [] (mc 4 U mn) ?_
 refine RK AX<|cy U (aL fun E=>?_) (aM fun E=>?_)
 ·refine bu<|ab<|au<|gT 9 U fr U ?_
  refine aS (L ⟨((cp left x),s,t),(by refine ⟨?_,?_,fR B,?_⟩<;>dsimp only <;>first|omega|(rw [← He hn hm E]; omega)|(rw [← LK hn hm E]; omega))⟩ _ _ _ U (eO hm) (aT U) (aH [1,2,3,4,5,6,7,8,9]))
 refine WK AW<|ah fun _ W=>WS fun _ AY=>rP 4 [] (mc 0 U mn) ?_
 refine RK AY<|bL U (aM fun O=>?_) (aL fun O=>?_)
 ·refine WK W<|WS fun _ Aa=>rP 4 [] (mc 0 U mn) ?_
  refine RK Aa<|bL U (aM fun M=>?_) (aL fun M=>?_)
  ·refine bZ<|aG<|gT 9 U fr U ?_
   refine aS (L ⟨((cp left x),s,t),(by refine ⟨?_,?_,fR B,?_⟩<;>dsimp only <;>first|omega|(have:=CT hn hm E O; omega)|(have:=FE hn hm E M; omega))⟩ _ _ _ U (eO hm) (aT U) (aH [1,2,3,4,5,6,7,8,9]))
  refine aj<|rP 3 [] mn ?_
  refine aC<|aG<|gT 9 U fr U ?_
  refine aS (L ⟨((cp left x),s,(t+1)),(by refine ⟨?_,?_,fR B,?_⟩<;>dsimp only <;>first|omega|(have:=CT hn hm E O; omega)|(have:=Ch hn hm E M; omega))⟩ _ _ _ U (eO hm) (aT U) (aH [1,2,3,4,5,6,7,8,9]))
 refine aj<|bf 3 U<|RK W<|WS fun _ AZ=>rP 4 [] (mc 0 U mn) ?_
 refine RK AZ<|bL U (aM fun M=>?_) (aL fun M=>?_)
 ·refine bZ<|aG<|gT 9 U fr U ?_
  refine aS (L ⟨((cp left x),(s+1),t),(by refine ⟨?_,?_,fR B,?_⟩<;>dsimp only <;>first|omega|(have:=zh hn hm E O; omega)|(have:=FE hn hm E M; omega))⟩ _ _ _ U (eO hm) (aT U) (aH [1,2,3,4,5,6,7,8,9]))
 refine aj<|rP 3 [] mn ?_
 refine aC<|aG<|gT 9 U fr U ?_
 refine aS (L ⟨((cp left x),(s+1),(t+1)),(by refine ⟨?_,?_,fR B,?_⟩<;>dsimp only <;>first|omega|(have:=zh hn hm E O; omega)|(have:=Ch hn hm E M; omega))⟩ _ _ _ U (eO hm) (aT U) (aH [1,2,3,4,5,6,7,8,9]))
end
section
open Go.RowKit
theorem NW (i:Int) (r:bT) (kA:OA) (kC:Nat) (az:List RA) (cA:OA) (cC:Nat) (bA:OA) (bC:Nat) (slA:OA) (slC:Nat) (drA:OA) (drC:Nat) (ha:List cO) (heA:OA) (heC:Nat) (hin:e9 r az ha):
 lq Tryz.prog 28 [(vA (cw.cells (oF r kA kC cA cC bA bC slA slC drA drC heA heC))),(vI i)] [(rd eX 3 2 dY),(rd kA r.ao.aP.length 9 (r.ao.aP.map al.cells)),(rd cA r.ao.ak.length 2 (List.zipWith ar.cells r.ao.ak az)),(eW (aV ar.gZ r.ao.ak az)),(rd bA r.ao.ae.length 4 (r.ao.ae.map bD.cells)),(rd slA r.aQ.length 1 (r.aQ.map iC)),(rd drA r.bQ.length 1 (r.bQ.map iC)),(rd heA r.ay.length 1 (List.zipWith cP r.ay ha)),(eW (aV iq r.ay ha))] (fun (x:(OA)×Nat)=>(vT [(vS x.1 ((gP r i).length) x.2),(vI (jI r i))])) (fun (x:(OA)×Nat)=>True) (fun (x:(OA)×Nat)=>[(own x.1 x.2 3 1 ((gP r i).map iC))]):=by
 have V:=hin.line
 have k:=hin.iM
 have l:=hin.has
 have c:=hin.iL
 have Z:=hin.draw
 have d:=dB (r:=r)
 refine dj kr Tryz.func28 U U fun o Q hQ hN=>?_
 try dsimp only
 refine WS fun _ AA=>fK U fun n=>bf 2 U<|RK AA<|WS fun _ G=>rP 2 [] (mc 0 U mn) ?_
 refine cU (xs:=[.tmp 11]) (cs:=[(vI i)]) U cq jd U U U U (by simp [Value.cells]) U U fun h=>cX (yM r kA kC az cA cC bA bC slA slC drA drC ha heA heC i h hin) (bj [2,3,4,5,6,7,8,9,10,0]) U fun m L=>?_
 obtain ⟨M,j,T,S,N,O,AK,f,g⟩:=m
 cases M
 ·obtain ⟨H,he⟩:=L.2 rfl
  try dsimp only at H he
  subst H
  try dsimp only [cond_true,cond_false,List.cons_append,List.nil_append]
  refine bf 7 U<|RK G<|ah fun _ Y=>WS fun _ B=>rP 2 [] mn ?_
  refine RK B<|bL U (bp fun A=>?_) (bq fun A=>?_)
  ·exact absurd A he
  refine WS fun _ C=>dH 3 1 ?_
  rw [show (own none 0 3 1 ([]:List (List Value)))=own none 0 3 1 ((gP r i).map iC) from by rw [yH he]; rfl]
  refine bf 1 U<|rP 2 [] mn ?_
  refine RK C<|an ?_
  refine LX hQ (none,0) [0] [] mn U U U ?_ ?_
  ·(rw [yH he]; rfl)
  ·trivial
 obtain ⟨he,W⟩:=L.1 rfl
 try dsimp only [cond_true,cond_false,List.cons_append,List.nil_append]
 try dsimp only at W
 obtain ⟨J,a,AB⟩:=uJ he
 have K:=nH J
 have b:=mg J
 refine bf 7 U<|RK G<|ah fun _ D=>WS fun _ E=>bf 1 U<|rS (SX (bU (r:= .bool false) U U U l6) U U)<|RK E<|aW U<|WK D<|WS fun _ F=>rP 2 [] mn ?_
 refine cX (zZ r kA kC cA cC bA bC slA slC drA drC heA heC N ((cN r).length) O S T (aF r) i (by exact K) (by exact AB) I) (bj [0,3]) U fun X e=>?_
 obtain ⟨P,R⟩:=X
 try dsimp only
 rw [show (c_ (aF r) i (aA (aF r) i))=gP r i from (zB he).symm]
 refine rP 2 [] mn ?_
 refine RK F<|an ?_
 refine LX hQ (P,R) [0] [] mn U U U ?_ ?_
 ·(rw [he]; rfl)
 ·trivial
theorem sK (a b:Int) (r:bT) (kA:OA) (kC:Nat) (az:List RA) (cA:OA) (cC:Nat) (bA:OA) (bC:Nat) (slA:OA) (slC:Nat) (drA:OA) (drC:Nat) (ha:List cO) (heA:OA) (heC:Nat) (hin:e9 r az ha):
 dT Tryz.prog 15 [(vA (cw.cells (oF r kA kC cA cC bA bC slA slC drA drC heA heC))),(vI a),(vI b)] [(rd eX 3 2 dY),(rd kA r.ao.aP.length 9 (r.ao.aP.map al.cells)),(rd cA r.ao.ak.length 2 (List.zipWith ar.cells r.ao.ak az)),(eW (aV ar.gZ r.ao.ak az)),(rd bA r.ao.ae.length 4 (r.ao.ae.map bD.cells)),(rd slA r.aQ.length 1 (r.aQ.map iC)),(rd drA r.bQ.length 1 (r.bQ.map iC)),(rd heA r.ay.length 1 (List.zipWith cP r.ay ha)),(eW (aV iq r.ay ha))] (vT [(Value.int .u8 (oq r a b)),(vI (mu r a b))]):=by
 have M:=hin.line
 have k:=hin.iM
 have l:=hin.has
 have V:=hin.iL
 have R:=hin.draw
 have W:=dB (r:=r)
 refine bx kr Tryz.func15 U U fun p Q hQ hN=>?_
 try dsimp only
 refine WS fun _ L=>fK U fun o=>bf 2 U<|RK L<|WS fun _ H=>rP 3 [] (mc 0 U mn) ?_
 refine cU (xs:=[.tmp 13,.tmp 14]) (cs:=[(vI a),(vI b)]) U cq jd U U U U (by simp [Value.cells]) U U fun d=>cX (yO r kA kC az cA cC bA bC slA slC drA drC ha heA heC a b d hin) (bj [2,3,4,5,6,7,8,9,10,0]) U fun m J=>?_
 obtain ⟨K,e,g,f,Z,c,AK,X,Y⟩:=m
 cases K
 ·obtain ⟨AB,he⟩:=J.2 rfl
  try dsimp only at AB he
  subst AB
  try dsimp only [cond_true,cond_false,List.cons_append,List.nil_append]
  refine bf 7 U<|RK H<|ah fun _ P=>WS fun _ C=>rP 2 [] mn ?_
  refine RK C<|bL U (bp fun B=>?_) (bq fun B=>?_)
  ·exact absurd B he
  refine WS fun _ D=>rP 3 [] mn ?_
  refine RK D<|an<|Q2 hQ U U U U ?_
  (rw [show oq r a b=0 from if_neg he]; done)
 obtain ⟨he,O⟩:=J.1 rfl
 try dsimp only [cond_true,cond_false,List.cons_append,List.nil_append]
 try dsimp only at O
 obtain ⟨N,S,T,AA⟩:=zE he
 have A:=nH N
 have h:=gK (i:=a) A
 have j:=gK (i:=b) A
 refine bf 7 U<|RK H<|ah fun _ E=>WS fun _ F=>bf 1 U<|rS (SX (bU (r:= .bool false) U U U l6) U U)<|RK F<|aW U<|WK E<|ah fun _ G=>dA cu 21 kr<|dP 1 [] mn ?_
 refine dS (IA 0 U (ai (n:=2) 4 U sq) jN dc U I) ?_
 refine dS (nR ((0*2)+1) U (ai (n:=([(aA (aF r) a),(aA (aF r) b)]).length) 4 U sm) (Nat.succ_pos _) fu U)<|dS (fV 0 1 (vI ((aA (aF r) a).Hi)) U bX (ai (n:=([(aA (aF r) a),(aA (aF r) b)]).length) 4 U sm) (show ([(aA (aF r) a),(aA (aF r) b)].map aa.cells)[0]? =some [(vI ((aA (aF r) a).Lo)),(vI ((aA (aF r) a).Hi))] from U) U dc U)<|dP 1 [] mn ?_
 refine dS (IA 1 U (ai (n:=2) 4 U sq) jN dc U I) ?_
 refine dS (nR (1*2) U (ai (n:=([(aA (aF r) a),(aA (aF r) b)]).length) 4 U sm) (Nat.succ_pos _) fu U)<|dS (fV 1 0 (vI ((aA (aF r) b).Lo)) U bX (ai (n:=([(aA (aF r) a),(aA (aF r) b)]).length) 4 U sm) (show ([(aA (aF r) a),(aA (aF r) b)].map aa.cells)[1]? =some [(vI ((aA (aF r) b).Lo)),(vI ((aA (aF r) b).Hi))] from U) U dc U)<|dP 2 [] mn ?_
 refine dS (IA 0 U (ai (n:=2) 4 U sq) jN dc U I) ?_
 refine dS (nR (0*2) U (ai (n:=([(aA (aF r) a),(aA (aF r) b)]).length) 4 U sm) (Nat.succ_pos _) fu U)<|dS (fV 0 0 (vI ((aA (aF r) a).Lo)) U bX (ai (n:=([(aA (aF r) a),(aA (aF r) b)]).length) 4 U sm) (show ([(aA (aF r) a),(aA (aF r) b)].map aa.cells)[0]? =some [(vI ((aA (aF r) a).Lo)),(vI ((aA (aF r) a).Hi))] from U) U dc U)<|dP 1 [] mn ?_
 refine dS (IA 1 U (ai (n:=2) 4 U sq) jN dc U I) ?_
 refine dS (nR ((1*2)+1) U (ai (n:=([(aA (aF r) a),(aA (aF r) b)]).length) 4 U sm) (Nat.succ_pos _) fu U)<|dS (fV 1 1 (vI ((aA (aF r) b).Hi)) U bX (ai (n:=([(aA (aF r) a),(aA (aF r) b)]).length) 4 U sm) (show ([(aA (aF r) a),(aA (aF r) b)].map aa.cells)[1]? =some [(vI ((aA (aF r) b).Lo)),(vI ((aA (aF r) b).Hi))] from U) U dc U)<|lJ 1 U<|dS (CL (wI (decide (((aA (aF r) a).Hi)<((aA (aF r) b).Lo))) (decide (((aA (aF r) a).Lo)<((aA (aF r) b).Hi)))) (aI) U)<|dP 2 [] mn ?_
 refine cL<|RK G<|an<|Q2 hQ U U U U ?_
 (rw [he,show oq r a b=vz _ _ from if_pos he,← MY])
theorem Ql (a b:Int) (r:bT) (kA:OA) (kC:Nat) (az:List RA) (cA:OA) (cC:Nat) (bA:OA) (bC:Nat) (slA:OA) (slC:Nat) (drA:OA) (drC:Nat) (ha:List cO) (heA:OA) (heC:Nat) (hin:e9 r az ha):
 dT Tryz.prog 16 [(vA (cw.cells (oF r kA kC cA cC bA bC slA slC drA drC heA heC))),(vI a),(vI b)] [(rd eX 3 2 dY),(rd kA r.ao.aP.length 9 (r.ao.aP.map al.cells)),(rd cA r.ao.ak.length 2 (List.zipWith ar.cells r.ao.ak az)),(eW (aV ar.gZ r.ao.ak az)),(rd bA r.ao.ae.length 4 (r.ao.ae.map bD.cells)),(rd slA r.aQ.length 1 (r.aQ.map iC)),(rd drA r.bQ.length 1 (r.bQ.map iC)),(rd heA r.ay.length 1 (List.zipWith cP r.ay ha)),(eW (aV iq r.ay ha))] (vT [(Value.int .u8 (pP r a b)),(vI (mu r a b))]):=by
 have T:=hin.line
 have q:=hin.iM
 have s:=hin.has
 have d:=hin.iL
 have X:=hin.draw
 have e:=dB (r:=r)
 refine bx kr Tryz.func16 U U fun w Q hQ hN=>?_
 try dsimp only
 refine WS fun _ P=>fK U fun v=>bf 2 U<|RK P<|WS fun _ J=>rP 3 [] (mc 0 U mn) ?_
 refine cU (xs:=[.tmp 14,.tmp 15]) (cs:=[(vI a),(vI b)]) U cq jd U U U U (by simp [Value.cells]) U U fun l=>cX (yO r kA kC az cA cC bA bC slA slC drA drC ha heA heC a b l hin) (bj [2,3,4,5,6,7,8,9,10,0]) U fun u N=>?_
 obtain ⟨O,m,p,o,h,j,AK,f,g⟩:=u
 cases O
 ·obtain ⟨M,he⟩:=N.2 rfl
  try dsimp only at M he
  subst M
  try dsimp only [cond_true,cond_false,List.cons_append,List.nil_append]
  refine bf 7 U<|RK J<|ah fun _ W=>WS fun _ E=>rP 2 [] mn ?_
  refine RK E<|bL U (bp fun D=>?_) (bq fun D=>?_)
  ·exact absurd D he
  refine WS fun _ F=>rP 3 [] mn ?_
  refine RK F<|an<|Q2 hQ U U U U ?_
  (rw [show pP r a b=0 from if_neg he]; done)
 obtain ⟨he,V⟩:=N.1 rfl
 try dsimp only [cond_true,cond_false,List.cons_append,List.nil_append]
 try dsimp only at V
 obtain ⟨AA,Y,Z,c⟩:=zE he
 have B:=nH AA
 have R:=gK (i:=a) B
 have S:=gK (i:=b) B
 refine bf 7 U<|RK J<|ah fun _ G=>WS fun _ H=>rP 1 [] mn ?_
 refine rS (SX (bU (r:= .bool false) U U U l6) U U)<|RK H<|aW U<|WK G<|ah fun _ AB=>dG cu [19,20] [] [] [0,1,2,3,4,5,6,7,8,9,10,11,12,13,14,15] [] U U U U U<|eS U (MV U) ?_
 refine eS U (IA 0 U (ai (n:=2) 4 U sq) jN dc U I) ?_
 refine eS U (nR (0*2) U (ai (n:=([(aA (aF r) a),(aA (aF r) b)]).length) 4 U sm) (Nat.succ_pos _) fu U)<|eS U (fV 0 0 (vI ((aA (aF r) a).Lo)) U bX (ai (n:=([(aA (aF r) a),(aA (aF r) b)]).length) 4 U sm) (show ([(aA (aF r) a),(aA (aF r) b)].map aa.cells)[0]? =some [(vI ((aA (aF r) a).Lo)),(vI ((aA (aF r) a).Hi))] from U) U dc U)<|eS U (MV U) ?_
 refine eS U (IA 1 U (ai (n:=2) 4 U sq) jN dc U I) ?_
 refine eS U (nR (1*2) U (ai (n:=([(aA (aF r) a),(aA (aF r) b)]).length) 4 U sm) (Nat.succ_pos _) fu U)<|eS U (fV 1 0 (vI ((aA (aF r) b).Lo)) U bX (ai (n:=([(aA (aF r) a),(aA (aF r) b)]).length) 4 U sm) (show ([(aA (aF r) a),(aA (aF r) b)].map aa.cells)[1]? =some [(vI ((aA (aF r) b).Lo)),(vI ((aA (aF r) b).Hi))] from U) U dc U)<|eS U (MX U)<|eS U (MV U) ?_
 refine eS U (IA 0 U (ai (n:=2) 4 U sq) jN dc U I) ?_
 refine eS U (nR ((0*2)+1) U (ai (n:=([(aA (aF r) a),(aA (aF r) b)]).length) 4 U sm) (Nat.succ_pos _) fu U)<|eS U (fV 0 1 (vI ((aA (aF r) a).Hi)) U bX (ai (n:=([(aA (aF r) a),(aA (aF r) b)]).length) 4 U sm) (show ([(aA (aF r) a),(aA (aF r) b)].map aa.cells)[0]? =some [(vI ((aA (aF r) a).Lo)),(vI ((aA (aF r) a).Hi))] from U) U dc U)<|eS U (MV U) ?_
 refine eS U (IA 1 U (ai (n:=2) 4 U sq) jN dc U I) ?_
 refine eS U (nR ((1*2)+1) U (ai (n:=([(aA (aF r) a),(aA (aF r) b)]).length) 4 U sm) (Nat.succ_pos _) fu U)<|eS U (fV 1 1 (vI ((aA (aF r) b).Hi)) U bX (ai (n:=([(aA (aF r) a),(aA (aF r) b)]).length) 4 U sm) (show ([(aA (aF r) a),(aA (aF r) b)].map aa.cells)[1]? =some [(vI ((aA (aF r) b).Lo)),(vI ((aA (aF r) b).Hi))] from U) U dc U)<|eS U (MN U)<|eS U (SX (bh (xs:=[(0,.tmp 32),(1,.tmp 41)]) (cs:=(aa.cells (aa.mk (max ((aA (aF r) a).Lo) ((aA (aF r) b).Lo)) (min ((aA (aF r) a).Hi) ((aA (aF r) b).Hi))))) U U (bg gf U)) U U)<|eV U<|bY U fun T22 K=>AL U de fun k=>aC (K _ _ (aH [1,2,3,4,5,6,7,8,9,10,11,12,13,14,15,16]) ?_)
 refine bY U fun T24 L=>fP U cm U<|aC (L _ _ (aH [1,2,3,4,5,6,7,8,9,10,11,12,13,14,15,16]) ?_)
 refine fF U<|KK AB<|ah fun _ A=>dA cu 22 kr<|dP 1 [] mn ?_
 refine dS (IA 0 U (ai (n:=2) 5 U sq) jN dc U I) ?_
 refine dS (oH 0 0 (aa.cells (aA (aF r) a)) U bX (ai (n:=([(aA (aF r) a),(aA (aF r) b)]).length) 5 U sm) (show ([(aA (aF r) a),(aA (aF r) b)].map aa.cells)[0]? =some [(vI ((aA (aF r) a).Lo)),(vI ((aA (aF r) a).Hi))] from U) U dc U U)<|dP 1 [] mn ?_
 refine dS (IA 1 U (ai (n:=2) 5 U sq) jN dc U I) ?_
 refine dS (oH 1 0 (aa.cells (aA (aF r) b)) U bX (ai (n:=([(aA (aF r) a),(aA (aF r) b)]).length) 5 U sm) (show ([(aA (aF r) a),(aA (aF r) b)].map aa.cells)[1]? =some [(vI ((aA (aF r) b).Lo)),(vI ((aA (aF r) b).Hi))] from U) U dc U U)<|dS (BI U (sW _ _ (aA (aF r) a) (aA (aF r) b)))<|dP 1 [] mn ?_
 refine jh (t:=50) U (aM fun C=>?_) (aL fun C=>?_)
 ·refine mJ 11 [] (mc 0 U mn) U<|dS (CL (wI false (decide ((max ((aA (aF r) a).Lo) ((aA (aF r) b).Lo))≤(min ((aA (aF r) a).Hi) ((aA (aF r) b).Hi))))) (aI) U)<|dP 2 [] mn ?_
  refine cL<|RK A<|an<|Q2 hQ U U U U ?_
  (rw [he,show pP r a b=qo _ _ from if_pos he,← NF R.2.1 S.2.1 C]; done)
 refine mJ 11 [] (mc 0 U mn) U<|dS (CL (wI (decide ((max ((aA (aF r) a).Lo) ((aA (aF r) b).Lo))=(min ((aA (aF r) a).Hi) ((aA (aF r) b).Hi)))) (decide ((max ((aA (aF r) a).Lo) ((aA (aF r) b).Lo))≤(min ((aA (aF r) a).Hi) ((aA (aF r) b).Hi))))) (aI) U)<|dP 2 [] mn ?_
 refine cL<|RK A<|an<|Q2 hQ U U U U ?_
 (rw [he,show pP r a b=qo _ _ from if_pos he,← Ij C]; done)
end
section
open Go.RowKit
theorem Ln (m:gX) (gm g1:Nat):
 E4 Tryz.prog 68 [] [(vP g1)] [(gV iV gm (bK dv m)),(bV g1 64 [(Value.map (some gm))])] ([]:List Int) (fun ys x ys'=> ∃ n zs,(ys++[n]++zs).Perm (m.map (·.1))∧x=[vI n]∧ys'=ys++[n]) (fun ys=>ys.Perm (m.map (·.1))):=by
 refine th kr Tryz.func68 U U fun l J Z A0 S Q hY M L hQ hN=>?_
 try dsimp only
 refine WS fun _ O=>rP 1 [] (mr 2 U mn) ?_
 refine jW (kV:=iV) (m:=bK dv m) 1 U U l7 U ⟨U,fun h=>h⟩ (by exact j4 1 U) U fun V=>?_
 try dsimp only
 refine RK O<|av ?_
 have G:(oy m m ([]:List Int))∧(∀ p∈m,p∈m)∧(J ([]:List Int) A0)∧(Fo A0 S A0):=by exact ⟨vl,fun p hp=>hp,M,L⟩
 refine bH (ι:={z:gX×(List Int)×aq // (oy m z.1 z.2.1)∧(∀ p∈z.1,p∈m)∧(J z.2.1 z.2.2)∧(Fo A0 S z.2.2)}) [0,1,5] [2,3] U U (fun z=>[]) (fun z=>[(yQ iV V gm (bK dv m) (bK dv z.1.1) none),z.1.2.2]) (fun _=>rfl) (fun _=>rfl) (fun z=>z.1.1.length) ⟨(m,([]:List Int),A0),G⟩ (dh.nil _) (aH [2,3,0,1]) ?_
 clear G
 rintro ⟨⟨left,ys,A⟩,⟨B,H,C,D⟩⟩ J3 N
 try dsimp only at B H C D
 try dsimp only
 refine WS fun _ AB=>ja (dC oG).inj (f:=dv) 2 U U U U (fun T=>?_) (fun x y hm hn=>?_)
 ·refine rP 1 [] mn ?_
  refine RK AB<|ah fun _ AA=>aW U<|bu<|ab<|ab<|au ?_
  refine hN _ _ _ (gU (vs:=[]) trivial fun w hs=>Ke 3 U (by rw [T] at B; exact xR B) C D hs)
 try dsimp only
 refine bf 1 U<|RK AB<|ah fun _ P=>aO U<|WK P<|av<|WS fun _ R=>rS (SX (i_ 2 U U U) U U)<|bf 2 U<|RK R<|WS fun _ K=>rP 2 [] mn ?_
 refine km (k:=ys) (k':=(ys++[(x)])) 3 (by first|exact hsz|exact Nat.le_refl _) hY C D U U U (by exact ⟨x,_,oi hn hm B,U,U⟩) U U (fun B9 F E=>?_) (fun B9 F E=>?_)
 rotate_left 1
 ·refine rP 1 [] mn ?_
  refine RK K<|aO U<|an ?_
  refine hQ _ _ _ (gU (vs:=[]) trivial fun w hs=>rG 3 U F E hs)
 refine rP 1 [] mn ?_
 refine RK K<|aW U<|bZ<|aG<|gT 2 U fr U ?_
 refine aS (N ⟨((cp left x),(ys++[(x)]),B9),⟨oi hn hm B,fR H,F,E⟩⟩ _ _ _ U (eO hm) (aT U) (aH [0,1,2,3]))
theorem Gq (gm:Nat):
 lq Tryz.prog 42 [(Value.map (some gm))] [] (fun (x:Nat)=>(Value.func (.func 68) [].toArray [(vP x)].toArray)) (fun (x:Nat)=>True) (fun (x:Nat)=>[(bV x 64 [(Value.map (some gm))])]):=by
 refine dj kr Tryz.func42 U U fun D Q hQ hN=>?_
 try dsimp only
 refine WS fun _ A=>uI U U fun C=>bf 1 U<|RK A<|WS fun _ B=>rS (FU U)<|rP 1 [] mn ?_
 refine RK B<|an<|LX hQ C [0] [] mn U U U U ?_
 trivial
end
section
open Go.RowKit
theorem GI (m:gX) (gm g1:Nat) (hlen:m.length≤12):
 lq Tryz.prog 94 [(vS none 0 0),(Value.func (.func 68) [].toArray [(vP g1)].toArray)] [(gV iV gm (bK dv m)),(bV g1 64 [(Value.map (some gm))])] (fun (x:(List Int)×(OA)×Nat)=>(vS x.2.1 x.1.length x.2.2)) (fun (x:(List Int)×(OA)×Nat)=>x.1.Perm (m.map (·.1))) (fun (x:(List Int)×(OA)×Nat)=>[(own x.2.1 x.2.2 3 1 (x.1.map iC))]):=by
 refine dj kr Tryz.func94 U U fun X Q hQ hN=>?_
 try dsimp only
 refine WS fun _ AB=>uI U U fun N=>bf 1 U<|RK AB<|ah fun _ J=>WS fun _ K=>rP 1 [] mn ?_
 refine RK K<|av<|ku 1 U (by exact fun _ h=>h)<|ku 3 U (by exact fun _ h=>h)<|fT 3 1 ?_
 refine nG (L0:=[(2,(vP N))]) (F:=[(gV iV gm (bK dv m)).ro,(bV g1 64 [(Value.map (some gm))]).ro]) (fun k (y:(OA)×Nat)=>(∃ zs,(k++zs).Perm (m.map (·.1)))) (fun k y=>[(own y.1 y.2 3 1 (k.map iC)),(bV N 32 [(vS y.1 k.length y.2)]),(gV iV gm (bK dv m)).ro]) (fun _ (_:Unit)=>False) (fun _ _=>[]) [0,3,4] [2,1] (none,0) rfl rfl (Ln m gm g1) rfl rfl rfl (by exact ⟨_,List.Perm.refl _⟩) (by simp only [List.forall_mem_cons,List.not_mem_nil,false_imp_iff,implies_true,and_true]; exact ⟨⟨_,sm,(dD (bO _))⟩,⟨_,sm,(dD (bO _))⟩⟩) (by rintro k x AA ⟨n,zs,_,rfl,_⟩; rfl) rfl (aT rfl) ?_ ?_ (fun _ _ _ h=>h.elim) (fun _ _ h=>h.elim)
 rotate_left 1
 ·rintro V k ⟨a,c⟩ E A
  have B:=A
  try dsimp only at B
  try dsimp only
  refine aG<|KK J<|WS fun _ C=>rP 2 [] (mc 4 U mn) ?_
  refine RK C<|an<|hQ _ _ _ (ou 0 U U<|gU (vs:=[(vS a k.length c)]) ⟨U,trivial⟩ fun w hs=>Kn (k,a,c) [3] ?_ ?_ U U U hs)
  ·rfl
  ·first|exact E|exact hys
 rintro k x AA ⟨a,c⟩ l ra rb S Y K5 Qr6 T hx G L D O P
 obtain ⟨n,zs,hn,rfl,rfl⟩:=hx; have M:=hn.length_eq; simp only [List.length_append,List.length_map,List.length_singleton] at M
 have B:=G
 try dsimp only at B
 try dsimp only
 refine aj<|rP 1 [] mn ?_
 refine aC<|aS (L _ _ ?_)
 refine av<|aj<|rP 2 [] (mc 2 U mn) ?_
 refine cU (xs:=[.tmp 9]) (cs:=[(vI n)]) U cq jd U U U U (by simp [Value.cells]) U U fun W=>?_
 refine db (es2:=(List.map iC (k++[n]))) (m':=(k++[n]).length) 2 U U U pX U U sm (aZ (es:=List.map iC [n]) 0 U U (by simp [bB]) U) (kf _) os (by simp only [maxLen]; omega) sm sm U fun R H=>?_
 try dsimp only
 refine UK U AI U U<|aC<|aG ?_
 exact D (R,H) _ _ (by exact ⟨_,hn⟩) (aH [1,2,3,4])
end
section
open Go.RowKit
theorem EO (m:gX) (gm g1:Nat) (hlen:m.length≤12):
 lq Tryz.prog 67 [(Value.func (.func 68) [].toArray [(vP g1)].toArray)] [(gV iV gm (bK dv m)),(bV g1 64 [(Value.map (some gm))])] (fun (x:(List Int)×(OA)×Nat)=>(vS x.2.1 x.1.length x.2.2)) (fun (x:(List Int)×(OA)×Nat)=>x.1.Perm (m.map (·.1))) (fun (x:(List Int)×(OA)×Nat)=>[(own x.2.1 x.2.2 3 1 (x.1.map iC))]):=by
 refine dj kr Tryz.func67 U U fun AA Q hQ hN=>?_
 try dsimp only
 refine WS fun _ A=>bf 1 U<|RK A<|WS fun _ B=>rP 1 [] mn ?_
 refine cX (GI m gm g1 hlen) (bj [0,1]) U fun H C=>?_
 obtain ⟨E,F,G⟩:=H
 try dsimp only
 have D:=C
 refine rP 1 [] mn ?_
 refine RK B<|an<|LX hQ (E,F,G) [0] [] mn U U U U ?_
 first|exact hfin|exact D
theorem zi (m:gX) (gm g1:Nat) (hlen:m.length≤12):
 lq Tryz.prog 41 [(Value.func (.func 68) [].toArray [(vP g1)].toArray)] [(gV iV gm (bK dv m)),(bV g1 64 [(Value.map (some gm))])] (fun (x:(OA)×Nat)=>(vS x.1 m.length x.2)) (fun (x:(OA)×Nat)=>True) (fun (x:(OA)×Nat)=>[(own x.1 x.2 3 1 ((df (m.map (·.1))).map iC))]):=by
 refine dj kr Tryz.func41 U U fun M Q hQ hN=>?_
 try dsimp only
 refine WS fun _ E=>bf 1 U<|RK E<|WS fun _ F=>rP 1 [] mn ?_
 refine cX (EO m gm g1 hlen) (bj [0,1]) U fun L H=>?_
 obtain ⟨AA,J,K⟩:=L
 try dsimp only
 have D:=H
 refine bf 1 U<|RK F<|WS fun _ G=>rP 1 [] mn ?_
 have B:=D.length_eq
 simp only [List.length_map] at B
 refine iO 0 U U U U (As AA J K sd) U kd U (fun ms C=>?_)
 try dsimp only
 refine RK G<|WS fun _ A=>?_
 obtain rfl:=qE (C.1.trans D) C.2
 skip
 refine rP 2 [] mn ?_
 refine RK A<|an ?_
 refine LX hQ (J,K) [0] [] mn U U U ?_ ?_
 ·first|rfl|(rw [B]; rfl)
 ·trivial
end
section
open Go.RowKit
theorem v7 (l:List Int) (lA:OA) (lC:Nat) (hlen:l.length≤1000000):
 lq Tryz.prog 45 [(vS lA l.length lC)] [(rd lA l.length 1 (l.map iC))] (fun (x:(OA)×Nat)=>(vS x.1 l.length x.2)) (fun (x:(OA)×Nat)=>True) (fun (x:(OA)×Nat)=>[(own x.1 x.2 3 1 (l.map iC))]):=by
 refine dj kr Tryz.func45 U U fun L Q hQ hN=>?_
 try dsimp only
 refine WS fun _ D=>bf 1 U<|RK D<|ah fun _ E=>WS fun _ F=>rP 1 [] mn ?_
 refine rS (BI U (qh Ti))<|RK F<|cy U (aL fun B=>?_) (aM fun B=>?_)
 ·refine WS fun _ G=>mj (aD 0 U) B dc fun C=>?_
  have A:l=[]:=by simpa using C
  refine dH 3 1 ?_
  rw [show (own none 0 3 1 ([]:List (List Value)))=own none 0 3 1 (l.map iC) from by rw [A]; rfl]
  refine rP 1 [] mn ?_
  refine RK G<|an ?_
  refine LX hQ (none,0) [0] [] mn U U U ?_ ?_
  ·first|rfl|(rw [A]; rfl)
  ·trivial
 refine WK E<|WS fun _ H=>t_ U cq U fun J=>rP 1 [] mn ?_
 refine dM (es:=(List.map iC [])) (C':=[own (some ⟨J,0,none⟩) 0 3 1 (List.map iC []),_]) 0 U sm U (by simp [maxLen]) U ?_
 refine db (es2:=(List.map iC l)) (m':=l.length) 0 U U U pX U U sm (aD 1 U) (kf _) os (by first|(simp only [maxLen]; omega)|(simp [maxLen]; omega)) sm sm U fun AA K=>?_
 try dsimp only
 refine rP 1 [] mn ?_
 refine RK H<|an ?_
 refine LX hQ (AA,K) [0] [] mn U U U ?_ ?_
 ·first|rfl|(rw [A]; rfl)
 ·trivial
theorem Bh (l:List Int) (lA:OA) (lC:Nat) (f:Value) (key:Int→Int) (X:aq) (hf: ∀ x0 x1,x0∈l∧x1∈l→DI Tryz.prog f [.int .i64 x0,.int .i64 x1] [X] (.int .i64 (key x0-key x1))) (hkb: ∀ x∈l,0≤key x∧key x≤30000000) (hlen:l.length≤1000000):
 Dr Tryz.prog 127 [(vS lA l.length lC),(vI 0),(vI (l.length:Int)),f] [X] (own lA lC 3 1 (l.map iC)) (fun (x:Unit)=>(vT [])) (fun (x:Unit)=>True) (fun (x:Unit)=>(own lA lC 3 1 ((ep key l).map iC))):=by
 refine mF kr Tryz.func127 U U fun s Q hQ hN=>?_
 try dsimp only
 refine WS fun _ Z=>bf 1 U<|rS (SX (bU (r:= .int .i64 1) U U U (ib ⟨dc,dc⟩)) U U)<|rP 1 [] mn ?_
 refine RK Z<|av ?_
 have C:(1≤1∧(1≤l.length∨1=1))∧(l.length=l.length)∧(1=1∧l=[]∨tJ key l 1 l)∧(∀ x∈l,x∈l):=by exact ⟨I,rfl,HN,fun x h=>h⟩
 refine bH (ι:={z:Nat×(List Int) // (1≤z.1∧(z.1≤l.length∨z.1=1))∧(z.2.length=l.length)∧(z.1=1∧l=[]∨tJ key l z.1 z.2)∧(∀ x∈z.2,x∈l)}) [0,1,2,3] [1] U U (fun z=>[(8,(vI (z.1.1:Int)))]) (fun z=>[(own lA lC 3 1 (z.1.2.map iC))]) (fun _=>rfl) (fun _=>rfl) (fun z=>l.length-z.1.1) ⟨(1,l),C⟩ (aT U) (aH [1,0]) ?_
 clear C
 rintro ⟨⟨i,m⟩,⟨AB,E,F,G⟩⟩ J2 L
 try dsimp only at AB E F G
 try dsimp only
 refine ah fun _ b=>WS fun _ c=>rP 3 [] mn ?_
 refine RK c<|bL U (aM fun p=>?_) (aL fun p=>?_)
 ·refine bu<|ab<|ab<|au ?_
  rw [show m=ep key l from Iz I E F]
  refine LM hN () 1 [] mn U U U U ?_
  trivial
 refine WK b<|ah fun _ N=>av<|WS fun _ d=>rP 2 [] mn ?_
 refine RK d<|av ?_
 have C:(i≤i)∧(m.length=l.length)∧(∀ x∈m,x∈l)∧(Br key l i i m):=by exact ⟨Nat.le_refl _,E,G,Er I (NX I F)⟩
 refine bH (ι:={z:Nat×(List Int) // (z.1≤i)∧(z.2.length=l.length)∧(∀ x∈z.2,x∈l)∧(Br key l i z.1 z.2)}) [0,1,2,3,8] [0] U U (fun z=>[(9,(vI (z.1.1:Int)))]) (fun z=>[(own lA lC 3 1 (z.1.2.map iC))]) (fun _=>rfl) (fun _=>rfl) (fun z=>z.1.1) ⟨(i,m),C⟩ (aT U) (aH [0,1]) ?_
 clear C
 rintro ⟨⟨j,q⟩,⟨J,D,A,B⟩⟩ J8 Y
 try dsimp only at J D A B
 try dsimp only
 refine ah fun _ e=>ah fun _ H=>dA cu 17 kr<|dP 4 [] mn ?_
 refine jh (t:=21) U (aM fun V=>?_) (aL fun V=>?_)
 ·refine lJ 13 U<|cL<|RK H<|aW U<|bu<|ab<|ab<|au<|aG<|KK N<|aj<|rP 3 [] mn ?_
  refine aC ?_
  refine aS (L ⟨((i+1),q),⟨I,D,.inr (by first|exact zn I B|exact yF I B hx hy I),A⟩⟩ _ _ _ U (by simp only []; omega) (aT U) (aH [0,1]))
 refine dP 3 [] mn ?_
 obtain ⟨x,hx⟩:=aJ q j I
 have K:=bG iC hx
 refine dS (IA j U (ai (n:=l.length) 1 U sq) cq dc I I) ?_
 refine dS (fV j 0 (vI x) U bX (ai (n:=q.length) 1 U sm) K U dc U)<|dP 3 [] mn ?_
 obtain ⟨y,hy⟩:=aJ q (j-1) I
 have AA:=bG iC hy
 refine dS (IA (j-1) U (ai (n:=l.length) 1 U sq) cq dc I I) ?_
 refine dS (fV (j-1) 0 (vI y) U bX (ai (n:=q.length) 1 U sm) AA U dc U)<|dS (SX (rQ U U U (hf x y ⟨A _ (aR hx),A _ (aR hy)⟩) (bj [0])) U U)<|dP 2 [] mn ?_
 refine cL<|RK H<|bL U (aM fun W=>?_) (aL fun W=>?_)
 ·refine bu<|ab<|ab<|au<|aG<|KK N<|aj<|rP 3 [] mn ?_
  refine aC ?_
  refine aS (L ⟨((i+1),q),⟨I,D,.inr (by first|exact zn I B|exact yF I B hx hy I),A⟩⟩ _ _ _ U (by simp only []; omega) (aT U) (aH [0,1]))
 refine WK e<|ah fun _ M=>av<|dG cu [15,16,17] [8,9,12,13,14] [] [0] [0,1] U U U U U<|eS U (MV U)<|eS U (MV U)<|eS U (MV U)<|eS U (MV U)<|eS U (BI U (rM ⟨I,I⟩))<|eS U (MV U)<|eS U (MV U)<|eS U (BI U (rM ⟨I,I⟩)) ?_
 refine fS U (IA (j-1) U (ai (n:=l.length) 1 U sq) cq dc I I) ?_
 refine fS U (fV (j-1) 0 (vI y) U bX (ai (n:=q.length) 1 U sm) AA U dc U)<|eS U (MV U)<|eS U (MV U) ?_
 refine fS U (IA j U (ai (n:=l.length) 1 U sq) cq dc I I) ?_
 refine fS U (fV j 0 (vI x) U bX (ai (n:=q.length) 1 U sm) K U dc U) ?_
 refine fS U (IA j U (ai (n:=l.length) 1 U sq) cq dc I I) ?_
 refine eV U<|bY U fun T14 O=>eu (k:=j) (o:=0) (vs:=[(vI y)]) (es':=(List.map iC (q.set j y))) (C':=[_,(own lA lC 3 1 (List.map iC (q.set j y)))]) 1 U U U Cg U U U U K U dc (by exact (List.map_set (f:=iC) (l:=q) (i:=j) (a:=y)).symm) U<|aC (O _ _ (aH [0]) ?_)
 refine bY U fun T15 P=>?_
 obtain ⟨g,T⟩:=aJ (q.set j y) (j-1) os
 have hx17m:(List.map iC (q.set j y))[(j-1)]? =some (iC g):=by rw [fq,T]; rfl
 refine rS (IA (j-1) U (ai (n:=l.length) 1 U sq) cq dc I I) ?_
 refine aC (P _ _ (aH [0]) ?_)
 refine bY U fun T18 R=>eu (k:=(j-1)) (o:=0) (vs:=[(vI x)]) (es':=(List.map iC ((q.set j y).set (j-1) x))) (C':=[_,(own lA lC 3 1 (List.map iC ((q.set j y).set (j-1) x)))]) 1 U U U Cg U U U U hx17m U dc (by exact (List.map_set (f:=iC) (l:=(q.set j y)) (i:=(j-1)) (a:=x)).symm) U<|aC (R _ _ (aH [0]) ?_)
 refine fF U<|aG<|KK M<|aj<|rP 3 [] mn ?_
 refine aC ?_
 have S:(vI (((j-1):Nat):Int))=(vI ((j:Int)-1)):=by exact cI I
 refine aS (Y ⟨((j-1),((q.set j y).set (j-1) x)),⟨I,by simp; exact D,JY hx hy A,Hf I B hx hy I⟩⟩ _ _ _ U (by simp only []; omega) (ct 5<|aX U S<|dh.nil _) (aH [0,1]))
theorem Jl (l:List Int) (lA:OA) (lC:Nat) (f:Value) (key:Int→Int) (X:aq) (hf: ∀ x0 x1,x0∈l∧x1∈l→DI Tryz.prog f [.int .i64 x0,.int .i64 x1] [X] (.int .i64 (key x0-key x1))) (hkb: ∀ x∈l,0≤key x∧key x≤30000000) (hlen:l.length≤12):
 Dr Tryz.prog 98 [(vS lA l.length lC),(vI (l.length:Int)),f] [X] (own lA lC 3 1 (l.map iC)) (fun (x:Unit)=>(vT [])) (fun (x:Unit)=>True) (fun (x:Unit)=>(own lA lC 3 1 ((ep key l).map iC))):=by
 refine mF kr Tryz.func98 U U fun N Q hQ hN=>?_
 try dsimp only
 refine WS fun _ C=>bf 1 U<|RK C<|WS fun _ D=>bf 3 U<|RK D<|ah fun _ E=>av<|jQ 1<|ed fun R4 M=>ah fun _ L=>WS fun _ F=>rP 3 [] mn ?_
 refine RK F<|cy U (aL fun K=>?_) (aM fun K=>?_)
 ·exfalso; omega
 refine bu<|ab<|ab<|au<|KK E<|WS fun _ G=>rP 4 [] mn ?_
 refine iO 0 U U U U (Bh l lA lC f key X (by exact hf) hkb sd) U (dR 1 U U (dD (bO _)) kd) U (fun O J=>?_)
 try dsimp only
 refine RK G<|av<|jQ 1<|ed fun R11 AA=>ah fun _ H=>WS fun _ A=>rP 3 [] mn ?_
 refine RK A<|cy U (aL fun B=>?_) (aM fun B=>?_)
 ·exfalso; omega
 refine bu<|ab<|ab<|au<|LM hN () 0 [] mn U U U U ?_
 trivial
theorem zV (l:List Int) (lA:OA) (lC:Nat) (f:Value) (key:Int→Int) (X:aq) (hf: ∀ x0 x1,x0∈l∧x1∈l→DI Tryz.prog f [.int .i64 x0,.int .i64 x1] [X] (.int .i64 (key x0-key x1))) (hkb: ∀ x∈l,0≤key x∧key x≤30000000) (hlen:l.length≤12):
 Dr Tryz.prog 73 [(vS lA l.length lC),f] [X] (own lA lC 3 1 (l.map iC)) (fun (x:Unit)=>(vT [])) (fun (x:Unit)=>True) (fun (x:Unit)=>(own lA lC 3 1 ((ep key l).map iC))):=by
 refine mF kr Tryz.func73 U U fun B Q hQ hN=>?_
 try dsimp only
 refine aj<|rP 4 [] mn ?_
 refine iO 0 U U U U (Jl l lA lC f key X (by exact hf) hkb hlen) U (dR 1 U U (dD (bO _)) kd) U (fun C A=>?_)
 try dsimp only
 refine aC<|LM hN () 0 [] mn U U U U ?_
 trivial
theorem ze (l:List Int) (lA:OA) (lC:Nat) (f:Value) (key:Int→Int) (X:aq) (hf: ∀ x0 x1,x0∈l∧x1∈l→DI Tryz.prog f [.int .i64 x0,.int .i64 x1] [X] (.int .i64 (key x0-key x1))) (hkb: ∀ x∈l,0≤key x∧key x≤30000000) (hlen:l.length≤12):
 lq Tryz.prog 47 [(vS lA l.length lC),f] [(rd lA l.length 1 (l.map iC)),X] (fun (x:(OA)×Nat)=>(vS x.1 ((ep key l).length) x.2)) (fun (x:(OA)×Nat)=>True) (fun (x:(OA)×Nat)=>[(own x.1 x.2 3 1 ((ep key l).map iC))]):=by
 refine dj kr Tryz.func47 U U fun J Q hQ hN=>?_
 try dsimp only
 refine WS fun _ B=>bf 1 U<|RK B<|WS fun _ C=>rP 1 [] mn ?_
 refine cX (v7 l lA lC sd) (bj [0]) U fun AA G=>?_
 obtain ⟨E,F⟩:=AA
 try dsimp only
 refine bf 1 U<|RK C<|WS fun _ D=>rP 2 [] mn ?_
 refine iO 0 U U U U (zV l E F f key X (by exact hf) hkb hlen) U (dR 2 U U (dD (bO _)) kd) U (fun K H=>?_)
 try dsimp only
 refine RK D<|WS fun _ A=>rP 2 [] mn ?_
 refine RK A<|an ?_
 refine LX hQ (E,F) [0] [] mn U U U ?_ ?_
 ·first|rfl|(rw [kx]; rfl)
 ·trivial
theorem GC (l:List Int) (lA:OA) (lC k:Nat) (hk:k≤l.length) (hlen:l.length≤1000000):
 Dr Tryz.prog 49 [(vS lA k lC)] [] (own lA lC 3 1 (l.map iC)) (fun (x:Unit)=>(vT [])) (fun (x:Unit)=>True) (fun (x:Unit)=>(own lA lC 3 1 ((rF k l).map iC))):=by
 refine mF kr Tryz.func49 U U fun V Q hQ hN=>?_
 try dsimp only
 refine WS fun _ J=>rP 5 [] mn ?_
 refine RK J<|av ?_
 have B:(0≤k)∧(GY l k 0 l):=by exact ⟨Nat.zero_le _,Mk⟩
 have P:(vI ((k:Int)-1-(0:Int)))=(vI ((k:Int)-1)):=by exact cI I
 refine bH (ι:={z:Nat×(List Int) // (z.1≤k)∧(GY l k z.1 z.2)}) [0] [] U U (fun z=>[(2,(vI (z.1.1:Int))),(3,(vI ((k:Int)-1-(z.1.1:Int))))]) (fun z=>[(own lA lC 3 1 (z.1.2.map iC))]) (fun _=>rfl) (fun _=>rfl) (fun z=>k-z.1.1) ⟨(0,l),B⟩ (dh.cons U<|aX U P<|dh.nil _) (aH [0]) ?_
 clear B
 rintro ⟨⟨i,m⟩,⟨C,A⟩⟩ J3 AB
 try dsimp only at C A
 try dsimp only
 have AA:=A.1
 refine ah fun _ K=>WS fun _ L=>rP 3 [] mn ?_
 refine RK L<|bL U (aM fun T=>?_) (aL fun T=>?_)
 ·refine bu<|ab<|ab<|au ?_
  rw [show m=rF k l from MQ hk I A]
  refine LM hN () 0 [] mn U U U U ?_
  trivial
 refine WK K<|ah fun _ M=>av<|dG cu [13,14,15] [6,7,10,11,12] [] [] [0] U U U U U<|eS U (MV U)<|eS U (MV U)<|eS U (MV U)<|eS U (MV U)<|eS U (MV U)<|eS U (MV U) ?_
 obtain ⟨y,hy⟩:=aJ m ((((k:Int)-1-(i:Int))).toNat) I
 have R:=bG iC hy
 refine fS U (SS ((((k:Int)-1-(i:Int))).toNat) U (ai (n:=m.length) 0 U sm) cq dc I I I)<|fS U (fV ((((k:Int)-1-(i:Int))).toNat) 0 (vI y) U bX (ai (n:=m.length) 0 U sm) R U dc U)<|eS U (MV U)<|eS U (MV U) ?_
 obtain ⟨x,hx⟩:=aJ m i I
 have H:=bG iC hx
 refine fS U (SS i U (ai (n:=m.length) 0 U sm) cq dc I I I)<|fS U (fV i 0 (vI x) U bX (ai (n:=m.length) 0 U sm) H U dc U)<|fS U (SS i U (ai (n:=m.length) 0 U sm) cq dc I I I)<|eV U<|bY U fun T8 N=>eu (k:=i) (o:=0) (vs:=[(vI y)]) (es':=(List.map iC (m.set i y))) (C':=[(own lA lC 3 1 (List.map iC (m.set i y)))]) 0 U U U Cg U U U U H U dc (by exact (List.map_set (f:=iC) (l:=m) (i:=i) (a:=y)).symm) U<|aC (N _ _ (aH []) ?_)
 refine bY U fun T9 O=>?_
 obtain ⟨S,G⟩:=aJ (m.set i y) ((((k:Int)-1-(i:Int))).toNat) os
 have hx11m:(List.map iC (m.set i y))[(((k:Int)-1-(i:Int))).toNat]? =some (iC S):=by rw [fq,G]; rfl
 refine rS (SS ((((k:Int)-1-(i:Int))).toNat) U (ai (n:=(m.set i y).length) 0 U sm) cq dc I I (by simp; omega)) ?_
 refine aC (O _ _ (aH []) ?_)
 refine bY U fun T12 D=>eu (k:=(((k:Int)-1-(i:Int))).toNat) (o:=0) (vs:=[(vI x)]) (es':=(List.map iC ((m.set i y).set ((((k:Int)-1-(i:Int))).toNat) x))) (C':=[(own lA lC 3 1 (List.map iC ((m.set i y).set ((((k:Int)-1-(i:Int))).toNat) x)))]) 0 U U U Cg U U U U hx11m U dc (by exact (List.map_set (f:=iC) (l:=(m.set i y)) (i:=(((k:Int)-1-(i:Int))).toNat) (a:=x)).symm) U<|aC (D _ _ (aH []) ?_)
 refine fF U<|aG<|KK M<|aj<|rP 6 [] mn ?_
 refine aC ?_
 have E:(vI (((i+1):Nat):Int))=(vI ((i:Int)+1)):=by exact cI I
 have F:(vI ((k:Int)-1-(((i+1):Nat):Int)))=(vI (((k:Int)-1-(i:Int))-1)):=by exact cI I
 refine aS (AB ⟨((i+1),((m.set i y).set ((((k:Int)-1-(i:Int))).toNat) x)),⟨I,Lx hk I I A hx hy⟩⟩ _ _ _ U os (dh.cons U<|aX U E<|aX U F<|dh.nil _) (aH [0]))
end
section
open Go.RowKit
theorem I2 (a b:Int) (r:bT) (kA:OA) (kC:Nat) (cA:OA) (cC:Nat) (bA:OA) (bC:Nat) (slA:OA) (slC:Nat) (drA:OA) (drC:Nat) (heA:OA) (heC:Nat) (tA:OA) (tN tC:Nat) (gs gw:Nat) (m:gX) (g1:Nat) (hb: ∀ p∈m,0≤p.2.Lo∧p.2.Lo≤p.2.Hi∧p.2.Hi≤30000000):
 dT Tryz.prog 50 [(vI a),(vI b),(vP g1)] [(bV gw 91 (fH.cells (fH.mk (oF r kA kC cA cC bA bC slA slC drA drC heA heC) (br.mk tA tN tC) (Value.map (some gs))))),(gV iV gs (bK dv m)),(bV g1 81 [(vP gw)])] (vI ((aA m a).Lo-(aA m b).Lo)):=by
 have A:=gK (i:=a) hb
 have B:=gK (i:=b) hb
 refine bx kr Tryz.func50 U U fun E Q hQ hN=>?_
 try dsimp only
 refine WS fun _ C=>bf 1 U<|RK C<|ah fun _ D=>dA cu 16 kr<|mJ 1 [] (mr 2 U mn) U<|dS (SX (bI U U) U U)<|mJ 3 [] (mr 0 U mn) U<|dS (SX (jU (kV:=iV) (x:=a) (l:=m) (f:=dv) (z:=(aa.mk 0 0)) U U U l7 (dC oG) vC (by exact j4 1 U)) U U)<|dS (SX (kR (v:=(vI (((List.lookup a m).getD (aa.mk 0 0)).Lo))) U U fu zX U) U U)<|mJ 1 [] (mr 2 U mn) U<|dS (SX (bI U U) U U)<|dP 3 [] (mr 0 U mn) ?_
 refine dS (SX (jU (kV:=iV) (x:=b) (l:=m) (f:=dv) (z:=(aa.mk 0 0)) U U U l7 (dC oG) vC (by exact j4 1 U)) U U)<|dS (SX (kR (v:=(vI (((List.lookup b m).getD (aa.mk 0 0)).Lo))) U U fu zX U) U U) ?_
 unfold aA at A B
 simp only [dw] at A B
 refine dP 2 [] mn ?_
 refine cL<|RK D<|an ?_
 exact Q1 hQ U U U U
theorem zS (r:bT) (kA:OA) (kC:Nat) (az:List RA) (cA:OA) (cC:Nat) (bA:OA) (bC:Nat) (slA:OA) (slC:Nat) (drA:OA) (drC:Nat) (ha:List cO) (heA:OA) (heC:Nat) (hin:e9 r az ha):
 lq Tryz.prog 21 [(vA (cw.cells (oF r kA kC cA cC bA bC slA slC drA drC heA heC)))] [(rd eX 3 2 dY),(rd kA r.ao.aP.length 9 (r.ao.aP.map al.cells)),(rd cA r.ao.ak.length 2 (List.zipWith ar.cells r.ao.ak az)),(eW (aV ar.gZ r.ao.ak az)),(rd bA r.ao.ae.length 4 (r.ao.ae.map bD.cells)),(rd slA r.aQ.length 1 (r.aQ.map iC)),(rd drA r.bQ.length 1 (r.bQ.map iC)),(rd heA r.ay.length 1 (List.zipWith cP r.ay ha)),(eW (aV iq r.ay ha))] (fun (x:(List RA)×(OA)×Nat)=>(vT [(vS x.2.1 ((cd r).length) x.2.2),(vI (cK r))])) (fun (x:(List RA)×(OA)×Nat)=>x.1.length=(cd r).length) (fun (x:(List RA)×(OA)×Nat)=>[(own x.2.1 x.2.2 32 1 (List.zipWith lW (cd r) x.1)),(bw (aV sE (cd r) x.1))]):=by
 have Ar:=hin.line
 have BI:=hin.iM
 have BJ:=hin.has
 have A3:=hin.iL
 have A0:=hin.draw
 have A4:=dB (r:=r)
 refine dj kr Tryz.func21 U U fun w0 Q hQ hN=>?_
 try dsimp only
 refine WS fun _ Am=>fK U fun b2=>bf 2 U<|RK Am<|WS fun _ AC=>rP 1 [] (mc 0 U mn) ?_
 refine cX (n9 r kA kC az cA cC bA bC slA slC drA drC ha heA heC hin) (bj [1,2,3,4,5,6,7,8,9]) U fun y4 Ad=>?_
 obtain ⟨Ae,BF,X,O,Af,W,A8⟩:=y4
 cases Ae
 ·obtain ⟨Aa,he⟩:=Ad.2 rfl
  try dsimp only at Aa he
  subst Aa
  try dsimp only [cond_true,cond_false,List.cons_append,List.nil_append]
  refine bf 3 U<|AL U Rf fun A_=>H8 U SR U U<|bf 1 U<|RK AC<|ah fun _ Az=>WS fun _ p=>rP 2 [] mn ?_
  refine RK p<|bL U (bp fun g=>?_) (bq fun g=>?_)
  ·exact absurd g he
  refine WS fun _ s=>rP 1 [] mn ?_
  have E:cd r=[]:=Bu he
  have Z:([]:List RA).length=(cd r).length:=by rw [E]; rfl
  refine dH 32 1<|wJ ?_
  rw [show (own none 0 32 1 ([]:List (List Value)))=own none 0 32 1 (List.zipWith lW (cd r) []) from by rw [E]; rfl,show bw []=bw (aV sE (cd r) []) from by rw [E]; rfl]
  refine rP 2 [] mn ?_
  refine RK s<|an ?_
  refine LX hQ ([],none,0) [1,0] [] mn U (by show List.all _ _=true; simp only [fB,List.all_nil,J1,Bool.and_true]; rfl) U ?_ ?_
  ·first|rfl|(rw [E]; rfl)|(rw [he,← E,List.length_map]; rfl)|(rw [he,E]; rfl)
  ·exact Z
 obtain ⟨he,BL⟩:=Ad.1 rfl
 try dsimp only [cond_true,cond_false,List.cons_append,List.nil_append]
 have BN:=nH he
 have A2:=mg he
 refine bf 3 U<|AL U Rf fun R=>H8 U SR U U<|bf 1 U<|RK AC<|ah fun _ t=>WS fun _ v=>bf 1 U<|rS (SX (bU (r:= .bool false) U U U l6) U U)<|RK v<|aW U<|WK t<|WS fun _ w=>bf 1 U<|RK w<|WS fun _ y=>bf 1 U<|RK y<|ah fun _ AA=>WS fun _ AB=>fw 1 [] (mc 0 U mn) U<|rS (SX (bI U U) U U)<|rP 2 [] (mc 1 U mn) ?_
 refine cX (Gq O) (aI) U fun Ai A5=>?_
 try dsimp only
 refine cX (zi (aF r) O Ai sd) (bj [5,0]) U fun Ax A6=>?_
 obtain ⟨Ah,Aj⟩:=Ax
 try dsimp only
 rw [show (aF r).length=(df ((aF r).map (·.1))).length from by rw [gh,List.length_map]]
 refine rS (FU U) ?_
 refine cX (ze (df ((aF r).map (·.1))) Ah Aj (Value.func (.func 50) [].toArray [(vP R)].toArray) (fun u=>(aA (aF r) u).Lo) (eW [(bV X 91 (fH.cells (fH.mk (oF r kA kC cA cC bA bC slA slC drA drC heA heC) (br.mk Af ((cN r).length) W) (Value.map (some O))))),(gV iV O (bK dv (aF r))),(bV R 81 [(vP X)])]) (by intro Av Aw _; exact nm (fi:=[]) (ca:=[(vP R)]) (lX (I2 Av Aw r kA kC cA cC bA bC slA slC drA drC heA heC Af ((cN r).length) W O X (aF r) R (by first|assumption|omega)) (Nb 0 1 2 U U U U U U))) (by exact Tf BN) (by rw [gh,List.length_map]; omega)) (aw (ai (n:=(df ((aF r).map (·.1))).length) 0 U sm)<|aw (lV (Nb 3 6 2 U U U U U U))<|aI) U fun Ay A7=>?_
 obtain ⟨A9,BE⟩:=Ay
 try dsimp only
 have BK:(ep (fun u=>(aA (aF r) u).Lo) (df ((aF r).map (·.1)))).length=(aF r).length:=by rw [kx,gh,List.length_map]
 have Ac:Dy (fun u=>(aA (aF r) u).Lo) (ep (fun u=>(aA (aF r) u).Lo) (df ((aF r).map (·.1)))):=uL
 refine rP 2 [] mn ?_
 refine RK AB<|av<|fT 32 1<|oz ?_
 have H:(0≤(ep (fun u=>(aA (aF r) u).Lo) (df ((aF r).map (·.1)))).length)∧(([]:List RA).length=([]:List (List Int)).length)∧(mq (aA (aF r)) ((ep (fun u=>(aA (aF r) u).Lo) (df ((aF r).map (·.1)))).take 0) ([]:List (List Int)) (-1))∧(-1≤(-1)∧(-1)≤30000000):=by exact ⟨Nat.zero_le _,rfl,FF,I⟩
 refine bH (ι:={z:Nat×(List (List Int))×(List RA)×(OA)×Nat×Int // (z.1≤(ep (fun u=>(aA (aF r) u).Lo) (df ((aF r).map (·.1)))).length)∧(z.2.2.1.length=z.2.1.length)∧(mq (aA (aF r)) ((ep (fun u=>(aA (aF r) u).Lo) (df ((aF r).map (·.1)))).take z.1) z.2.1 z.2.2.2.2.2)∧(-1≤z.2.2.2.2.2∧z.2.2.2.2.2≤30000000)}) [1,4,29,30] [2,3,5,6,7,8,9,11,12,13,14,15,16,17,18,19] U U (fun z=>[(6,(vS z.1.2.2.2.1 z.1.2.1.length z.1.2.2.2.2.1)),(7,(vI z.1.2.2.2.2.2)),(31,(vI (z.1.1:Int)))]) (fun z=>[(bw (aV sE z.1.2.1 z.1.2.2.1)),(own z.1.2.2.2.1 z.1.2.2.2.2.1 32 1 (List.zipWith lW z.1.2.1 z.1.2.2.1))]) (fun _=>rfl) (fun _=>rfl) (fun z=>(ep (fun u=>(aA (aF r) u).Lo) (df ((aF r).map (·.1)))).length-z.1.1) ⟨(0,([]:List (List Int)),([]:List RA),none,0,(-1)),H⟩ (aT U) (aH [2,3,5,6,7,8,9,11,12,13,14,15,16,17,18,19,0,1]) ?_
 clear H
 rintro ⟨⟨i,G,gz,a,c,last⟩,⟨b,C,A,d⟩⟩ J37 T
 try dsimp only at b C A d
 try dsimp only
 have Ao:G.length≤12:=by have:=FQ A; omega
 have BG:(G++[([]:List Int)]).length=G.length+1:=by simp
 have A1:(gz++[((none,0):RA)]).length=gz.length+1:=by simp
 refine WS fun _ AD=>rP 1 [] mn ?_
 refine RK AD<|ah fun _ AE=>bL U (aM fun Ak=>?_) (aL fun Ak=>?_)
 ·refine bu<|ab<|ab<|au<|KK AA<|ah fun _ AO=>ah fun _ AP=>?_
  have Ao:G.length≤12:=by have:=FQ A; omega
  refine aj<|rP 3 [] mn ?_
  refine RK AP<|av ?_
  have H:(0≤G.length):=by exact Nat.zero_le _
  refine bH (ι:={z:Nat // (z≤G.length)}) [1,6,66,67] [0,1,3,4,5,6,7,8,9,10,11,12,13,14,15,17] U U (fun z=>[(68,(vI (z.1:Int)))]) (fun z=>[(bw (aV sE (ny G z.1) gz))]) (fun _=>rfl) (fun _=>rfl) (fun z=>G.length-z.1) ⟨0,H⟩ (aT U) (aH [0,1,3,4,5,6,7,8,9,10,11,12,13,14,15,17,16]) ?_
  clear H
  rintro ⟨j,Ag⟩ J65 h
  try dsimp only
  refine WS fun _ AQ=>rP 1 [] mn ?_
  refine RK AQ<|ah fun _ AR=>bL U (aM fun Al=>?_) (aL fun Al=>?_)
  ·refine bu<|ab<|ab<|au<|KK AO<|ah fun _ AU=>?_
   have Aq:G.length≤j:=by omega
   have Y:=uZ A.ok
   rw [List.take_of_length_le I] at Y
   have E:G.map df=cd r:=qI he (qp Y.1 (qx.trans fx)) Y.2
   have Z:gz.length=(cd r).length:=by rw [← E,List.length_map]; omega
   rw [D2 Aq,E,← KW,E]
   refine aj<|bf 1 U<|rP 2 [] mn ?_
   refine RK AU<|an ?_
   refine LX hQ (gz,a,c) [15,16] [] mn U (by show List.all _ _=true; simp only [fB,List.all_nil,J1,Bool.and_true]; rfl) U ?_ ?_
   ·first|rfl|(rw [E]; rfl)|(rw [he,← E,List.length_map]; rfl)|(rw [he,E]; rfl)
   ·exact Z
  refine WK AR<|ah fun _ AS=>av<|ah fun _ AT=>?_
  obtain ⟨cg,B⟩:=aJ G j I
  obtain ⟨cga,D⟩:=aJ gz j I
  have F:(List.zipWith lW G gz)[j]? =some (lW cg cga):=dy B D
  refine Ea (f:=sE) 16 (G4 B) D U U U ?_
  try dsimp only
  refine aj<|rS (IA j U (ai (n:=G.length) 17 U (iv C)) nT dc I I)<|rS (fV j 0 (vS cga.1 cg.length cga.2) U bX (ai (n:=G.length) 17 U (iv C)) F U dc U)<|bf 1 U<|RK AT<|aj<|rP 1 [] mn ?_
  refine iO 0 U U U U (As cg cga.1 cga.2 (by have:=z5 A (aR B); omega)) U kd U (fun msrt Ab=>?_)
  try dsimp only
  refine aC<|aG<|KK AS<|aj<|rP 2 [] mn ?_
  refine aC ?_
  obtain rfl:=qE Ab.1 Ab.2
  refine MZ (f:=sE) (ms:=ny G j) (m:=df cg) 1 0 (by rw [EU]; omega) D U U U ?_
  rw [EB B]
  have AZ:(vI (((j+1):Nat):Int))=(vI ((j:Int)+1)):=by exact cI I
  refine aS (h ⟨(j+1),(by first|omega|(simp only []; omega))⟩ _ _ _ U os (ct 4<|aX U AZ<|dh.nil _) (aH [1,2,3,4,5,6,7,8,9,10,11,12,13,14,15,16,0]))
 refine WK AE<|ah fun _ BM=>av<|WS fun _ AF=>?_
 obtain ⟨x,hx⟩:=aJ (ep (fun u=>(aA (aF r) u).Lo) (df ((aF r).map (·.1)))) i I
 have Au:=bG iC hx
 refine rS (IA i U (ai (n:=(ep (fun u=>(aA (aF r) u).Lo) (df ((aF r).map (·.1)))).length) 0 U sm) cq dc I I)<|rS (fV i 0 (vI x) U bX (ai (n:=(ep (fun u=>(aA (aF r) u).Lo) (df ((aF r).map (·.1)))).length) 0 U sm) Au U dc U)<|bf 1 U<|RK AF<|WS fun _ AG=>fw 1 [] (mc 2 U mn) U<|rS (SX (bI U U) U U)<|rP 2 [] (mc 3 U mn) ?_
 have At:=gK (i:=x) BN
 refine rP 1 [] mn ?_
 refine rS (SX (jU (kV:=iV) (x:=x) (l:=(aF r)) (f:=dv) (z:=(aa.mk 0 0)) U U U l7 (dC oG) vC (by exact aD 6 U)) U U)<|AL U de fun BA=>fP U cm U<|RK AG<|ah fun _ V=>WS fun _ AH=>?_
 rw [show ((List.lookup x (aF r)).getD (aa.mk 0 0))=(aA (aF r) x) from rfl]
 refine rP 4 [] (mc 0 U mn) ?_
 refine RK AH<|bL U (aM fun N=>?_) (aL fun N=>?_)
 ·refine WK V<|ah fun _ AM=>?_
  have BH:1≤G.length:=FG At.1 A N
  refine aj<|rP 4 [] mn ?_
  refine RK AM<|ah fun _ AN=>?_
  have Ap:(G.length-1)<G.length:=by first|omega|(simp; done)
  obtain ⟨cg,B⟩:=aJ G (G.length-1) I
  obtain ⟨cga,D⟩:=aJ gz (G.length-1) I
  have F:(List.zipWith lW G gz)[(G.length-1)]? =some (lW cg cga):=dy B D
  refine Ea (f:=sE) 17 B D U U U ?_
  try dsimp only
  refine aj<|bf 4 U<|rS (IA (G.length-1) U (ai (n:=G.length) 19 U (iv C)) nT dc I I)<|rS (fV (G.length-1) 0 (vS cga.1 cg.length cga.2) U bX (ai (n:=G.length) 19 U (iv C)) F U dc U)<|rP 1 [] mn ?_
  have An:cg.length≤12:=(List.mem_append.1 (show cg∈G++[[]] from by first|exact aR B|exact List.mem_append_left _ (aR B))).elim (fun q=>by have:=z5 A q; omega) (fun q=>by simp at q; subst q; simp)
  refine cU (xs:=[.tmp 57]) (cs:=[(vI x)]) U cq jd U U U U (by simp [Value.cells]) U U fun BD=>?_
  refine db (es2:=(List.map iC (cg++[x]))) (m':=(cg++[x]).length) 1 U U U pX U U sm (aZ (es:=List.map iC [x]) 0 U U (by simp [bB]) U) (kf _) os (by first|(simp only [maxLen]; omega)|(simp [maxLen]; omega)) sm sm U fun K M=>?_
  try dsimp only
  refine rS (IA (G.length-1) U (ai (n:=G.length) 20 U (iv C)) nT dc I I)<|eu (k:=(G.length-1)) (o:=0) (vs:=[(vS K ((cg++[x]).length) M)]) (es':=(List.zipWith lW (G.set (G.length-1) (cg++[x])) (gz.set (G.length-1) (K,M)))) (C':=[_,_,_,_,_,_,_,_,_,_,_,_,_,_,_,_,_,_,_,_,(own a c 32 1 (List.zipWith lW (G.set (G.length-1) (cg++[x])) (gz.set (G.length-1) (K,M))))]) 20 U U U AI U U U U F U dc (by exact qG (c:=lW) (m:=(cg++[x])) (a:=(K,M))) U<|F2 (f:=sE) (ms:=G) (asl:=gz) (m:=(cg++[x])) (a:=(K,M)) 2 1 I I U U U<|RK AN<|aj<|fw 3 [] (mc 2 U mn) U<|rS (MX U)<|bf 1 U<|aC<|aG<|KK BM<|aj<|rP 2 [] mn ?_
  refine aC ?_
  have AX:(vS a ((G.set (G.length-1) (cg++[x])).length) c)=(vS a G.length c):=by rw [List.length_set]
  have AY:(vI (((i+1):Nat):Int))=(vI ((i:Int)+1)):=by exact cI I
  refine aS (T ⟨((i+1),(G.set (G.length-1) (cg++[x])),(gz.set (G.length-1) (K,M)),a,c,(max last ((aA (aF r) x).Hi))),⟨I,by simp; omega,by first|exact po I hx B A N|exact ot I (fun u _=>(gK (i:=u) BN).2.1) Ac hx B A N,dso⟩⟩ _ _ _ U os (ct 4<|aX U AX<|dh.cons U<|aX U AY<|dh.nil _) (aH [3,4,5,6,7,8,9,10,11,12,13,14,15,16,17,18,0,19]))
 refine aj<|rP 1 [] mn ?_
 refine cU (xs:=[.const (vS none 0 0)]) (cs:=[(vS none 0 0)]) U nT vv U U U U (by simp [Value.cells]) U U fun BB=>?_
 refine db (es2:=(List.zipWith lW (G++[[]]) (gz++[(none,0)]))) (m':=(G++[[]]).length) 19 rfl rfl rfl Vc rfl rfl (iv C).symm (aZ (es:=List.zipWith lW [[]] [(none,0)]) 0 rfl rfl (by intro e he; simp [lW] at he; subst he; rfl) rfl) (ME _ _) I (by simp only [maxLen]; omega) (HH I) (by simp; omega) rfl fun P S=>?_
 try dsimp only
 refine dH 3 1<|Qu (Y':=aV sE (G++[[]]) (gz++[(none,0)])) 19 0 U U (EK I U)<|bf 1 U<|RK V<|WS fun _ AJ=>rP 4 [] mn ?_
 refine RK AJ<|ah fun _ AK=>?_
 have Ap:((G++[[]]).length-1)<(G++[[]]).length:=by first|omega|(simp; done)
 obtain ⟨cg,B⟩: ∃ y_,(G++[[]])[((G++[[]]).length-1)]? =some y_:=⟨(G++[[]])[((G++[[]]).length-1)]'I,eE _⟩
 obtain ⟨cga,D⟩: ∃ y_,(gz++[(none,0)])[((G++[[]]).length-1)]? =some y_:=⟨(gz++[(none,0)])[((G++[[]]).length-1)]'I,eE _⟩
 have F:(List.zipWith lW (G++[[]]) (gz++[(none,0)]))[((G++[[]]).length-1)]? =some (lW cg cga):=dy B D
 refine Ea (f:=sE) 0 B D U U U ?_
 try dsimp only
 refine aj<|rP 4 [] mn ?_
 refine rS (IA ((G++[[]]).length-1) U (ai (n:=(G++[[]]).length) 20 U (iv (by simp; omega))) nT dc I I) ?_
 refine rS (fV ((G++[[]]).length-1) 0 (vS cga.1 cg.length cga.2) U bX (ai (n:=(G++[[]]).length) 20 U (iv (by simp; omega))) F U dc U) ?_
 refine rP 1 [] mn ?_
 have An:cg.length≤12:=(List.mem_append.1 (show cg∈G++[[]] from by first|exact aR B|exact List.mem_append_left _ (aR B))).elim (fun q=>by have:=z5 A q; omega) (fun q=>by simp at q; subst q; simp)
 refine cU (xs:=[.tmp 57]) (cs:=[(vI x)]) U cq jd U U U U (by simp [Value.cells]) U U fun BC=>?_
 refine db (es2:=(List.map iC (cg++[x]))) (m':=(cg++[x]).length) 1 U U U pX U U sm (aZ (es:=List.map iC [x]) 0 U U (by simp [bB]) U) (kf _) os (by first|(simp only [maxLen]; omega)|(simp [maxLen]; omega)) sm sm U fun J L=>?_
 try dsimp only
 refine rS (IA ((G++[[]]).length-1) U (ai (n:=(G++[[]]).length) 21 U (iv (by simp; omega))) nT dc I I) ?_
 refine eu (k:=((G++[[]]).length-1)) (o:=0) (vs:=[(vS J ((cg++[x]).length) L)]) (es':=(List.zipWith lW ((G++[[]]).set ((G++[[]]).length-1) (cg++[x])) ((gz++[(none,0)]).set ((G++[[]]).length-1) (J,L)))) (C':=[_,_,_,_,_,_,_,_,_,_,_,_,_,_,_,_,_,_,_,_,_,(own P S 32 1 (List.zipWith lW ((G++[[]]).set ((G++[[]]).length-1) (cg++[x])) ((gz++[(none,0)]).set ((G++[[]]).length-1) (J,L))))]) 21 U U U AI U U U U F U dc (by exact qG (c:=lW) (m:=(cg++[x])) (a:=(J,L))) U<|F2 (f:=sE) (ms:=(G++[[]])) (asl:=(gz++[(none,0)])) (m:=(cg++[x])) (a:=(J,L)) 2 1 I I U U U<|RK AK<|aj<|fw 3 [] (mc 3 U mn) U<|rS (MX U)<|bf 1 U<|aC<|aG<|KK BM<|aj<|rP 2 [] mn ?_
 refine aC ?_
 have AV:(vS P (((G++[[]]).set ((G++[[]]).length-1) (cg++[x])).length) S)=(vS P ((G++[[]]).length) S):=by rw [List.length_set]
 have AW:(vI (((i+1):Nat):Int))=(vI ((i:Int)+1)):=by exact cI I
 refine aS (T ⟨((i+1),((G++[[]]).set ((G++[[]]).length-1) (cg++[x])),((gz++[(none,0)]).set ((G++[[]]).length-1) (J,L)),P,S,(max last ((aA (aF r) x).Hi))),⟨I,by simp; omega,by first|exact po I hx B A N|exact ot I (fun u _=>(gK (i:=u) BN).2.1) Ac hx B A N,dso⟩⟩ _ _ _ U os (ct 4<|aX U AV<|dh.cons U<|aX U AW<|dh.nil _) (aH [4,5,6,7,8,9,10,11,12,13,14,15,16,17,18,19,0,20]))
end
section
theorem TN.sub {E:eZ} {ops:Array Oper} {Q:cY} {D:List Deferred} {C' C1 C:List aq} {tb rem:List Nat}: ∀ {n:Nat} {L L':List (Nat×Value)},dh L L'→TN E ops D C' C1 (fun L C=>KJ E (Q .normal) D L C) tb n rem L' C→TN E ops D C' C1 (fun L C=>KJ E (Q .normal) D L C) tb n rem L C:=by
 intro n
 cases n with
 |zero=>intro L L' hs h; exact jy hs (fun _ h=>h) h
 |succ n=>intro L L' hs h i hi o ho K hK; exact OW hs (fun _ h=>h) (h i hi o ho K hK)
theorem OE {E:eZ} {ops:Array Oper} {Q:cY} {D:List Deferred} {C' C1 C:List aq} {bs:List Bool} {os:List Oper} {L:List (Nat×Value)} {tb rem:List Nat} {n:Nat} {t:Nat} {b:Bool} (h:L.lookup t=some (.bool b))
 (h1:b=true→p5 E ops D C' C1 (fun L'=>TN E ops D C' C1 (fun L C=>KJ E (Q .normal) D L C) tb n rem L' C) bs os ((t,.bool true)::L)) (h2:b=false→p5 E ops D C' C1 (fun L'=>TN E ops D C' C1 (fun L C=>KJ E (Q .normal) D L C) tb n rem L' C) bs os ((t,.bool false)::L)):
 p5 E ops D C' C1 (fun L'=>TN E ops D C' C1 (fun L C=>KJ E (Q .normal) D L C) tb n rem L' C) bs os L:=by
 have A: ∀ v:Bool,b=v→dh L ((t,.bool v)::L):=fun v hv=>dh.cons (hv▸h) (fun _ _ h=>h)
 cases b
 ·exact p5.mono (fun _ _=>TN.sub) (A _ U) (h2 U)
 ·exact p5.mono (fun _ _=>TN.sub) (A _ U) (h1 U)
theorem Jg {E:eZ} {ops:Array Oper} {Q:cY} {D:List Deferred} {L:List (Nat×Value)} {C1 C2 C:List aq} {t n:Nat} {b:Bool} {bs:List Bool} {os:List Oper} {tb rem:List Nat} (h:L.lookup t=some (.bool b)) (h2:b=false→p5 E ops D C2 C1 (fun L2=>TN E ops D C2 C1 (fun L C=>KJ E (Q .normal) D L C) tb n rem L2 C) bs os ((t,.bool false)::L)) (h1:b=true→p5 E ops D C2 C1 (fun L2=>TN E ops D C2 C1 (fun L C=>KJ E (Q .normal) D L C) tb n rem L2 C) bs os ((t,.bool true)::L)):p5 E ops D C2 C1 (fun L2=>TN E ops D C2 C1 (fun L C=>KJ E (Q .normal) D L C) tb n rem L2 C) bs os L:=OE h h1 h2
end
end Go.Proofs.YtadjgjnicdcjbaaGreatDoor
