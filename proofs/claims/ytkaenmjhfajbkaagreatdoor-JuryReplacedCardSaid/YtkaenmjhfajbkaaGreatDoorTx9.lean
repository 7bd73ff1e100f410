/-
 The statement juryReplaced_said, part 9 of 9: Replaced0.
 Conditions: none.
-/
import Derived.Test.YtkaenmjhfajbkaaGreatDoorTx1
import Derived.Test.YtkaenmjhfajbkaaGreatDoorTx2
import Derived.Test.YtkaenmjhfajbkaaGreatDoorTx3
import Derived.Test.YtkaenmjhfajbkaaGreatDoorTx4
import Derived.Test.YtkaenmjhfajbkaaGreatDoorTx5
import Derived.Test.YtkaenmjhfajbkaaGreatDoorTx6
import Derived.Test.YtkaenmjhfajbkaaGreatDoorTx7
import Derived.Test.YtkaenmjhfajbkaaGreatDoorTx8
import Derived.Test.YtkaenmjhfajbkaaGreatDoorCards
import Derived.Test.YtkaenmjhfajbkaaGreatDoorTie
import Derived.SevenTiedAt
import Derived.LaidMore
import Derived.Stop.Joined
import Derived.Test.YtkaenmjhfajbkaaGreatDoorRows
import Derived.Test.YtkaenmjhfajbkaaGreatDoorProg
import Derived.KernelRfl
namespace Go.Proofs.YtkaenmjhfajbkaaGreatDoor
set_option maxRecDepth 100000
set_option maxHeartbeats 4000000
set_option linter.unusedVariables false
section
open Go.ChangeShapes Go.WideShapes Go.ChangeAt Go.RowKit
theorem Ui:Tryz.prog.cellsOf 36=15:=by kernel_rfl
theorem Ti:Tryz.prog.cellsOf 32=11:=by kernel_rfl
theorem Ss:Tryz.prog.cellsOf 28=7:=by kernel_rfl
theorem RC:Tryz.prog.cellsOf 24=1:=by kernel_rfl
theorem UI:Tryz.prog.cellsOf 22=1:=by kernel_rfl
theorem OQ:Tryz.prog.cellsOf 128=9:=by kernel_rfl
theorem vb:Tryz.prog.cellsOf 3=1:=by kernel_rfl
def tR (w:World) (n:Int):Prop:=qT n
theorem vc:qQ Tryz.prog 3 Int iC tR:=Pd qu
theorem Ex:Tryz.prog.cellsOf 38=2:=by kernel_rfl
structure DI (w:World) (s:ai):Prop where
 Lo:tR w s.Lo
 Hi:tR w s.Hi
theorem U5:fL Tryz.prog 38=some [(3,0),(3,1)]:=by kernel_rfl
theorem Gp:qQ Tryz.prog 38 ai ai.cells DI:=fun {H} enc w base sp A fuel cs x h=>by
 obtain ⟨hl,hp⟩:=iK U5 h
 obtain ⟨M,O,F⟩:=hp 0 3 0 rfl
 obtain ⟨K,B,AA⟩:=vc _ _ _ _ _ _ _ _ F
 obtain ⟨N,P,G⟩:=hp 1 3 1 rfl
 obtain ⟨L,C,J⟩:=vc _ _ _ _ _ _ _ _ G
 refine ⟨⟨K,L⟩,?_,⟨AA,J⟩⟩
 have E:=gn (hl.trans Ex) (by rw [vb]) C
 have D:=cM B (m:=1) (by rw [vb]) E
 exact D
theorem VG:Tryz.prog.cellsOf 5=1:=by kernel_rfl
def Ue (w:World) (n:Int):Prop:=0≤n∧n≤255
theorem VJ:qQ Tryz.prog 5 Int Io Ue:=Tm HT
structure IB (w:World) (s:au):Prop where
 Id:tR w s.Id
 jM:DI w s.jM
 kK:DI w s.kK
 ed:DI w s.ed
 iW:Ue w s.iW
 xO:tR w s.xO
theorem RP:fL Tryz.prog 128=some [(3,0),(38,1),(38,3),(38,5),(5,7),(3,8)]:=by kernel_rfl
theorem SM:qQ Tryz.prog 128 au au.cells IB:=fun {H} enc w base sp A fuel cs x h=>by
 obtain ⟨hl,hp⟩:=iK RP h
 obtain ⟨g,o,O⟩:=hp 0 3 0 rfl
 obtain ⟨a,B,AA⟩:=vc _ _ _ _ _ _ _ _ O
 obtain ⟨i,p,P⟩:=hp 1 38 1 rfl
 obtain ⟨b,C,V⟩:=Gp _ _ _ _ _ _ _ _ P
 obtain ⟨j,q,Q⟩:=hp 2 38 3 rfl
 obtain ⟨c,D,W⟩:=Gp _ _ _ _ _ _ _ _ Q
 obtain ⟨k,r,R⟩:=hp 3 38 5 rfl
 obtain ⟨d,E,X⟩:=Gp _ _ _ _ _ _ _ _ R
 obtain ⟨l,s,S⟩:=hp 4 5 7 rfl
 obtain ⟨e,F,Y⟩:=VJ _ _ _ _ _ _ _ _ S
 obtain ⟨n,t,T⟩:=hp 5 3 8 rfl
 obtain ⟨f,G,Z⟩:=vc _ _ _ _ _ _ _ _ T
 refine ⟨⟨a,b,c,d,e,f⟩,?_,⟨AA,V,W,X,Y,Z⟩⟩
 have N:=gn (hl.trans OQ) (by rw [vb]) G
 have M:=cM F (m:=8) (by rw [VG]) N
 have L:=cM E (m:=7) (by rw [Ex]) M
 have K:=cM D (m:=5) (by rw [Ex]) L
 have J:=cM C (m:=3) (by rw [Ex]) K
 have AB:=cM B (m:=1) (by rw [vb]) J
 exact AB
def Tg (w:World) (s:bE):Prop:= ∃ l:List au,s.n=l.length∧(rd s.a l.length 9 (l.map au.cells)).holds w∧(∀ x∈l,IB w x)∧l.length≤maxLen∧s.n≤s.c
theorem Vs:qQ Tryz.prog 22 bE (fun s=>[vS s.a s.n s.c]) Tg:=kU O9 OQ SM
structure Sk (w:World) (s:bL):Prop where
 kz:Tg w s.kz
theorem UF:fL Tryz.prog 24=some [(22,0)]:=by kernel_rfl
theorem Vv:qQ Tryz.prog 24 bL bL.cells Sk:=fun {H} enc w base sp A fuel cs x h=>by
 obtain ⟨hl,hp⟩:=iK UF h
 obtain ⟨G,AA,D⟩:=hp 0 22 0 rfl
 obtain ⟨F,B,E⟩:=Vs _ _ _ _ _ _ _ _ D
 refine ⟨⟨F⟩,?_,⟨E⟩⟩
 have C:=gn (hl.trans RC) (by rw [UI]) B
 exact C
theorem UW:Tryz.prog.cellsOf 25=1:=by kernel_rfl
theorem Og:Tryz.prog.cellsOf 133=2:=by kernel_rfl
theorem TU:Tryz.prog.cellsOf 131=1:=by kernel_rfl
theorem Oi:Tryz.prog.cellsOf 130=3:=by kernel_rfl
structure H8 (w:World) (s:ct):Prop where
 At:tR w s.At
 dZ:DI w s.dZ
theorem Rr:fL Tryz.prog 130=some [(3,0),(38,1)]:=by kernel_rfl
theorem TI:qQ Tryz.prog 130 ct ct.cells H8:=fun {H} enc w base sp A fuel cs x h=>by
 obtain ⟨hl,hp⟩:=iK Rr h
 obtain ⟨M,O,F⟩:=hp 0 3 0 rfl
 obtain ⟨K,B,AA⟩:=vc _ _ _ _ _ _ _ _ F
 obtain ⟨N,P,G⟩:=hp 1 38 1 rfl
 obtain ⟨L,C,J⟩:=Gp _ _ _ _ _ _ _ _ G
 refine ⟨⟨K,L⟩,?_,⟨AA,J⟩⟩
 have E:=gn (hl.trans Oi) (by rw [Ex]) C
 have D:=cM B (m:=1) (by rw [vb]) E
 exact D
def OK (w:World) (s:bE):Prop:= ∃ l:List ct,s.n=l.length∧(rd s.a l.length 3 (l.map ct.cells)).holds w∧(∀ x∈l,H8 w x)∧l.length≤maxLen∧s.n≤s.c
theorem S7:qQ Tryz.prog 131 bE (fun s=>[vS s.a s.n s.c]) OK:=kU OO Oi TI
structure Ku (w:World) (s:dk):Prop where
 dw:tR w s.dw
 bB:OK w s.bB
theorem SP:fL Tryz.prog 133=some [(3,0),(131,1)]:=by kernel_rfl
theorem Rl:qQ Tryz.prog 133 dk dk.cells Ku:=fun {H} enc w base sp A fuel cs x h=>by
 obtain ⟨hl,hp⟩:=iK SP h
 obtain ⟨M,O,F⟩:=hp 0 3 0 rfl
 obtain ⟨K,B,AA⟩:=vc _ _ _ _ _ _ _ _ F
 obtain ⟨N,P,G⟩:=hp 1 131 1 rfl
 obtain ⟨L,C,J⟩:=S7 _ _ _ _ _ _ _ _ G
 refine ⟨⟨K,L⟩,?_,⟨AA,J⟩⟩
 have E:=gn (hl.trans Og) (by rw [TU]) C
 have D:=cM B (m:=1) (by rw [vb]) E
 exact D
def TQ (w:World) (s:bE):Prop:= ∃ l:List dk,s.n=l.length∧(rd s.a l.length 2 (l.map dk.cells)).holds w∧(∀ x∈l,Ku w x)∧l.length≤maxLen∧s.n≤s.c
theorem UD:qQ Tryz.prog 25 bE (fun s=>[vS s.a s.n s.c]) TQ:=kU Sj Og Rl
theorem U9:Tryz.prog.cellsOf 26=1:=by kernel_rfl
theorem ON:Tryz.prog.cellsOf 137=4:=by kernel_rfl
theorem O0:Tryz.prog.cellsOf 135=3:=by kernel_rfl
structure OT (w:World) (s:cH):Prop where
 bH:tR w s.bH
 lX:DI w s.lX
theorem RL:fL Tryz.prog 135=some [(3,0),(38,1)]:=by kernel_rfl
theorem S0:qQ Tryz.prog 135 cH cH.cells OT:=fun {H} enc w base sp A fuel cs x h=>by
 obtain ⟨hl,hp⟩:=iK RL h
 obtain ⟨M,O,F⟩:=hp 0 3 0 rfl
 obtain ⟨K,B,AA⟩:=vc _ _ _ _ _ _ _ _ F
 obtain ⟨N,P,G⟩:=hp 1 38 1 rfl
 obtain ⟨L,C,J⟩:=Gp _ _ _ _ _ _ _ _ G
 refine ⟨⟨K,L⟩,?_,⟨AA,J⟩⟩
 have E:=gn (hl.trans O0) (by rw [Ex]) C
 have D:=cM B (m:=1) (by rw [vb]) E
 exact D
structure Lj (w:World) (s:bK):Prop where
 lf:OT w s.lf
 jL:tR w s.jL
theorem Sc:fL Tryz.prog 137=some [(135,0),(3,3)]:=by kernel_rfl
theorem SA:qQ Tryz.prog 137 bK bK.cells Lj:=fun {H} enc w base sp A fuel cs x h=>by
 obtain ⟨hl,hp⟩:=iK Sc h
 obtain ⟨M,O,F⟩:=hp 0 135 0 rfl
 obtain ⟨K,B,AA⟩:=S0 _ _ _ _ _ _ _ _ F
 obtain ⟨N,P,G⟩:=hp 1 3 3 rfl
 obtain ⟨L,C,J⟩:=vc _ _ _ _ _ _ _ _ G
 refine ⟨⟨K,L⟩,?_,⟨AA,J⟩⟩
 have E:=gn (hl.trans ON) (by rw [vb]) C
 have D:=cM B (m:=3) (by rw [O0]) E
 exact D
def TB (w:World) (s:bE):Prop:= ∃ l:List bK,s.n=l.length∧(rd s.a l.length 4 (l.map bK.cells)).holds w∧(∀ x∈l,Lj w x)∧l.length≤maxLen∧s.n≤s.c
theorem Uz:qQ Tryz.prog 26 bE (fun s=>[vS s.a s.n s.c]) TB:=kU NC ON SA
structure Sr (w:World) (s:cm):Prop where
 aO:Sk w s.aO
 hU:tR w s.hU
 aj:TQ w s.aj
 ab:TB w s.ab
 cd:tR w s.cd
 fK:tR w s.fK
 dC:tR w s.dC
theorem U7:fL Tryz.prog 28=some [(24,0),(3,1),(25,2),(26,3),(3,4),(3,5),(3,6)]:=by kernel_rfl
theorem Un:qQ Tryz.prog 28 cm cm.cells Sr:=fun {H} enc w base sp A fuel cs x h=>by
 obtain ⟨hl,hp⟩:=iK U7 h
 obtain ⟨n,u,Q⟩:=hp 0 24 0 rfl
 obtain ⟨e,B,X⟩:=Vv _ _ _ _ _ _ _ _ Q
 obtain ⟨o,v,R⟩:=hp 1 3 1 rfl
 obtain ⟨f,C,Y⟩:=vc _ _ _ _ _ _ _ _ R
 obtain ⟨p,y,S⟩:=hp 2 25 2 rfl
 obtain ⟨g,D,Z⟩:=UD _ _ _ _ _ _ _ _ S
 obtain ⟨q,z,T⟩:=hp 3 26 3 rfl
 obtain ⟨i,E,a⟩:=Uz _ _ _ _ _ _ _ _ T
 obtain ⟨r,y4,AA⟩:=hp 4 3 4 rfl
 obtain ⟨j,F,b⟩:=vc _ _ _ _ _ _ _ _ AA
 obtain ⟨s,y5,V⟩:=hp 5 3 5 rfl
 obtain ⟨k,G,c⟩:=vc _ _ _ _ _ _ _ _ V
 obtain ⟨t,y6,W⟩:=hp 6 3 6 rfl
 obtain ⟨l,AB,d⟩:=vc _ _ _ _ _ _ _ _ W
 refine ⟨⟨e,f,g,i,j,k,l⟩,?_,⟨X,Y,Z,a,b,c,d⟩⟩
 have P:=gn (hl.trans Ss) (by rw [vb]) AB
 have O:=cM G (m:=6) (by rw [vb]) P
 have N:=cM F (m:=5) (by rw [vb]) O
 have M:=cM E (m:=4) (by rw [U9]) N
 have L:=cM D (m:=3) (by rw [UW]) M
 have K:=cM C (m:=2) (by rw [vb]) L
 have J:=cM B (m:=1) (by rw [RC]) K
 exact J
theorem TE:Tryz.prog.cellsOf 29=1:=by kernel_rfl
def PO (w:World) (s:bE):Prop:= ∃ l:List Int,s.n=l.length∧(rd s.a l.length 1 (l.map iC)).holds w∧(∀ x∈l,tR w x)∧l.length≤maxLen∧s.n≤s.c
theorem Sq:qQ Tryz.prog 29 bE (fun s=>[vS s.a s.n s.c]) PO:=kU Rd vb vc
theorem Uw:Tryz.prog.cellsOf 30=1:=by kernel_rfl
theorem Vq:Tryz.prog.cellsOf 75=1:=by kernel_rfl
theorem TG:Tryz.prog.cellsOf 43=7:=by kernel_rfl
theorem VP:Tryz.prog.cellsOf 4=1:=by kernel_rfl
def UR (w:World) (n:Bool):Prop:=True
theorem VL:qQ Tryz.prog 4 Bool (fun b=>[vB b]) UR:=M1 T3
theorem S4:Tryz.prog.cellsOf 41=3:=by kernel_rfl
theorem Uf:Tryz.prog.cellsOf 39=1:=by kernel_rfl
theorem OY:Tryz.prog.cellsOf 113=2:=by kernel_rfl
structure Fe (w:World) (s:aF):Prop where
 fI:tR w s.fI
 Read:tR w s.Read
theorem SI:fL Tryz.prog 113=some [(3,0),(3,1)]:=by kernel_rfl
theorem Th:qQ Tryz.prog 113 aF aF.cells Fe:=fun {H} enc w base sp A fuel cs x h=>by
 obtain ⟨hl,hp⟩:=iK SI h
 obtain ⟨M,O,F⟩:=hp 0 3 0 rfl
 obtain ⟨K,B,AA⟩:=vc _ _ _ _ _ _ _ _ F
 obtain ⟨N,P,G⟩:=hp 1 3 1 rfl
 obtain ⟨L,C,J⟩:=vc _ _ _ _ _ _ _ _ G
 refine ⟨⟨K,L⟩,?_,⟨AA,J⟩⟩
 have E:=gn (hl.trans OY) (by rw [vb]) C
 have D:=cM B (m:=1) (by rw [vb]) E
 exact D
def Tz (w:World) (s:bE):Prop:= ∃ l:List aF,s.n=l.length∧(rd s.a l.length 2 (l.map aF.cells)).holds w∧(∀ x∈l,Fe w x)∧l.length≤maxLen∧s.n≤s.c
theorem UY:qQ Tryz.prog 39 bE (fun s=>[vS s.a s.n s.c]) Tz:=kU TR OY Th
structure RG (w:World) (s:cL):Prop where
 Start:tR w s.Start
 gj:tR w s.gj
 aa:Tz w s.aa
theorem Vz:fL Tryz.prog 41=some [(3,0),(3,1),(39,2)]:=by kernel_rfl
theorem Vj:qQ Tryz.prog 41 cL cL.cells RG:=fun {H} enc w base sp A fuel cs x h=>by
 obtain ⟨hl,hp⟩:=iK Vz h
 obtain ⟨R,AA,AB⟩:=hp 0 3 0 rfl
 obtain ⟨O,B,L⟩:=vc _ _ _ _ _ _ _ _ AB
 obtain ⟨S,V,J⟩:=hp 1 3 1 rfl
 obtain ⟨P,C,M⟩:=vc _ _ _ _ _ _ _ _ J
 obtain ⟨T,W,K⟩:=hp 2 39 2 rfl
 obtain ⟨Q,D,N⟩:=UY _ _ _ _ _ _ _ _ K
 refine ⟨⟨O,P,Q⟩,?_,⟨L,M,N⟩⟩
 have G:=gn (hl.trans S4) (by rw [Uf]) D
 have F:=cM C (m:=2) (by rw [vb]) G
 have E:=cM B (m:=1) (by rw [vb]) F
 exact E
structure P2 (w:World) (s:aG):Prop where
 Out:UR w s.Out
 cJ:UR w s.cJ
 Time:DI w s.Time
 aX:RG w s.aX
theorem TO:fL Tryz.prog 43=some [(4,0),(4,1),(38,2),(41,4)]:=by kernel_rfl
theorem Ta:qQ Tryz.prog 43 aG aG.cells P2:=fun {H} enc w base sp A fuel cs x h=>by
 obtain ⟨hl,hp⟩:=iK TO h
 obtain ⟨W,a,K⟩:=hp 0 4 0 rfl
 obtain ⟨S,B,O⟩:=VL _ _ _ _ _ _ _ _ K
 obtain ⟨X,b,L⟩:=hp 1 4 1 rfl
 obtain ⟨T,C,P⟩:=VL _ _ _ _ _ _ _ _ L
 obtain ⟨Y,c,M⟩:=hp 2 38 2 rfl
 obtain ⟨AA,D,Q⟩:=Gp _ _ _ _ _ _ _ _ M
 obtain ⟨Z,d,N⟩:=hp 3 41 4 rfl
 obtain ⟨V,E,R⟩:=Vj _ _ _ _ _ _ _ _ N
 refine ⟨⟨S,T,AA,V⟩,?_,⟨O,P,Q,R⟩⟩
 have J:=gn (hl.trans TG) (by rw [S4]) E
 have AB:=cM D (m:=4) (by rw [Ex]) J
 have G:=cM C (m:=2) (by rw [VP]) AB
 have F:=cM B (m:=1) (by rw [VP]) G
 exact F
def QB (w:World) (s:bE):Prop:= ∃ l:List aG,s.n=l.length∧(rd s.a l.length 7 (l.map aG.cells)).holds w∧(∀ x∈l,P2 w x)∧l.length≤maxLen∧s.n≤s.c
theorem Up:qQ Tryz.prog 75 bE (fun s=>[vS s.a s.n s.c]) QB:=kU RU TG Ta
def RF (w:World) (s:bE):Prop:= ∃ l:List bE,s.n=l.length∧(rd s.a l.length 1 (l.map (fun s=>[vS s.a s.n s.c]))).holds w∧(∀ x∈l,QB w x)∧l.length≤maxLen∧s.n≤s.c
theorem Vi:qQ Tryz.prog 30 bE (fun s=>[vS s.a s.n s.c]) RF:=kU RR Vq Up
structure SK (w:World) (s:cW):Prop where
 ao:Sr w s.ao
 aV:PO w s.aV
 bV:PO w s.bV
 j9:tR w s.j9
 av:RF w s.av
theorem UC:fL Tryz.prog 32=some [(28,0),(29,7),(29,8),(3,9),(30,10)]:=by kernel_rfl
theorem UG:qQ Tryz.prog 32 cW cW.cells SK:=fun {H} enc w base sp A fuel cs x h=>by
 obtain ⟨hl,hp⟩:=iK UC h
 obtain ⟨b,g,M⟩:=hp 0 28 0 rfl
 obtain ⟨W,B,R⟩:=Un _ _ _ _ _ _ _ _ M
 obtain ⟨c,i,N⟩:=hp 1 29 7 rfl
 obtain ⟨X,C,S⟩:=Sq _ _ _ _ _ _ _ _ N
 obtain ⟨d,j,O⟩:=hp 2 29 8 rfl
 obtain ⟨Y,D,T⟩:=Sq _ _ _ _ _ _ _ _ O
 obtain ⟨e,k,P⟩:=hp 3 3 9 rfl
 obtain ⟨Z,E,AA⟩:=vc _ _ _ _ _ _ _ _ P
 obtain ⟨f,l,Q⟩:=hp 4 30 10 rfl
 obtain ⟨a,F,V⟩:=Vi _ _ _ _ _ _ _ _ Q
 refine ⟨⟨W,X,Y,Z,a⟩,?_,⟨R,S,T,AA,V⟩⟩
 have L:=gn (hl.trans Ti) (by rw [Uw]) F
 have K:=cM E (m:=10) (by rw [vb]) L
 have J:=cM D (m:=9) (by rw [TE]) K
 have AB:=cM C (m:=8) (by rw [TE]) J
 have G:=cM B (m:=7) (by rw [Ss]) AB
 exact G
theorem Vc:Tryz.prog.cellsOf 33=1:=by kernel_rfl
theorem R_:Tryz.prog.cellsOf 86=4:=by kernel_rfl
structure P5 (w:World) (s:aZ):Prop where
 Kind:Ue w s.Kind
 ig:tR w s.ig
 mY:tR w s.mY
 To:tR w s.To
theorem Us:fL Tryz.prog 86=some [(5,0),(3,1),(3,2),(3,3)]:=by kernel_rfl
theorem UQ:qQ Tryz.prog 86 aZ aZ.cells P5:=fun {H} enc w base sp A fuel cs x h=>by
 obtain ⟨hl,hp⟩:=iK Us h
 obtain ⟨W,a,K⟩:=hp 0 5 0 rfl
 obtain ⟨S,B,O⟩:=VJ _ _ _ _ _ _ _ _ K
 obtain ⟨X,b,L⟩:=hp 1 3 1 rfl
 obtain ⟨T,C,P⟩:=vc _ _ _ _ _ _ _ _ L
 obtain ⟨Y,c,M⟩:=hp 2 3 2 rfl
 obtain ⟨AA,D,Q⟩:=vc _ _ _ _ _ _ _ _ M
 obtain ⟨Z,d,N⟩:=hp 3 3 3 rfl
 obtain ⟨V,E,R⟩:=vc _ _ _ _ _ _ _ _ N
 refine ⟨⟨S,T,AA,V⟩,?_,⟨O,P,Q,R⟩⟩
 have J:=gn (hl.trans R_) (by rw [vb]) E
 have AB:=cM D (m:=3) (by rw [vb]) J
 have G:=cM C (m:=2) (by rw [vb]) AB
 have F:=cM B (m:=1) (by rw [VG]) G
 exact F
def RY (w:World) (s:bE):Prop:= ∃ l:List aZ,s.n=l.length∧(rd s.a l.length 4 (l.map aZ.cells)).holds w∧(∀ x∈l,P5 w x)∧l.length≤maxLen∧s.n≤s.c
theorem UL:qQ Tryz.prog 33 bE (fun s=>[vS s.a s.n s.c]) RY:=kU U1 R_ UQ
theorem UU:Tryz.prog.cellsOf 34=1:=by kernel_rfl
theorem OH:Tryz.prog.cellsOf 102=5:=by kernel_rfl
structure Kp (w:World) (s:br):Prop where
 Id:tR w s.Id
 iQ:tR w s.iQ
 jm:tR w s.jm
 j5:tR w s.j5
 At:tR w s.At
theorem Rj:fL Tryz.prog 102=some [(3,0),(3,1),(3,2),(3,3),(3,4)]:=by kernel_rfl
theorem So:qQ Tryz.prog 102 br br.cells Kp:=fun {H} enc w base sp A fuel cs x h=>by
 obtain ⟨hl,hp⟩:=iK Rj h
 obtain ⟨b,g,M⟩:=hp 0 3 0 rfl
 obtain ⟨W,B,R⟩:=vc _ _ _ _ _ _ _ _ M
 obtain ⟨c,i,N⟩:=hp 1 3 1 rfl
 obtain ⟨X,C,S⟩:=vc _ _ _ _ _ _ _ _ N
 obtain ⟨d,j,O⟩:=hp 2 3 2 rfl
 obtain ⟨Y,D,T⟩:=vc _ _ _ _ _ _ _ _ O
 obtain ⟨e,k,P⟩:=hp 3 3 3 rfl
 obtain ⟨Z,E,AA⟩:=vc _ _ _ _ _ _ _ _ P
 obtain ⟨f,l,Q⟩:=hp 4 3 4 rfl
 obtain ⟨a,F,V⟩:=vc _ _ _ _ _ _ _ _ Q
 refine ⟨⟨W,X,Y,Z,a⟩,?_,⟨R,S,T,AA,V⟩⟩
 have L:=gn (hl.trans OH) (by rw [vb]) F
 have K:=cM E (m:=4) (by rw [vb]) L
 have J:=cM D (m:=3) (by rw [vb]) K
 have AB:=cM C (m:=2) (by rw [vb]) J
 have G:=cM B (m:=1) (by rw [vb]) AB
 exact G
def TC (w:World) (s:bE):Prop:= ∃ l:List br,s.n=l.length∧(rd s.a l.length 5 (l.map br.cells)).holds w∧(∀ x∈l,Kp w x)∧l.length≤maxLen∧s.n≤s.c
theorem VE:qQ Tryz.prog 34 bE (fun s=>[vS s.a s.n s.c]) TC:=kU VC OH So
structure UX (w:World) (s:gh):Prop where
 Race:SK w s.Race
 aS:RY w s.aS
 aJ:TC w s.aJ
 iw:tR w s.iw
 Df:tR w s.Df
theorem SZ:fL Tryz.prog 36=some [(32,0),(33,11),(34,12),(3,13),(3,14)]:=by kernel_rfl
theorem Vr:qQ Tryz.prog 36 gh gh.cells UX:=fun {H} enc w base sp A fuel cs x h=>by
 obtain ⟨hl,hp⟩:=iK SZ h
 obtain ⟨b,g,M⟩:=hp 0 32 0 rfl
 obtain ⟨W,B,R⟩:=UG _ _ _ _ _ _ _ _ M
 obtain ⟨c,i,N⟩:=hp 1 33 11 rfl
 obtain ⟨X,C,S⟩:=UL _ _ _ _ _ _ _ _ N
 obtain ⟨d,j,O⟩:=hp 2 34 12 rfl
 obtain ⟨Y,D,T⟩:=VE _ _ _ _ _ _ _ _ O
 obtain ⟨e,k,P⟩:=hp 3 3 13 rfl
 obtain ⟨Z,E,AA⟩:=vc _ _ _ _ _ _ _ _ P
 obtain ⟨f,l,Q⟩:=hp 4 3 14 rfl
 obtain ⟨a,F,V⟩:=vc _ _ _ _ _ _ _ _ Q
 refine ⟨⟨W,X,Y,Z,a⟩,?_,⟨R,S,T,AA,V⟩⟩
 have L:=gn (hl.trans Ui) (by rw [vb]) F
 have K:=cM E (m:=14) (by rw [vb]) L
 have J:=cM D (m:=13) (by rw [UU]) K
 have AB:=cM C (m:=12) (by rw [Vc]) J
 have G:=cM B (m:=11) (by rw [Ti]) AB
 exact G
theorem vo:ownKnob Tryz.prog.godebug=none:=by kernel_rfl
theorem uj:laidOutB Tryz.prog=true:=by kernel_rfl
theorem sS (os:Os) (started:os.Started) (H:Type) (enc:TypeId×Value→H):
 ReturnsInHanded {} Tryz.checked os 4 .any (fun w args=>(Rows.juryReplacedSpec.pre enc Tryz.prog Tryz.f4 [] false w args∧laidMetH Tryz.prog [("kreisel/race.table",Rows.laid_kreisel_race_table)] w)∧sizedMet enc Tryz.prog Tryz.f4 (OpenSpec.ofChange Rows.juryReplacedSpec) false w args) (Rows.juryReplacedSpec.post enc Tryz.prog Tryz.f4 false true false false):=by
 refine returnsInHanded_of_change_and (C:=Tryz.checked) (X:=(fun w _=>laidMetH Tryz.prog [("kreisel/race.table",Rows.laid_kreisel_race_table)] w)) (fun _ _ _ hh h=>h.of_heap hh) vo started kr Tryz.func4
  (ChangeSpec.witness_shaped (enc:=enc) (C:=Tryz.checked) (os:=os) (X:=(fun w _=>laidMetH Tryz.prog [("kreisel/race.table",Rows.laid_kreisel_race_table)] w)) false (World.doorLaid Tryz.prog 400 os) #[.agg #[(vS none 0 0),(vI 0),(vS none 0 0),(vS none 0 0),(vI 0),(vI 0),(vI 0),(vS none 0 0),(vS none 0 0),(vI 0),(vS none 0 0),(vS none 0 0),(vS none 0 0),(vI 0),(vI 0)],Value.int .u8 0,Value.int .u8 0,.agg #[(vB false),(vB false),(vI 0),(vI 0),(vI 0),(vI 0),(vS none 0 0)]] 8 rfl (World.shaped_of_RefB kr kr) kr kr kr (DW os _)) ?_
 intro W base args ds gs before E hW _ _ hL _
 have D: ∀ (j:Nat) t v,Tryz.f4.params[j]? =some t→args[j]? =some v→Value.okWide Tryz.prog W .any base t v:=E
 have hW':=hW
 obtain ⟨p,q,K,hV,rfl,o,r⟩:=hW
 have hA:DataW.TrodAll enc Tryz.prog W 0 (fun _=>true) true Tryz.f4.params.toList args.toList ds p:=K
 have F:=hA
 rw [Tryz.params4] at hA D
 obtain ⟨V,Ab,d0,b,p0,q0,L,rfl,rfl,i,s⟩:=trodAll_cons hA
 obtain ⟨Y,A0,d1,c,p1,q1,rfl,rfl,rfl,l,u⟩:=trodAll_cons s
 obtain ⟨Z,A1,d2,f,p2,q2,rfl,rfl,rfl,m,y⟩:=trodAll_cons u
 obtain ⟨a,A2,d3,g,p3,q3,rfl,rfl,rfl,n,z⟩:=trodAll_cons y
 obtain ⟨rfl,rfl,rfl⟩:=trodAll_nil z
 obtain rfl:args= #[V,Y,Z,a]:=by cases args; simp_all
 obtain ⟨rfl,rfl⟩:=trodVars_none hV
 obtain ⟨s0,rfl,R0⟩:=yK SZ Vr (D 0 36 V rfl rfl) i
 obtain ⟨s1,rfl,R1⟩:=F7 (k:= .u8) HT (D 1 5 Y rfl rfl) l
 obtain ⟨s2,rfl,R2⟩:=F7 (k:= .u8) HT (D 2 5 Z rfl rfl) m
 obtain ⟨s3,rfl,R3⟩:=yK TO Ta (D 3 43 a rfl rfl) n
 simp only [List.append_nil] at hW' F
 have J:=yP hL
 obtain ⟨j,az,ha,kA,kC,cA,cC,bA,bC,T,AA,drA,drC,N,O,faA,faC,prA,prC,rfl,G,B⟩:=He (R1:=IB) (R2:=Ku) (R3:=Lj) (R4:=H8) (R5:=tR) (R6:=QB) (R7:=P2) (R8:=Fe) (R9:=P5) (R10:=Kp) R0.Race.ao.aO.kz (fun x hx=>hx.iW) R0.Race.ao.aj (fun x hx=>hx.bB) R0.Race.ao.ab R0.Race.aV R0.Race.bV R0.Race.av (fun x hx=>hx) (fun x hx=>hx.aX.aa) R0.aS (fun x hx=>hx.Kind) R0.aJ
 obtain ⟨d,Q,S,rfl,M,P⟩:=HN (R:=Fe) R3.aX.aa
 have AB:=(xR j kA kC az cA cC bA bC T AA drA drC ha N O faA faC prA prC s1 s2 d Q S G R1 R2 M).run W (by intro A hA; simp only [b_,List.not_mem_nil,or_false] at hA; rcases hA with rfl|rfl|rfl|rfl|rfl|rfl|rfl|rfl|rfl|rfl|rfl|rfl; exact J; exact B.1; exact B.2.1; exact B.2.2.1; exact B.2.2.2.1; exact B.2.2.2.2.1; exact B.2.2.2.2.2.1; exact B.2.2.2.2.2.2.1; exact B.2.2.2.2.2.2.2.1; exact B.2.2.2.2.2.2.2.2.1; exact B.2.2.2.2.2.2.2.2.2; exact P)
 refine (AB).mono fun e W' ⟨he,hk⟩=>?_
 subst he
 exact ⟨_,U,JF uj hW' F U U kr hk.below kr T3⟩
theorem tN:Rows.JuryReplacedSaid:=
 OpenClaim.holds_of_wide 4 Tryz.f4 rfl rfl rfl rfl rfl rfl rfl ⟨rfl,rfl,rfl,rfl,rfl⟩ rfl rfl rfl rfl rfl kr Tryz.func4 sR
  (of_decide_eq_true kr) (by unfold Func.isWrapper; first|(rw [if_pos (by decide+kernel)]; kernel_rfl)|(rw [if_neg (by decide+kernel)]; exact ⟨rfl,rfl⟩))
  (fun os started H enc _=>sS os started H enc)
/-- the statement -/
theorem juryReplaced_said:Rows.JuryReplacedCardSaid:=
 Claim7.holds_tied_plain_at .later [] [.funcsDeep] true (true,"538a66b7717897c4dc8df88aae33bef2e51197238457798b4f2260c108aa2044") false
  tN (fun _ h=>by cases h) kr (fun _ h=>by cases h) juryReplaced_row_tie rfl ⟨rfl,rfl⟩ kr rfl
  (fun f fn hf B=>by
   obtain rfl:f=4:=Option.some.inj ((show Tryz.prog.funcNamed "kreisel/kreisellaw07.JuryReplaced"=some 4 by kernel_rfl).symm.trans hf) |>.symm
   obtain rfl:fn=Tryz.f4:=(Option.some.inj (Tryz.func4.symm.trans B)).symm
   exact ⟨kr,fun j t ht=>by
    rw [Tryz.params4] at ht
    have hm:t∈([36,5,5,43]:List Nat):=by simpa using Array.mem_of_getElem? ht
    have A:(([36,5,5,43]:List Nat).all fun u=> !Tryz.prog.wantsStandIn u)=true:=by kernel_rfl
    exact (show Tryz.prog.wantsStandIn t=false by simpa using dg.1 A t hm)⟩)
  kr
#print axioms juryReplaced_said
end
end Go.Proofs.YtkaenmjhfajbkaaGreatDoor
