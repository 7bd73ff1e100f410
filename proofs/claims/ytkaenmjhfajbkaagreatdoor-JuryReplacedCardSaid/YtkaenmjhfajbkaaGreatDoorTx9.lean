/-
 The statement juryReplaced_said, part 9 of 9: Replaced0.
 Conditions: none.
-/
import Derived.Test.YtkaenmjhfajbkaaGreatDoorTx1
import Derived.Test.YtkaenmjhfajbkaaGreatDoorTx2
import Derived.Test.YtkaenmjhfajbkaaGreatDoorTx3
import Derived.Test.YtkaenmjhfajbkaaGreatDoorTx4
import Derived.Test.YtkaenmjhfajbkaaGreatDoorTx5
import Derived.Test.YtkaenmjhfajbkaaGreatDoorTx6
import Derived.Test.YtkaenmjhfajbkaaGreatDoorTx7
import Derived.Test.YtkaenmjhfajbkaaGreatDoorTx8
import Derived.Test.YtkaenmjhfajbkaaGreatDoorCards
import Derived.Test.YtkaenmjhfajbkaaGreatDoorTie
import Derived.SevenTiedAt
import Derived.LaidMore
import Derived.Stop.Joined
import Derived.Test.YtkaenmjhfajbkaaGreatDoorRows
import Derived.Test.YtkaenmjhfajbkaaGreatDoorProg
import Derived.KernelRfl
namespace Go.Proofs.YtkaenmjhfajbkaaGreatDoor
set_option maxRecDepth 100000
set_option maxHeartbeats 4000000
set_option linter.unusedVariables false
section
open Go.ChangeShapes Go.WideShapes Go.ChangeAt Go.RowKit
theorem U3:Tryz.prog.cellsOf 36=15:=by kernel_rfl
theorem Tr:Tryz.prog.cellsOf 32=11:=by kernel_rfl
theorem SF:Tryz.prog.cellsOf 28=7:=by kernel_rfl
theorem SJ:Tryz.prog.cellsOf 24=1:=by kernel_rfl
theorem VD:Tryz.prog.cellsOf 22=1:=by kernel_rfl
theorem Ol:Tryz.prog.cellsOf 128=9:=by kernel_rfl
theorem vc:Tryz.prog.cellsOf 3=1:=by kernel_rfl
def tR (w:World) (n:Int):Prop:=rn n
theorem vb:rf Tryz.prog 3 Int iC tR:=Pt qn
theorem Ej:Tryz.prog.cellsOf 38=2:=by kernel_rfl
structure Dw (w:World) (s:ai):Prop where
 Lo:tR w s.Lo
 Hi:tR w s.Hi
theorem Uc:fL Tryz.prog 38=some [(3,0),(3,1)]:=by kernel_rfl
theorem Gh:rf Tryz.prog 38 ai ai.cells Dw:=fun {H} enc w base sp A fuel cs x h=>by
 obtain ⟨hl,hp⟩:=iH Uc h
 obtain ⟨M,O,F⟩:=hp 0 3 0 rfl
 obtain ⟨K,B,AA⟩:=vb _ _ _ _ _ _ _ _ F
 obtain ⟨N,P,G⟩:=hp 1 3 1 rfl
 obtain ⟨L,C,J⟩:=vb _ _ _ _ _ _ _ _ G
 refine ⟨⟨K,L⟩,?_,⟨AA,J⟩⟩
 have E:=gp (hl.trans Ej) (by rw [vc]) C
 have D:=cM B (m:=1) (by rw [vc]) E
 exact D
theorem VG:Tryz.prog.cellsOf 5=1:=by kernel_rfl
def UA (w:World) (n:Int):Prop:=0≤n∧n≤255
theorem VP:rf Tryz.prog 5 Int I7 UA:=Ri HU
structure KW (w:World) (s:au):Prop where
 Id:tR w s.Id
 jJ:Dw w s.jJ
 kK:Dw w s.kK
 dY:Dw w s.dY
 iU:UA w s.iU
 yF:tR w s.yF
theorem Sy:fL Tryz.prog 128=some [(3,0),(38,1),(38,3),(38,5),(5,7),(3,8)]:=by kernel_rfl
theorem Rl:rf Tryz.prog 128 au au.cells KW:=fun {H} enc w base sp A fuel cs x h=>by
 obtain ⟨hl,hp⟩:=iH Sy h
 obtain ⟨g,o,O⟩:=hp 0 3 0 rfl
 obtain ⟨a,B,AA⟩:=vb _ _ _ _ _ _ _ _ O
 obtain ⟨i,p,P⟩:=hp 1 38 1 rfl
 obtain ⟨b,C,V⟩:=Gh _ _ _ _ _ _ _ _ P
 obtain ⟨j,q,Q⟩:=hp 2 38 3 rfl
 obtain ⟨c,D,W⟩:=Gh _ _ _ _ _ _ _ _ Q
 obtain ⟨k,r,R⟩:=hp 3 38 5 rfl
 obtain ⟨d,E,X⟩:=Gh _ _ _ _ _ _ _ _ R
 obtain ⟨l,s,S⟩:=hp 4 5 7 rfl
 obtain ⟨e,F,Y⟩:=VP _ _ _ _ _ _ _ _ S
 obtain ⟨n,t,T⟩:=hp 5 3 8 rfl
 obtain ⟨f,G,Z⟩:=vb _ _ _ _ _ _ _ _ T
 refine ⟨⟨a,b,c,d,e,f⟩,?_,⟨AA,V,W,X,Y,Z⟩⟩
 have N:=gp (hl.trans Ol) (by rw [vc]) G
 have M:=cM F (m:=8) (by rw [VG]) N
 have L:=cM E (m:=7) (by rw [Ej]) M
 have K:=cM D (m:=5) (by rw [Ej]) L
 have J:=cM C (m:=3) (by rw [Ej]) K
 have AB:=cM B (m:=1) (by rw [vc]) J
 exact AB
def Sd (w:World) (s:bE):Prop:= ∃ l:List au,s.n=l.length∧(rd s.a l.length 9 (l.map au.cells)).holds w∧(∀ x∈l,KW w x)∧l.length≤maxLen∧s.n≤s.c
theorem Uq:rf Tryz.prog 22 bE (fun s=>[vS s.a s.n s.c]) Sd:=kP Pd Ol Rl
structure TO (w:World) (s:bL):Prop where
 kD:Sd w s.kD
theorem U6:fL Tryz.prog 24=some [(22,0)]:=by kernel_rfl
theorem Vq:rf Tryz.prog 24 bL bL.cells TO:=fun {H} enc w base sp A fuel cs x h=>by
 obtain ⟨hl,hp⟩:=iH U6 h
 obtain ⟨G,AA,D⟩:=hp 0 22 0 rfl
 obtain ⟨F,B,E⟩:=Uq _ _ _ _ _ _ _ _ D
 refine ⟨⟨F⟩,?_,⟨E⟩⟩
 have C:=gp (hl.trans SJ) (by rw [VD]) B
 exact C
theorem Uy:Tryz.prog.cellsOf 25=1:=by kernel_rfl
theorem O1:Tryz.prog.cellsOf 133=2:=by kernel_rfl
theorem Sp:Tryz.prog.cellsOf 131=1:=by kernel_rfl
theorem O0:Tryz.prog.cellsOf 130=3:=by kernel_rfl
structure I1 (w:World) (s:ct):Prop where
 At:tR w s.At
 eg:Dw w s.eg
theorem S9:fL Tryz.prog 130=some [(3,0),(38,1)]:=by kernel_rfl
theorem Se:rf Tryz.prog 130 ct ct.cells I1:=fun {H} enc w base sp A fuel cs x h=>by
 obtain ⟨hl,hp⟩:=iH S9 h
 obtain ⟨M,O,F⟩:=hp 0 3 0 rfl
 obtain ⟨K,B,AA⟩:=vb _ _ _ _ _ _ _ _ F
 obtain ⟨N,P,G⟩:=hp 1 38 1 rfl
 obtain ⟨L,C,J⟩:=Gh _ _ _ _ _ _ _ _ G
 refine ⟨⟨K,L⟩,?_,⟨AA,J⟩⟩
 have E:=gp (hl.trans O0) (by rw [Ej]) C
 have D:=cM B (m:=1) (by rw [vc]) E
 exact D
def OC (w:World) (s:bE):Prop:= ∃ l:List ct,s.n=l.length∧(rd s.a l.length 3 (l.map ct.cells)).holds w∧(∀ x∈l,I1 w x)∧l.length≤maxLen∧s.n≤s.c
theorem Sf:rf Tryz.prog 131 bE (fun s=>[vS s.a s.n s.c]) OC:=kP Og O0 Se
structure Km (w:World) (s:dk):Prop where
 dw:tR w s.dw
 bB:OC w s.bB
theorem TP:fL Tryz.prog 133=some [(3,0),(131,1)]:=by kernel_rfl
theorem Rt:rf Tryz.prog 133 dk dk.cells Km:=fun {H} enc w base sp A fuel cs x h=>by
 obtain ⟨hl,hp⟩:=iH TP h
 obtain ⟨M,O,F⟩:=hp 0 3 0 rfl
 obtain ⟨K,B,AA⟩:=vb _ _ _ _ _ _ _ _ F
 obtain ⟨N,P,G⟩:=hp 1 131 1 rfl
 obtain ⟨L,C,J⟩:=Sf _ _ _ _ _ _ _ _ G
 refine ⟨⟨K,L⟩,?_,⟨AA,J⟩⟩
 have E:=gp (hl.trans O1) (by rw [Sp]) C
 have D:=cM B (m:=1) (by rw [vc]) E
 exact D
def TR (w:World) (s:bE):Prop:= ∃ l:List dk,s.n=l.length∧(rd s.a l.length 2 (l.map dk.cells)).holds w∧(∀ x∈l,Km w x)∧l.length≤maxLen∧s.n≤s.c
theorem UM:rf Tryz.prog 25 bE (fun s=>[vS s.a s.n s.c]) TR:=kP TL O1 Rt
theorem Us:Tryz.prog.cellsOf 26=1:=by kernel_rfl
theorem Oq:Tryz.prog.cellsOf 137=4:=by kernel_rfl
theorem Of:Tryz.prog.cellsOf 135=3:=by kernel_rfl
structure OE (w:World) (s:cH):Prop where
 bG:tR w s.bG
 lX:Dw w s.lX
theorem SK:fL Tryz.prog 135=some [(3,0),(38,1)]:=by kernel_rfl
theorem Rs:rf Tryz.prog 135 cH cH.cells OE:=fun {H} enc w base sp A fuel cs x h=>by
 obtain ⟨hl,hp⟩:=iH SK h
 obtain ⟨M,O,F⟩:=hp 0 3 0 rfl
 obtain ⟨K,B,AA⟩:=vb _ _ _ _ _ _ _ _ F
 obtain ⟨N,P,G⟩:=hp 1 38 1 rfl
 obtain ⟨L,C,J⟩:=Gh _ _ _ _ _ _ _ _ G
 refine ⟨⟨K,L⟩,?_,⟨AA,J⟩⟩
 have E:=gp (hl.trans Of) (by rw [Ej]) C
 have D:=cM B (m:=1) (by rw [vc]) E
 exact D
structure Lb (w:World) (s:bK):Prop where
 lp:OE w s.lp
 jG:tR w s.jG
theorem TI:fL Tryz.prog 137=some [(135,0),(3,3)]:=by kernel_rfl
theorem RR:rf Tryz.prog 137 bK bK.cells Lb:=fun {H} enc w base sp A fuel cs x h=>by
 obtain ⟨hl,hp⟩:=iH TI h
 obtain ⟨M,O,F⟩:=hp 0 135 0 rfl
 obtain ⟨K,B,AA⟩:=Rs _ _ _ _ _ _ _ _ F
 obtain ⟨N,P,G⟩:=hp 1 3 3 rfl
 obtain ⟨L,C,J⟩:=vb _ _ _ _ _ _ _ _ G
 refine ⟨⟨K,L⟩,?_,⟨AA,J⟩⟩
 have E:=gp (hl.trans Oq) (by rw [vc]) C
 have D:=cM B (m:=3) (by rw [Of]) E
 exact D
def S0 (w:World) (s:bE):Prop:= ∃ l:List bK,s.n=l.length∧(rd s.a l.length 4 (l.map bK.cells)).holds w∧(∀ x∈l,Lb w x)∧l.length≤maxLen∧s.n≤s.c
theorem Vh:rf Tryz.prog 26 bE (fun s=>[vS s.a s.n s.c]) S0:=kP Nj Oq RR
structure TD (w:World) (s:cm):Prop where
 aO:TO w s.aO
 h_:tR w s.h_
 aj:TR w s.aj
 ab:S0 w s.ab
 cf:tR w s.cf
 fJ:tR w s.fJ
 dC:tR w s.dC
theorem Ul:fL Tryz.prog 28=some [(24,0),(3,1),(25,2),(26,3),(3,4),(3,5),(3,6)]:=by kernel_rfl
theorem Vd:rf Tryz.prog 28 cm cm.cells TD:=fun {H} enc w base sp A fuel cs x h=>by
 obtain ⟨hl,hp⟩:=iH Ul h
 obtain ⟨n,u,Q⟩:=hp 0 24 0 rfl
 obtain ⟨e,B,X⟩:=Vq _ _ _ _ _ _ _ _ Q
 obtain ⟨o,v,R⟩:=hp 1 3 1 rfl
 obtain ⟨f,C,Y⟩:=vb _ _ _ _ _ _ _ _ R
 obtain ⟨p,y,S⟩:=hp 2 25 2 rfl
 obtain ⟨g,D,Z⟩:=UM _ _ _ _ _ _ _ _ S
 obtain ⟨q,z,T⟩:=hp 3 26 3 rfl
 obtain ⟨i,E,a⟩:=Vh _ _ _ _ _ _ _ _ T
 obtain ⟨r,y4,AA⟩:=hp 4 3 4 rfl
 obtain ⟨j,F,b⟩:=vb _ _ _ _ _ _ _ _ AA
 obtain ⟨s,y5,V⟩:=hp 5 3 5 rfl
 obtain ⟨k,G,c⟩:=vb _ _ _ _ _ _ _ _ V
 obtain ⟨t,y6,W⟩:=hp 6 3 6 rfl
 obtain ⟨l,AB,d⟩:=vb _ _ _ _ _ _ _ _ W
 refine ⟨⟨e,f,g,i,j,k,l⟩,?_,⟨X,Y,Z,a,b,c,d⟩⟩
 have P:=gp (hl.trans SF) (by rw [vc]) AB
 have O:=cM G (m:=6) (by rw [vc]) P
 have N:=cM F (m:=5) (by rw [vc]) O
 have M:=cM E (m:=4) (by rw [Us]) N
 have L:=cM D (m:=3) (by rw [Uy]) M
 have K:=cM C (m:=2) (by rw [vc]) L
 have J:=cM B (m:=1) (by rw [SJ]) K
 exact J
theorem Rz:Tryz.prog.cellsOf 29=1:=by kernel_rfl
def PS (w:World) (s:bE):Prop:= ∃ l:List Int,s.n=l.length∧(rd s.a l.length 1 (l.map iC)).holds w∧(∀ x∈l,tR w x)∧l.length≤maxLen∧s.n≤s.c
theorem TQ:rf Tryz.prog 29 bE (fun s=>[vS s.a s.n s.c]) PS:=kP SI vc vb
theorem VA:Tryz.prog.cellsOf 30=1:=by kernel_rfl
theorem Uw:Tryz.prog.cellsOf 75=1:=by kernel_rfl
theorem S3:Tryz.prog.cellsOf 43=7:=by kernel_rfl
theorem VJ:Tryz.prog.cellsOf 4=1:=by kernel_rfl
def UK (w:World) (n:Bool):Prop:=True
theorem VI:rf Tryz.prog 4 Bool (fun b=>[vB b]) UK:=Nd T3
theorem Rx:Tryz.prog.cellsOf 41=3:=by kernel_rfl
theorem Uv:Tryz.prog.cellsOf 39=1:=by kernel_rfl
theorem Oi:Tryz.prog.cellsOf 113=2:=by kernel_rfl
structure E1 (w:World) (s:aF):Prop where
 fH:tR w s.fH
 Read:tR w s.Read
theorem RC:fL Tryz.prog 113=some [(3,0),(3,1)]:=by kernel_rfl
theorem S4:rf Tryz.prog 113 aF aF.cells E1:=fun {H} enc w base sp A fuel cs x h=>by
 obtain ⟨hl,hp⟩:=iH RC h
 obtain ⟨M,O,F⟩:=hp 0 3 0 rfl
 obtain ⟨K,B,AA⟩:=vb _ _ _ _ _ _ _ _ F
 obtain ⟨N,P,G⟩:=hp 1 3 1 rfl
 obtain ⟨L,C,J⟩:=vb _ _ _ _ _ _ _ _ G
 refine ⟨⟨K,L⟩,?_,⟨AA,J⟩⟩
 have E:=gp (hl.trans Oi) (by rw [vc]) C
 have D:=cM B (m:=1) (by rw [vc]) E
 exact D
def Sw (w:World) (s:bE):Prop:= ∃ l:List aF,s.n=l.length∧(rd s.a l.length 2 (l.map aF.cells)).holds w∧(∀ x∈l,E1 w x)∧l.length≤maxLen∧s.n≤s.c
theorem Uh:rf Tryz.prog 39 bE (fun s=>[vS s.a s.n s.c]) Sw:=kP Rh Oi S4
structure RY (w:World) (s:cL):Prop where
 Start:tR w s.Start
 gj:tR w s.gj
 aa:Sw w s.aa
theorem Vj:fL Tryz.prog 41=some [(3,0),(3,1),(39,2)]:=by kernel_rfl
theorem UZ:rf Tryz.prog 41 cL cL.cells RY:=fun {H} enc w base sp A fuel cs x h=>by
 obtain ⟨hl,hp⟩:=iH Vj h
 obtain ⟨R,AA,AB⟩:=hp 0 3 0 rfl
 obtain ⟨O,B,L⟩:=vb _ _ _ _ _ _ _ _ AB
 obtain ⟨S,V,J⟩:=hp 1 3 1 rfl
 obtain ⟨P,C,M⟩:=vb _ _ _ _ _ _ _ _ J
 obtain ⟨T,W,K⟩:=hp 2 39 2 rfl
 obtain ⟨Q,D,N⟩:=Uh _ _ _ _ _ _ _ _ K
 refine ⟨⟨O,P,Q⟩,?_,⟨L,M,N⟩⟩
 have G:=gp (hl.trans Rx) (by rw [Uv]) D
 have F:=cM C (m:=2) (by rw [vc]) G
 have E:=cM B (m:=1) (by rw [vc]) F
 exact E
structure Pe (w:World) (s:aG):Prop where
 Out:UK w s.Out
 cJ:UK w s.cJ
 Time:Dw w s.Time
 aY:RY w s.aY
theorem Sq:fL Tryz.prog 43=some [(4,0),(4,1),(38,2),(41,4)]:=by kernel_rfl
theorem TG:rf Tryz.prog 43 aG aG.cells Pe:=fun {H} enc w base sp A fuel cs x h=>by
 obtain ⟨hl,hp⟩:=iH Sq h
 obtain ⟨W,a,K⟩:=hp 0 4 0 rfl
 obtain ⟨S,B,O⟩:=VI _ _ _ _ _ _ _ _ K
 obtain ⟨X,b,L⟩:=hp 1 4 1 rfl
 obtain ⟨T,C,P⟩:=VI _ _ _ _ _ _ _ _ L
 obtain ⟨Y,c,M⟩:=hp 2 38 2 rfl
 obtain ⟨AA,D,Q⟩:=Gh _ _ _ _ _ _ _ _ M
 obtain ⟨Z,d,N⟩:=hp 3 41 4 rfl
 obtain ⟨V,E,R⟩:=UZ _ _ _ _ _ _ _ _ N
 refine ⟨⟨S,T,AA,V⟩,?_,⟨O,P,Q,R⟩⟩
 have J:=gp (hl.trans S3) (by rw [Rx]) E
 have AB:=cM D (m:=4) (by rw [Ej]) J
 have G:=cM C (m:=2) (by rw [VJ]) AB
 have F:=cM B (m:=1) (by rw [VJ]) G
 exact F
def PN (w:World) (s:bE):Prop:= ∃ l:List aG,s.n=l.length∧(rd s.a l.length 7 (l.map aG.cells)).holds w∧(∀ x∈l,Pe w x)∧l.length≤maxLen∧s.n≤s.c
theorem UE:rf Tryz.prog 75 bE (fun s=>[vS s.a s.n s.c]) PN:=kP Tt S3 TG
def S5 (w:World) (s:bE):Prop:= ∃ l:List bE,s.n=l.length∧(rd s.a l.length 1 (l.map (fun s=>[vS s.a s.n s.c]))).holds w∧(∀ x∈l,PN w x)∧l.length≤maxLen∧s.n≤s.c
theorem Uz:rf Tryz.prog 30 bE (fun s=>[vS s.a s.n s.c]) S5:=kP Sl Uw UE
structure Su (w:World) (s:cY):Prop where
 ao:TD w s.ao
 aV:PS w s.aV
 bV:PS w s.bV
 j9:tR w s.j9
 av:S5 w s.av
theorem Ui:fL Tryz.prog 32=some [(28,0),(29,7),(29,8),(3,9),(30,10)]:=by kernel_rfl
theorem Ut:rf Tryz.prog 32 cY cY.cells Su:=fun {H} enc w base sp A fuel cs x h=>by
 obtain ⟨hl,hp⟩:=iH Ui h
 obtain ⟨b,g,M⟩:=hp 0 28 0 rfl
 obtain ⟨W,B,R⟩:=Vd _ _ _ _ _ _ _ _ M
 obtain ⟨c,i,N⟩:=hp 1 29 7 rfl
 obtain ⟨X,C,S⟩:=TQ _ _ _ _ _ _ _ _ N
 obtain ⟨d,j,O⟩:=hp 2 29 8 rfl
 obtain ⟨Y,D,T⟩:=TQ _ _ _ _ _ _ _ _ O
 obtain ⟨e,k,P⟩:=hp 3 3 9 rfl
 obtain ⟨Z,E,AA⟩:=vb _ _ _ _ _ _ _ _ P
 obtain ⟨f,l,Q⟩:=hp 4 30 10 rfl
 obtain ⟨a,F,V⟩:=Uz _ _ _ _ _ _ _ _ Q
 refine ⟨⟨W,X,Y,Z,a⟩,?_,⟨R,S,T,AA,V⟩⟩
 have L:=gp (hl.trans Tr) (by rw [VA]) F
 have K:=cM E (m:=10) (by rw [vc]) L
 have J:=cM D (m:=9) (by rw [Rz]) K
 have AB:=cM C (m:=8) (by rw [Rz]) J
 have G:=cM B (m:=7) (by rw [SF]) AB
 exact G
theorem Um:Tryz.prog.cellsOf 33=1:=by kernel_rfl
theorem RO:Tryz.prog.cellsOf 86=4:=by kernel_rfl
structure Ph (w:World) (s:aZ):Prop where
 Kind:UA w s.Kind
 ig:tR w s.ig
 mN:tR w s.mN
 To:tR w s.To
theorem UO:fL Tryz.prog 86=some [(5,0),(3,1),(3,2),(3,3)]:=by kernel_rfl
theorem UU:rf Tryz.prog 86 aZ aZ.cells Ph:=fun {H} enc w base sp A fuel cs x h=>by
 obtain ⟨hl,hp⟩:=iH UO h
 obtain ⟨W,a,K⟩:=hp 0 5 0 rfl
 obtain ⟨S,B,O⟩:=VP _ _ _ _ _ _ _ _ K
 obtain ⟨X,b,L⟩:=hp 1 3 1 rfl
 obtain ⟨T,C,P⟩:=vb _ _ _ _ _ _ _ _ L
 obtain ⟨Y,c,M⟩:=hp 2 3 2 rfl
 obtain ⟨AA,D,Q⟩:=vb _ _ _ _ _ _ _ _ M
 obtain ⟨Z,d,N⟩:=hp 3 3 3 rfl
 obtain ⟨V,E,R⟩:=vb _ _ _ _ _ _ _ _ N
 refine ⟨⟨S,T,AA,V⟩,?_,⟨O,P,Q,R⟩⟩
 have J:=gp (hl.trans RO) (by rw [vc]) E
 have AB:=cM D (m:=3) (by rw [vc]) J
 have G:=cM C (m:=2) (by rw [vc]) AB
 have F:=cM B (m:=1) (by rw [VG]) G
 exact F
def Th (w:World) (s:bE):Prop:= ∃ l:List aZ,s.n=l.length∧(rd s.a l.length 4 (l.map aZ.cells)).holds w∧(∀ x∈l,Ph w x)∧l.length≤maxLen∧s.n≤s.c
theorem UP:rf Tryz.prog 33 bE (fun s=>[vS s.a s.n s.c]) Th:=kP UH RO UU
theorem Vp:Tryz.prog.cellsOf 34=1:=by kernel_rfl
theorem Om:Tryz.prog.cellsOf 102=5:=by kernel_rfl
structure KV (w:World) (s:br):Prop where
 Id:tR w s.Id
 iQ:tR w s.iQ
 jm:tR w s.jm
 jX:tR w s.jX
 At:tR w s.At
theorem Rk:fL Tryz.prog 102=some [(3,0),(3,1),(3,2),(3,3),(3,4)]:=by kernel_rfl
theorem RU:rf Tryz.prog 102 br br.cells KV:=fun {H} enc w base sp A fuel cs x h=>by
 obtain ⟨hl,hp⟩:=iH Rk h
 obtain ⟨b,g,M⟩:=hp 0 3 0 rfl
 obtain ⟨W,B,R⟩:=vb _ _ _ _ _ _ _ _ M
 obtain ⟨c,i,N⟩:=hp 1 3 1 rfl
 obtain ⟨X,C,S⟩:=vb _ _ _ _ _ _ _ _ N
 obtain ⟨d,j,O⟩:=hp 2 3 2 rfl
 obtain ⟨Y,D,T⟩:=vb _ _ _ _ _ _ _ _ O
 obtain ⟨e,k,P⟩:=hp 3 3 3 rfl
 obtain ⟨Z,E,AA⟩:=vb _ _ _ _ _ _ _ _ P
 obtain ⟨f,l,Q⟩:=hp 4 3 4 rfl
 obtain ⟨a,F,V⟩:=vb _ _ _ _ _ _ _ _ Q
 refine ⟨⟨W,X,Y,Z,a⟩,?_,⟨R,S,T,AA,V⟩⟩
 have L:=gp (hl.trans Om) (by rw [vc]) F
 have K:=cM E (m:=4) (by rw [vc]) L
 have J:=cM D (m:=3) (by rw [vc]) K
 have AB:=cM C (m:=2) (by rw [vc]) J
 have G:=cM B (m:=1) (by rw [vc]) AB
 exact G
def Sn (w:World) (s:bE):Prop:= ∃ l:List br,s.n=l.length∧(rd s.a l.length 5 (l.map br.cells)).holds w∧(∀ x∈l,KV w x)∧l.length≤maxLen∧s.n≤s.c
theorem Vz:rf Tryz.prog 34 bE (fun s=>[vS s.a s.n s.c]) Sn:=kP VE Om RU
structure Vr (w:World) (s:gh):Prop where
 Race:Su w s.Race
 aS:Th w s.aS
 aJ:Sn w s.aJ
 iy:tR w s.iy
 Dj:tR w s.Dj
theorem S_:fL Tryz.prog 36=some [(32,0),(33,11),(34,12),(3,13),(3,14)]:=by kernel_rfl
theorem Vb:rf Tryz.prog 36 gh gh.cells Vr:=fun {H} enc w base sp A fuel cs x h=>by
 obtain ⟨hl,hp⟩:=iH S_ h
 obtain ⟨b,g,M⟩:=hp 0 32 0 rfl
 obtain ⟨W,B,R⟩:=Ut _ _ _ _ _ _ _ _ M
 obtain ⟨c,i,N⟩:=hp 1 33 11 rfl
 obtain ⟨X,C,S⟩:=UP _ _ _ _ _ _ _ _ N
 obtain ⟨d,j,O⟩:=hp 2 34 12 rfl
 obtain ⟨Y,D,T⟩:=Vz _ _ _ _ _ _ _ _ O
 obtain ⟨e,k,P⟩:=hp 3 3 13 rfl
 obtain ⟨Z,E,AA⟩:=vb _ _ _ _ _ _ _ _ P
 obtain ⟨f,l,Q⟩:=hp 4 3 14 rfl
 obtain ⟨a,F,V⟩:=vb _ _ _ _ _ _ _ _ Q
 refine ⟨⟨W,X,Y,Z,a⟩,?_,⟨R,S,T,AA,V⟩⟩
 have L:=gp (hl.trans U3) (by rw [vc]) F
 have K:=cM E (m:=14) (by rw [vc]) L
 have J:=cM D (m:=13) (by rw [Vp]) K
 have AB:=cM C (m:=12) (by rw [Um]) J
 have G:=cM B (m:=11) (by rw [Tr]) AB
 exact G
theorem vf:ownKnob Tryz.prog.godebug=none:=by kernel_rfl
theorem uC:laidOutB Tryz.prog=true:=by kernel_rfl
theorem sR (os:Os) (started:os.Started) (H:Type) (enc:TypeId×Value→H):
 ReturnsInHanded {} Tryz.checked os 4 .any (fun w args=>(Rows.juryReplacedSpec.pre enc Tryz.prog Tryz.f4 [] false w args∧laidMetH Tryz.prog [("kreisel/race.table",Rows.laid_kreisel_race_table)] w)∧sizedMet enc Tryz.prog Tryz.f4 (OpenSpec.ofChange Rows.juryReplacedSpec) false w args) (Rows.juryReplacedSpec.post enc Tryz.prog Tryz.f4 false true false false):=by
 refine returnsInHanded_of_change_and (C:=Tryz.checked) (X:=(fun w _=>laidMetH Tryz.prog [("kreisel/race.table",Rows.laid_kreisel_race_table)] w)) (fun _ _ _ hh h=>h.of_heap hh) vf started kr Tryz.func4
  (ChangeSpec.witness_shaped (enc:=enc) (C:=Tryz.checked) (os:=os) (X:=(fun w _=>laidMetH Tryz.prog [("kreisel/race.table",Rows.laid_kreisel_race_table)] w)) false (World.doorLaid Tryz.prog 400 os) #[.agg #[(vS none 0 0),(vI 0),(vS none 0 0),(vS none 0 0),(vI 0),(vI 0),(vI 0),(vS none 0 0),(vS none 0 0),(vI 0),(vS none 0 0),(vS none 0 0),(vS none 0 0),(vI 0),(vI 0)],Value.int .u8 0,Value.int .u8 0,.agg #[(vB false),(vB false),(vI 0),(vI 0),(vI 0),(vI 0),(vS none 0 0)]] 8 rfl (World.shaped_of_RefB kr kr) kr kr kr (DS os _)) ?_
 intro W base args ds gs before E hW _ _ hL _
 have D: ∀ (j:Nat) t v,Tryz.f4.params[j]? =some t→args[j]? =some v→Value.okWide Tryz.prog W .any base t v:=E
 have hW':=hW
 obtain ⟨p,q,K,hV,rfl,o,r⟩:=hW
 have hA:DataW.TrodAll enc Tryz.prog W 0 (fun _=>true) true Tryz.f4.params.toList args.toList ds p:=K
 have F:=hA
 rw [Tryz.params4] at hA D
 obtain ⟨V,AO,d0,b,p0,q0,L,rfl,rfl,i,s⟩:=trodAll_cons hA
 obtain ⟨Y,A0,d1,c,p1,q1,rfl,rfl,rfl,l,u⟩:=trodAll_cons s
 obtain ⟨Z,A1,d2,f,p2,q2,rfl,rfl,rfl,m,y⟩:=trodAll_cons u
 obtain ⟨a,A2,d3,g,p3,q3,rfl,rfl,rfl,n,z⟩:=trodAll_cons y
 obtain ⟨rfl,rfl,rfl⟩:=trodAll_nil z
 obtain rfl:args= #[V,Y,Z,a]:=by cases args; simp_all
 obtain ⟨rfl,rfl⟩:=trodVars_none hV
 obtain ⟨s0,rfl,R0⟩:=xr S_ Vb (D 0 36 V rfl rfl) i
 obtain ⟨s1,rfl,R1⟩:=EM (k:= .u8) HU (D 1 5 Y rfl rfl) l
 obtain ⟨s2,rfl,R2⟩:=EM (k:= .u8) HU (D 2 5 Z rfl rfl) m
 obtain ⟨s3,rfl,R3⟩:=xr Sq TG (D 3 43 a rfl rfl) n
 simp only [List.append_nil] at hW' F
 have J:=yR hL
 obtain ⟨j,az,ha,kA,kC,cA,cC,bA,bC,T,AA,drA,drC,N,O,faA,faC,prA,prC,rfl,G,B⟩:=G4 (R1:=KW) (R2:=Km) (R3:=Lb) (R4:=I1) (R5:=tR) (R6:=PN) (R7:=Pe) (R8:=E1) (R9:=Ph) (R10:=KV) R0.Race.ao.aO.kD (fun x hx=>hx.iU) R0.Race.ao.aj (fun x hx=>hx.bB) R0.Race.ao.ab R0.Race.aV R0.Race.bV R0.Race.av (fun x hx=>hx) (fun x hx=>hx.aY.aa) R0.aS (fun x hx=>hx.Kind) R0.aJ
 obtain ⟨d,Q,S,rfl,M,P⟩:=HK (R:=E1) R3.aY.aa
 have AB:=(yC j kA kC az cA cC bA bC T AA drA drC ha N O faA faC prA prC s1 s2 d Q S G R1 R2 M).run W (by intro A hA; simp only [b_,List.not_mem_nil,or_false] at hA; rcases hA with rfl|rfl|rfl|rfl|rfl|rfl|rfl|rfl|rfl|rfl|rfl|rfl; exact J; exact B.1; exact B.2.1; exact B.2.2.1; exact B.2.2.2.1; exact B.2.2.2.2.1; exact B.2.2.2.2.2.1; exact B.2.2.2.2.2.2.1; exact B.2.2.2.2.2.2.2.1; exact B.2.2.2.2.2.2.2.2.1; exact B.2.2.2.2.2.2.2.2.2; exact P)
 refine (AB).mono fun e W' ⟨he,hk⟩=>?_
 subst he
 exact ⟨_,U,Ko uC hW' F U U kr hk.below kr T3⟩
theorem tP:Rows.JuryReplacedSaid:=
 OpenClaim.holds_of_wide 4 Tryz.f4 rfl rfl rfl rfl rfl rfl rfl ⟨rfl,rfl,rfl,rfl,rfl⟩ rfl rfl rfl rfl rfl kr Tryz.func4 sS
  (of_decide_eq_true kr) (by unfold Func.isWrapper; first|(rw [if_pos (by decide+kernel)]; kernel_rfl)|(rw [if_neg (by decide+kernel)]; exact ⟨rfl,rfl⟩))
  (fun os started H enc _=>sR os started H enc)
/-- the statement -/
theorem juryReplaced_said:Rows.JuryReplacedCardSaid:=
 Claim7.holds_tied_plain_at .later [] [.funcsDeep] true (true,"538a66b7717897c4dc8df88aae33bef2e51197238457798b4f2260c108aa2044") false
  tP (fun _ h=>by cases h) kr (fun _ h=>by cases h) juryReplaced_row_tie rfl ⟨rfl,rfl⟩ kr rfl
  (fun f fn hf B=>by
   obtain rfl:f=4:=Option.some.inj ((show Tryz.prog.funcNamed "kreisel/kreisellaw07.JuryReplaced"=some 4 by kernel_rfl).symm.trans hf) |>.symm
   obtain rfl:fn=Tryz.f4:=(Option.some.inj (Tryz.func4.symm.trans B)).symm
   exact ⟨kr,fun j t ht=>by
    rw [Tryz.params4] at ht
    have hm:t∈([36,5,5,43]:List Nat):=by simpa using Array.mem_of_getElem? ht
    have A:(([36,5,5,43]:List Nat).all fun u=> !Tryz.prog.wantsStandIn u)=true:=by kernel_rfl
    exact (show Tryz.prog.wantsStandIn t=false by simpa using df.1 A t hm)⟩)
  kr
#print axioms juryReplaced_said
end
end Go.Proofs.YtkaenmjhfajbkaaGreatDoor
