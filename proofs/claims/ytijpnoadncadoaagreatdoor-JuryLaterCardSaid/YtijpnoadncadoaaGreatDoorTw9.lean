/-
 The statement juryLater_said, part 9 of 9: Later70.
 Conditions: none.
-/
import Derived.Test.YtijpnoadncadoaaGreatDoorTw1
import Derived.Test.YtijpnoadncadoaaGreatDoorTw2
import Derived.Test.YtijpnoadncadoaaGreatDoorTw3
import Derived.Test.YtijpnoadncadoaaGreatDoorTw4
import Derived.Test.YtijpnoadncadoaaGreatDoorTw5
import Derived.Test.YtijpnoadncadoaaGreatDoorTw6
import Derived.Test.YtijpnoadncadoaaGreatDoorTw7
import Derived.Test.YtijpnoadncadoaaGreatDoorTw8
import Derived.Test.YtijpnoadncadoaaGreatDoorCards
import Derived.Test.YtijpnoadncadoaaGreatDoorTie
import Derived.SevenTiedAt
import Derived.LaidMore
import Derived.Stop.Joined
import Derived.Test.YtijpnoadncadoaaGreatDoorRows
import Derived.Test.YtijpnoadncadoaaGreatDoorProg
import Derived.KernelRfl
namespace Go.Proofs.YtijpnoadncadoaaGreatDoor
set_option maxRecDepth 100000
set_option maxHeartbeats 4000000
set_option linter.unusedVariables false
section
open Go.ChangeShapes Go.WideShapes Go.ChangeAt Go.RowKit
theorem VE:Tryz.prog.cellsOf 36=15:=by kernel_rfl
theorem Vf:Tryz.prog.cellsOf 32=11:=by kernel_rfl
theorem Uf:Tryz.prog.cellsOf 28=7:=by kernel_rfl
theorem S6:Tryz.prog.cellsOf 24=1:=by kernel_rfl
theorem VF:Tryz.prog.cellsOf 22=1:=by kernel_rfl
theorem Qa:Tryz.prog.cellsOf 118=9:=by kernel_rfl
theorem vE:Tryz.prog.cellsOf 3=1:=by kernel_rfl
def uo (w:World) (n:Int):Prop:=rD n
theorem vD:rT Tryz.prog 3 Int iC uo:=QU um
theorem Fm:Tryz.prog.cellsOf 53=2:=by kernel_rfl
structure Fe (w:World) (s:ag):Prop where
 Lo:uo w s.Lo
 Hi:uo w s.Hi
theorem Wr:fL Tryz.prog 53=some [(3,0),(3,1)]:=by kernel_rfl
theorem He:rT Tryz.prog 53 ag ag.cells Fe:=fun {H} enc w base sp A fuel cs x h=>by
 obtain ⟨hl,hp⟩:=jf Wr h
 obtain ⟨M,O,F⟩:=hp 0 3 0 rfl
 obtain ⟨K,B,AA⟩:=vD _ _ _ _ _ _ _ _ F
 obtain ⟨N,P,G⟩:=hp 1 3 1 rfl
 obtain ⟨L,C,J⟩:=vD _ _ _ _ _ _ _ _ G
 refine ⟨⟨K,L⟩,?_,⟨AA,J⟩⟩
 have E:=gJ (hl.trans Fm) (by rw [vE]) C
 have D:=cL B (m:=1) (by rw [vE]) E
 exact D
theorem XG:Tryz.prog.cellsOf 5=1:=by kernel_rfl
def Xu (w:World) (n:Int):Prop:=0≤n∧n≤255
theorem Xw:rT Tryz.prog 5 Int Jh Xu:=Ty Sg
structure KP (w:World) (s:ar):Prop where
 Id:uo w s.Id
 lD:Fe w s.lD
 mR:Fe w s.mR
 eQ:Fe w s.eQ
 jD:Xu w s.jD
 AD:uo w s.AD
theorem Tg:fL Tryz.prog 118=some [(3,0),(53,1),(53,3),(53,5),(5,7),(3,8)]:=by kernel_rfl
theorem Tx:rT Tryz.prog 118 ar ar.cells KP:=fun {H} enc w base sp A fuel cs x h=>by
 obtain ⟨hl,hp⟩:=jf Tg h
 obtain ⟨g,o,O⟩:=hp 0 3 0 rfl
 obtain ⟨a,B,AA⟩:=vD _ _ _ _ _ _ _ _ O
 obtain ⟨i,p,P⟩:=hp 1 53 1 rfl
 obtain ⟨b,C,V⟩:=He _ _ _ _ _ _ _ _ P
 obtain ⟨j,q,Q⟩:=hp 2 53 3 rfl
 obtain ⟨c,D,W⟩:=He _ _ _ _ _ _ _ _ Q
 obtain ⟨k,r,R⟩:=hp 3 53 5 rfl
 obtain ⟨d,E,X⟩:=He _ _ _ _ _ _ _ _ R
 obtain ⟨l,s,S⟩:=hp 4 5 7 rfl
 obtain ⟨e,F,Y⟩:=Xw _ _ _ _ _ _ _ _ S
 obtain ⟨n,t,T⟩:=hp 5 3 8 rfl
 obtain ⟨f,G,Z⟩:=vD _ _ _ _ _ _ _ _ T
 refine ⟨⟨a,b,c,d,e,f⟩,?_,⟨AA,V,W,X,Y,Z⟩⟩
 have N:=gJ (hl.trans Qa) (by rw [vE]) G
 have M:=cL F (m:=8) (by rw [XG]) N
 have L:=cL E (m:=7) (by rw [Fm]) M
 have K:=cL D (m:=5) (by rw [Fm]) L
 have J:=cL C (m:=3) (by rw [Fm]) K
 have AB:=cL B (m:=1) (by rw [vE]) J
 exact AB
def Vc (w:World) (s:bE):Prop:= ∃ l:List ar,s.n=l.length∧(rd s.a l.length 9 (l.map ar.cells)).holds w∧(∀ x∈l,KP w x)∧l.length≤maxLen∧s.n≤s.c
theorem Vv:rT Tryz.prog 22 bE (fun s=>[vS s.a s.n s.c]) Vc:=lB Uw Qa Tx
structure U4 (w:World) (s:bO):Prop where
 k6:Vc w s.k6
theorem Wd:fL Tryz.prog 24=some [(22,0)]:=by kernel_rfl
theorem Wv:rT Tryz.prog 24 bO bO.cells U4:=fun {H} enc w base sp A fuel cs x h=>by
 obtain ⟨hl,hp⟩:=jf Wd h
 obtain ⟨G,AA,D⟩:=hp 0 22 0 rfl
 obtain ⟨F,B,E⟩:=Vv _ _ _ _ _ _ _ _ D
 refine ⟨⟨F⟩,?_,⟨E⟩⟩
 have C:=gJ (hl.trans S6) (by rw [VF]) B
 exact C
theorem WX:Tryz.prog.cellsOf 25=1:=by kernel_rfl
theorem SK:Tryz.prog.cellsOf 73=2:=by kernel_rfl
theorem W9:Tryz.prog.cellsOf 71=1:=by kernel_rfl
theorem TL:Tryz.prog.cellsOf 75=3:=by kernel_rfl
structure Re (w:World) (s:cz):Prop where
 At:uo w s.At
 eB:Fe w s.eB
theorem WD:fL Tryz.prog 75=some [(3,0),(53,1)]:=by kernel_rfl
theorem VG:rT Tryz.prog 75 cz cz.cells Re:=fun {H} enc w base sp A fuel cs x h=>by
 obtain ⟨hl,hp⟩:=jf WD h
 obtain ⟨M,O,F⟩:=hp 0 3 0 rfl
 obtain ⟨K,B,AA⟩:=vD _ _ _ _ _ _ _ _ F
 obtain ⟨N,P,G⟩:=hp 1 53 1 rfl
 obtain ⟨L,C,J⟩:=He _ _ _ _ _ _ _ _ G
 refine ⟨⟨K,L⟩,?_,⟨AA,J⟩⟩
 have E:=gJ (hl.trans TL) (by rw [Fm]) C
 have D:=cL B (m:=1) (by rw [vE]) E
 exact D
def SJ (w:World) (s:bE):Prop:= ∃ l:List cz,s.n=l.length∧(rd s.a l.length 3 (l.map cz.cells)).holds w∧(∀ x∈l,Re w x)∧l.length≤maxLen∧s.n≤s.c
theorem Xm:rT Tryz.prog 71 bE (fun s=>[vS s.a s.n s.c]) SJ:=lB V2 TL VG
structure Qv (w:World) (s:dA):Prop where
 dD:uo w s.dD
 bu:SJ w s.bu
theorem Xf:fL Tryz.prog 73=some [(3,0),(71,1)]:=by kernel_rfl
theorem WN:rT Tryz.prog 73 dA dA.cells Qv:=fun {H} enc w base sp A fuel cs x h=>by
 obtain ⟨hl,hp⟩:=jf Xf h
 obtain ⟨M,O,F⟩:=hp 0 3 0 rfl
 obtain ⟨K,B,AA⟩:=vD _ _ _ _ _ _ _ _ F
 obtain ⟨N,P,G⟩:=hp 1 71 1 rfl
 obtain ⟨L,C,J⟩:=Xm _ _ _ _ _ _ _ _ G
 refine ⟨⟨K,L⟩,?_,⟨AA,J⟩⟩
 have E:=gJ (hl.trans SK) (by rw [W9]) C
 have D:=cL B (m:=1) (by rw [vE]) E
 exact D
def UK (w:World) (s:bE):Prop:= ∃ l:List dA,s.n=l.length∧(rd s.a l.length 2 (l.map dA.cells)).holds w∧(∀ x∈l,Qv w x)∧l.length≤maxLen∧s.n≤s.c
theorem Wm:rT Tryz.prog 25 bE (fun s=>[vS s.a s.n s.c]) UK:=lB VN SK WN
theorem V8:Tryz.prog.cellsOf 26=1:=by kernel_rfl
theorem PT:Tryz.prog.cellsOf 122=4:=by kernel_rfl
theorem P6:Tryz.prog.cellsOf 120=3:=by kernel_rfl
structure P4 (w:World) (s:cK):Prop where
 bD:uo w s.bD
 nB:Fe w s.nB
theorem Um:fL Tryz.prog 120=some [(3,0),(53,1)]:=by kernel_rfl
theorem T3:rT Tryz.prog 120 cK cK.cells P4:=fun {H} enc w base sp A fuel cs x h=>by
 obtain ⟨hl,hp⟩:=jf Um h
 obtain ⟨M,O,F⟩:=hp 0 3 0 rfl
 obtain ⟨K,B,AA⟩:=vD _ _ _ _ _ _ _ _ F
 obtain ⟨N,P,G⟩:=hp 1 53 1 rfl
 obtain ⟨L,C,J⟩:=He _ _ _ _ _ _ _ _ G
 refine ⟨⟨K,L⟩,?_,⟨AA,J⟩⟩
 have E:=gJ (hl.trans P6) (by rw [Fm]) C
 have D:=cL B (m:=1) (by rw [vE]) E
 exact D
structure MF (w:World) (s:bJ):Prop where
 nI:P4 w s.nI
 jW:uo w s.jW
theorem UE:fL Tryz.prog 122=some [(120,0),(3,3)]:=by kernel_rfl
theorem TF:rT Tryz.prog 122 bJ bJ.cells MF:=fun {H} enc w base sp A fuel cs x h=>by
 obtain ⟨hl,hp⟩:=jf UE h
 obtain ⟨M,O,F⟩:=hp 0 120 0 rfl
 obtain ⟨K,B,AA⟩:=T3 _ _ _ _ _ _ _ _ F
 obtain ⟨N,P,G⟩:=hp 1 3 3 rfl
 obtain ⟨L,C,J⟩:=vD _ _ _ _ _ _ _ _ G
 refine ⟨⟨K,L⟩,?_,⟨AA,J⟩⟩
 have E:=gJ (hl.trans PT) (by rw [vE]) C
 have D:=cL B (m:=3) (by rw [P6]) E
 exact D
def Up (w:World) (s:bE):Prop:= ∃ l:List bJ,s.n=l.length∧(rd s.a l.length 4 (l.map bJ.cells)).holds w∧(∀ x∈l,MF w x)∧l.length≤maxLen∧s.n≤s.c
theorem Vw:rT Tryz.prog 26 bE (fun s=>[vS s.a s.n s.c]) Up:=lB Sc PT TF
structure Ui (w:World) (s:cw):Prop where
 aR:U4 w s.aR
 iN:uo w s.iN
 aj:UK w s.aj
 ab:Up w s.ab
 bM:uo w s.bM
 fT:uo w s.fT
 dE:uo w s.dE
theorem Wi:fL Tryz.prog 28=some [(24,0),(3,1),(25,2),(26,3),(3,4),(3,5),(3,6)]:=by kernel_rfl
theorem WU:rT Tryz.prog 28 cw cw.cells Ui:=fun {H} enc w base sp A fuel cs x h=>by
 obtain ⟨hl,hp⟩:=jf Wi h
 obtain ⟨n,u,Q⟩:=hp 0 24 0 rfl
 obtain ⟨e,B,X⟩:=Wv _ _ _ _ _ _ _ _ Q
 obtain ⟨o,v,R⟩:=hp 1 3 1 rfl
 obtain ⟨f,C,Y⟩:=vD _ _ _ _ _ _ _ _ R
 obtain ⟨p,y,S⟩:=hp 2 25 2 rfl
 obtain ⟨g,D,Z⟩:=Wm _ _ _ _ _ _ _ _ S
 obtain ⟨q,z,T⟩:=hp 3 26 3 rfl
 obtain ⟨i,E,a⟩:=Vw _ _ _ _ _ _ _ _ T
 obtain ⟨r,y4,AA⟩:=hp 4 3 4 rfl
 obtain ⟨j,F,b⟩:=vD _ _ _ _ _ _ _ _ AA
 obtain ⟨s,y5,V⟩:=hp 5 3 5 rfl
 obtain ⟨k,G,c⟩:=vD _ _ _ _ _ _ _ _ V
 obtain ⟨t,y6,W⟩:=hp 6 3 6 rfl
 obtain ⟨l,AB,d⟩:=vD _ _ _ _ _ _ _ _ W
 refine ⟨⟨e,f,g,i,j,k,l⟩,?_,⟨X,Y,Z,a,b,c,d⟩⟩
 have P:=gJ (hl.trans Uf) (by rw [vE]) AB
 have O:=cL G (m:=6) (by rw [vE]) P
 have N:=cL F (m:=5) (by rw [vE]) O
 have M:=cL E (m:=4) (by rw [V8]) N
 have L:=cL D (m:=3) (by rw [WX]) M
 have K:=cL C (m:=2) (by rw [vE]) L
 have J:=cL B (m:=1) (by rw [S6]) K
 exact J
theorem U1:Tryz.prog.cellsOf 29=1:=by kernel_rfl
def Sd (w:World) (s:bE):Prop:= ∃ l:List Int,s.n=l.length∧(rd s.a l.length 1 (l.map iC)).holds w∧(∀ x∈l,uo w x)∧l.length≤maxLen∧s.n≤s.c
theorem U_:rT Tryz.prog 29 bE (fun s=>[vS s.a s.n s.c]) Sd:=lB Xi vE vD
theorem WA:Tryz.prog.cellsOf 30=1:=by kernel_rfl
theorem W0:Tryz.prog.cellsOf 51=1:=by kernel_rfl
theorem Tk:Tryz.prog.cellsOf 58=7:=by kernel_rfl
theorem Xv:Tryz.prog.cellsOf 4=1:=by kernel_rfl
def Vx (w:World) (n:Bool):Prop:=True
theorem XD:rT Tryz.prog 4 Bool (fun b=>[vB b]) Vx:=O1 Xz
theorem SV:Tryz.prog.cellsOf 56=3:=by kernel_rfl
theorem V5:Tryz.prog.cellsOf 54=1:=by kernel_rfl
theorem S0:Tryz.prog.cellsOf 78=2:=by kernel_rfl
structure Qy (w:World) (s:aH):Prop where
 eZ:uo w s.eZ
 Read:uo w s.Read
theorem WQ:fL Tryz.prog 78=some [(3,0),(3,1)]:=by kernel_rfl
theorem Ww:rT Tryz.prog 78 aH aH.cells Qy:=fun {H} enc w base sp A fuel cs x h=>by
 obtain ⟨hl,hp⟩:=jf WQ h
 obtain ⟨M,O,F⟩:=hp 0 3 0 rfl
 obtain ⟨K,B,AA⟩:=vD _ _ _ _ _ _ _ _ F
 obtain ⟨N,P,G⟩:=hp 1 3 1 rfl
 obtain ⟨L,C,J⟩:=vD _ _ _ _ _ _ _ _ G
 refine ⟨⟨K,L⟩,?_,⟨AA,J⟩⟩
 have E:=gJ (hl.trans S0) (by rw [vE]) C
 have D:=cL B (m:=1) (by rw [vE]) E
 exact D
def Tm (w:World) (s:bE):Prop:= ∃ l:List aH,s.n=l.length∧(rd s.a l.length 2 (l.map aH.cells)).holds w∧(∀ x∈l,Qy w x)∧l.length≤maxLen∧s.n≤s.c
theorem Wf:rT Tryz.prog 54 bE (fun s=>[vS s.a s.n s.c]) Tm:=lB Xc S0 Ww
structure UJ (w:World) (s:cM):Prop where
 Start:uo w s.Start
 fI:uo w s.fI
 aa:Tm w s.aa
theorem Wa:fL Tryz.prog 56=some [(3,0),(3,1),(54,2)]:=by kernel_rfl
theorem W_:rT Tryz.prog 56 cM cM.cells UJ:=fun {H} enc w base sp A fuel cs x h=>by
 obtain ⟨hl,hp⟩:=jf Wa h
 obtain ⟨R,AA,AB⟩:=hp 0 3 0 rfl
 obtain ⟨O,B,L⟩:=vD _ _ _ _ _ _ _ _ AB
 obtain ⟨S,V,J⟩:=hp 1 3 1 rfl
 obtain ⟨P,C,M⟩:=vD _ _ _ _ _ _ _ _ J
 obtain ⟨T,W,K⟩:=hp 2 54 2 rfl
 obtain ⟨Q,D,N⟩:=Wf _ _ _ _ _ _ _ _ K
 refine ⟨⟨O,P,Q⟩,?_,⟨L,M,N⟩⟩
 have G:=gJ (hl.trans SV) (by rw [V5]) D
 have F:=cL C (m:=2) (by rw [vE]) G
 have E:=cL B (m:=1) (by rw [vE]) F
 exact E
structure Sn (w:World) (s:aP):Prop where
 Out:Vx w s.Out
 cY:Vx w s.cY
 Time:Fe w s.Time
 aZ:UJ w s.aZ
theorem VC:fL Tryz.prog 58=some [(4,0),(4,1),(53,2),(56,4)]:=by kernel_rfl
theorem Wl:rT Tryz.prog 58 aP aP.cells Sn:=fun {H} enc w base sp A fuel cs x h=>by
 obtain ⟨hl,hp⟩:=jf VC h
 obtain ⟨W,a,K⟩:=hp 0 4 0 rfl
 obtain ⟨S,B,O⟩:=XD _ _ _ _ _ _ _ _ K
 obtain ⟨X,b,L⟩:=hp 1 4 1 rfl
 obtain ⟨T,C,P⟩:=XD _ _ _ _ _ _ _ _ L
 obtain ⟨Y,c,M⟩:=hp 2 53 2 rfl
 obtain ⟨AA,D,Q⟩:=He _ _ _ _ _ _ _ _ M
 obtain ⟨Z,d,N⟩:=hp 3 56 4 rfl
 obtain ⟨V,E,R⟩:=W_ _ _ _ _ _ _ _ _ N
 refine ⟨⟨S,T,AA,V⟩,?_,⟨O,P,Q,R⟩⟩
 have J:=gJ (hl.trans Tk) (by rw [SV]) E
 have AB:=cL D (m:=4) (by rw [Fm]) J
 have G:=cL C (m:=2) (by rw [Xv]) AB
 have F:=cL B (m:=1) (by rw [Xv]) G
 exact F
def Ro (w:World) (s:bE):Prop:= ∃ l:List aP,s.n=l.length∧(rd s.a l.length 7 (l.map aP.cells)).holds w∧(∀ x∈l,Sn w x)∧l.length≤maxLen∧s.n≤s.c
theorem VV:rT Tryz.prog 51 bE (fun s=>[vS s.a s.n s.c]) Ro:=lB VL Tk Wl
def TV (w:World) (s:bE):Prop:= ∃ l:List bE,s.n=l.length∧(rd s.a l.length 1 (l.map (fun s=>[vS s.a s.n s.c]))).holds w∧(∀ x∈l,Ro w x)∧l.length≤maxLen∧s.n≤s.c
theorem W6:rT Tryz.prog 30 bE (fun s=>[vS s.a s.n s.c]) TV:=lB VT W0 VV
structure Te (w:World) (s:fu):Prop where
 ak:Ui w s.ak
 aY:Sd w s.aY
 b_:Sd w s.b_
 lG:uo w s.lG
 aA:TV w s.aA
theorem Xl:fL Tryz.prog 32=some [(28,0),(29,7),(29,8),(3,9),(30,10)]:=by kernel_rfl
theorem Xt:rT Tryz.prog 32 fu fu.cells Te:=fun {H} enc w base sp A fuel cs x h=>by
 obtain ⟨hl,hp⟩:=jf Xl h
 obtain ⟨b,g,M⟩:=hp 0 28 0 rfl
 obtain ⟨W,B,R⟩:=WU _ _ _ _ _ _ _ _ M
 obtain ⟨c,i,N⟩:=hp 1 29 7 rfl
 obtain ⟨X,C,S⟩:=U_ _ _ _ _ _ _ _ _ N
 obtain ⟨d,j,O⟩:=hp 2 29 8 rfl
 obtain ⟨Y,D,T⟩:=U_ _ _ _ _ _ _ _ _ O
 obtain ⟨e,k,P⟩:=hp 3 3 9 rfl
 obtain ⟨Z,E,AA⟩:=vD _ _ _ _ _ _ _ _ P
 obtain ⟨f,l,Q⟩:=hp 4 30 10 rfl
 obtain ⟨a,F,V⟩:=W6 _ _ _ _ _ _ _ _ Q
 refine ⟨⟨W,X,Y,Z,a⟩,?_,⟨R,S,T,AA,V⟩⟩
 have L:=gJ (hl.trans Vf) (by rw [WA]) F
 have K:=cL E (m:=10) (by rw [vE]) L
 have J:=cL D (m:=9) (by rw [U1]) K
 have AB:=cL C (m:=8) (by rw [U1]) J
 have G:=cL B (m:=7) (by rw [Uf]) AB
 exact G
theorem VH:Tryz.prog.cellsOf 33=1:=by kernel_rfl
theorem Ul:Tryz.prog.cellsOf 80=4:=by kernel_rfl
structure Ru (w:World) (s:aL):Prop where
 Kind:Xu w s.Kind
 eW:uo w s.eW
 gI:uo w s.gI
 To:uo w s.To
theorem Xq:fL Tryz.prog 80=some [(5,0),(3,1),(3,2),(3,3)]:=by kernel_rfl
theorem VI:rT Tryz.prog 80 aL aL.cells Ru:=fun {H} enc w base sp A fuel cs x h=>by
 obtain ⟨hl,hp⟩:=jf Xq h
 obtain ⟨W,a,K⟩:=hp 0 5 0 rfl
 obtain ⟨S,B,O⟩:=Xw _ _ _ _ _ _ _ _ K
 obtain ⟨X,b,L⟩:=hp 1 3 1 rfl
 obtain ⟨T,C,P⟩:=vD _ _ _ _ _ _ _ _ L
 obtain ⟨Y,c,M⟩:=hp 2 3 2 rfl
 obtain ⟨AA,D,Q⟩:=vD _ _ _ _ _ _ _ _ M
 obtain ⟨Z,d,N⟩:=hp 3 3 3 rfl
 obtain ⟨V,E,R⟩:=vD _ _ _ _ _ _ _ _ N
 refine ⟨⟨S,T,AA,V⟩,?_,⟨O,P,Q,R⟩⟩
 have J:=gJ (hl.trans Ul) (by rw [vE]) E
 have AB:=cL D (m:=3) (by rw [vE]) J
 have G:=cL C (m:=2) (by rw [vE]) AB
 have F:=cL B (m:=1) (by rw [XG]) G
 exact F
def Uy (w:World) (s:bE):Prop:= ∃ l:List aL,s.n=l.length∧(rd s.a l.length 4 (l.map aL.cells)).holds w∧(∀ x∈l,Ru w x)∧l.length≤maxLen∧s.n≤s.c
theorem WZ:rT Tryz.prog 33 bE (fun s=>[vS s.a s.n s.c]) Uy:=lB VM Ul VI
theorem V9:Tryz.prog.cellsOf 34=1:=by kernel_rfl
theorem Vg:Tryz.prog.cellsOf 47=5:=by kernel_rfl
structure QD (w:World) (s:aT):Prop where
 Id:uo w s.Id
 iX:uo w s.iX
 jo:uo w s.jo
 iM:uo w s.iM
 At:uo w s.At
theorem Wu:fL Tryz.prog 47=some [(3,0),(3,1),(3,2),(3,3),(3,4)]:=by kernel_rfl
theorem Xr:rT Tryz.prog 47 aT aT.cells QD:=fun {H} enc w base sp A fuel cs x h=>by
 obtain ⟨hl,hp⟩:=jf Wu h
 obtain ⟨b,g,M⟩:=hp 0 3 0 rfl
 obtain ⟨W,B,R⟩:=vD _ _ _ _ _ _ _ _ M
 obtain ⟨c,i,N⟩:=hp 1 3 1 rfl
 obtain ⟨X,C,S⟩:=vD _ _ _ _ _ _ _ _ N
 obtain ⟨d,j,O⟩:=hp 2 3 2 rfl
 obtain ⟨Y,D,T⟩:=vD _ _ _ _ _ _ _ _ O
 obtain ⟨e,k,P⟩:=hp 3 3 3 rfl
 obtain ⟨Z,E,AA⟩:=vD _ _ _ _ _ _ _ _ P
 obtain ⟨f,l,Q⟩:=hp 4 3 4 rfl
 obtain ⟨a,F,V⟩:=vD _ _ _ _ _ _ _ _ Q
 refine ⟨⟨W,X,Y,Z,a⟩,?_,⟨R,S,T,AA,V⟩⟩
 have L:=gJ (hl.trans Vg) (by rw [vE]) F
 have K:=cL E (m:=4) (by rw [vE]) L
 have J:=cL D (m:=3) (by rw [vE]) K
 have AB:=cL C (m:=2) (by rw [vE]) J
 have G:=cL B (m:=1) (by rw [vE]) AB
 exact G
def U2 (w:World) (s:bE):Prop:= ∃ l:List aT,s.n=l.length∧(rd s.a l.length 5 (l.map aT.cells)).holds w∧(∀ x∈l,QD w x)∧l.length≤maxLen∧s.n≤s.c
theorem Xn:rT Tryz.prog 34 bE (fun s=>[vS s.a s.n s.c]) U2:=lB VW Vg Xr
structure WY (w:World) (s:eD):Prop where
 Race:Te w s.Race
 aC:Uy w s.aC
 aw:U2 w s.aw
 eh:uo w s.eh
 xA:uo w s.xA
theorem SS:fL Tryz.prog 36=some [(32,0),(33,11),(34,12),(3,13),(3,14)]:=by kernel_rfl
theorem WR:rT Tryz.prog 36 eD eD.cells WY:=fun {H} enc w base sp A fuel cs x h=>by
 obtain ⟨hl,hp⟩:=jf SS h
 obtain ⟨b,g,M⟩:=hp 0 32 0 rfl
 obtain ⟨W,B,R⟩:=Xt _ _ _ _ _ _ _ _ M
 obtain ⟨c,i,N⟩:=hp 1 33 11 rfl
 obtain ⟨X,C,S⟩:=WZ _ _ _ _ _ _ _ _ N
 obtain ⟨d,j,O⟩:=hp 2 34 12 rfl
 obtain ⟨Y,D,T⟩:=Xn _ _ _ _ _ _ _ _ O
 obtain ⟨e,k,P⟩:=hp 3 3 13 rfl
 obtain ⟨Z,E,AA⟩:=vD _ _ _ _ _ _ _ _ P
 obtain ⟨f,l,Q⟩:=hp 4 3 14 rfl
 obtain ⟨a,F,V⟩:=vD _ _ _ _ _ _ _ _ Q
 refine ⟨⟨W,X,Y,Z,a⟩,?_,⟨R,S,T,AA,V⟩⟩
 have L:=gJ (hl.trans VE) (by rw [vE]) F
 have K:=cL E (m:=14) (by rw [vE]) L
 have J:=cL D (m:=13) (by rw [V9]) K
 have AB:=cL C (m:=12) (by rw [VH]) J
 have G:=cL B (m:=11) (by rw [Vf]) AB
 exact G
theorem zC:ownKnob Tryz.prog.godebug=none:=by kernel_rfl
theorem yq:laidOutB Tryz.prog=true:=by kernel_rfl
theorem wK (os:Os) (started:os.Started) (H:Type) (enc:TypeId×Value→H):
 ReturnsInHanded {} Tryz.checked os 6 .any (fun w args=>(Rows.juryLaterSpec.pre enc Tryz.prog Tryz.f6 [] false w args∧laidMetH Tryz.prog [("kreisel/race.table",Rows.laid_kreisel_race_table)] w)∧sizedMet enc Tryz.prog Tryz.f6 (OpenSpec.ofChange Rows.juryLaterSpec) false w args) (Rows.juryLaterSpec.post enc Tryz.prog Tryz.f6 false true false false):=by
 refine returnsInHanded_of_change_and (C:=Tryz.checked) (X:=(fun w _=>laidMetH Tryz.prog [("kreisel/race.table",Rows.laid_kreisel_race_table)] w)) (fun _ _ _ hh h=>h.of_heap hh) zC started kr Tryz.func6
  (ChangeSpec.witness_shaped (enc:=enc) (C:=Tryz.checked) (os:=os) (X:=(fun w _=>laidMetH Tryz.prog [("kreisel/race.table",Rows.laid_kreisel_race_table)] w)) false (World.doorLaid Tryz.prog 400 os) #[.agg #[(vS none 0 0),(vI 0),(vS none 0 0),(vS none 0 0),(vI 0),(vI 0),(vI 0),(vS none 0 0),(vS none 0 0),(vI 0),(vS none 0 0),(vS none 0 0),(vS none 0 0),(vI 0),(vI 0)],Value.int .u32 0] 8 rfl (World.shaped_of_RefB kr kr) kr kr kr (Fp os _)) ?_
 intro W base args ds gs before E hW _ _ hL _
 have D: ∀ (j:Nat) t v,Tryz.f6.params[j]? =some t→args[j]? =some v→Value.okWide Tryz.prog W .any base t v:=E
 have hW':=hW
 obtain ⟨p,q,K,hV,rfl,Y,Z⟩:=hW
 have hA:DataW.TrodAll enc Tryz.prog W 0 (fun _=>true) true Tryz.f6.params.toList args.toList ds p:=K
 have F:=hA
 rw [Tryz.params6] at hA D
 obtain ⟨Q,d,g,S,l,n,L,rfl,rfl,AA,a⟩:=trodAll_cons hA
 obtain ⟨R,f,i,T,m,o,rfl,rfl,rfl,V,b⟩:=trodAll_cons a
 obtain ⟨rfl,rfl,rfl⟩:=trodAll_nil b
 obtain rfl:args= #[Q,R]:=by cases args; simp_all
 obtain ⟨rfl,rfl⟩:=trodVars_none hV
 obtain ⟨r,rfl,R0⟩:=EU SS WR (D 0 36 Q rfl rfl) AA
 obtain ⟨c,rfl,R1⟩:=Og (k:= .u32) Uk (D 1 65 R rfl rfl) V
 simp only [List.append_nil] at hW' F
 have J:=zN hL
 obtain ⟨j,az,ha,kA,kC,cA,cC,bA,bC,O,P,drA,drC,M,N,faA,faC,prA,prC,rfl,G,B⟩:=G5 (R1:=KP) (R2:=Qv) (R3:=MF) (R4:=Re) (R5:=uo) (R6:=Ro) (R7:=Sn) (R8:=Qy) (R9:=Ru) (R10:=QD) R0.Race.ak.aR.k6 (fun x hx=>hx.jD) R0.Race.ak.aj (fun x hx=>hx.bu) R0.Race.ak.ab R0.Race.aY R0.Race.b_ R0.Race.aA (fun x hx=>hx) (fun x hx=>hx.aZ.aa) R0.aC (fun x hx=>hx.Kind) R0.aw
 have AB:=(Ce j kA kC az cA cC bA bC O P drA drC ha M N faA faC prA prC c G R1).run W (by intro A hA; simp only [bU,List.not_mem_nil,or_false] at hA; rcases hA with rfl|rfl|rfl|rfl|rfl|rfl|rfl|rfl|rfl|rfl|rfl; exact J; exact B.1; exact B.2.1; exact B.2.2.1; exact B.2.2.2.1; exact B.2.2.2.2.1; exact B.2.2.2.2.2.1; exact B.2.2.2.2.2.2.1; exact B.2.2.2.2.2.2.2.1; exact B.2.2.2.2.2.2.2.2.1; exact B.2.2.2.2.2.2.2.2.2)
 refine (AB).mono fun e W' ⟨he,hk⟩=>?_
 subst he
 exact ⟨_,U,LK yq hW' F U U kr hk.below kr Xz⟩
theorem xE:Rows.JuryLaterSaid:=
 OpenClaim.holds_of_wide 6 Tryz.f6 rfl rfl rfl rfl rfl rfl rfl ⟨rfl,rfl,rfl,rfl,rfl⟩ rfl rfl rfl rfl rfl kr Tryz.func6 wq
  (of_decide_eq_true kr) (by unfold Func.isWrapper; first|(rw [if_pos (by decide+kernel)]; kernel_rfl)|(rw [if_neg (by decide+kernel)]; exact ⟨rfl,rfl⟩))
  (fun os started H enc _=>wK os started H enc)
/-- the statement -/
theorem juryLater_said:Rows.JuryLaterCardSaid:=
 Claim7.holds_tied_plain_at .later [] [.funcsDeep] true (true,"d8cf0626f832096ce100a6f7c79f4ede30e4673a60460e9c643b06a90f42f87b") false
  xE (fun _ h=>by cases h) kr (fun _ h=>by cases h) juryLater_row_tie rfl ⟨rfl,rfl⟩ kr rfl
  (fun f fn hf B=>by
   obtain rfl:f=6:=Option.some.inj ((show Tryz.prog.funcNamed "kreisel/kreisellaw07.JuryLater"=some 6 by kernel_rfl).symm.trans hf) |>.symm
   obtain rfl:fn=Tryz.f6:=(Option.some.inj (Tryz.func6.symm.trans B)).symm
   exact ⟨kr,fun j t ht=>by
    rw [Tryz.params6] at ht
    have hm:t∈([36,65]:List Nat):=by simpa using Array.mem_of_getElem? ht
    have A:(([36,65]:List Nat).all fun u=> !Tryz.prog.wantsStandIn u)=true:=by kernel_rfl
    exact (show Tryz.prog.wantsStandIn t=false by simpa using de.1 A t hm)⟩)
  kr
#print axioms juryLater_said
end
end Go.Proofs.YtijpnoadncadoaaGreatDoor
