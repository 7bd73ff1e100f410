/-
 The statement raceRepaired_said, part 9 of 9: Repaired0.
 Conditions: none.
-/
import Derived.Test.YtadjgjnicdcjbaaGreatDoorTz1
import Derived.Test.YtadjgjnicdcjbaaGreatDoorTz2
import Derived.Test.YtadjgjnicdcjbaaGreatDoorTz3
import Derived.Test.YtadjgjnicdcjbaaGreatDoorTz4
import Derived.Test.YtadjgjnicdcjbaaGreatDoorTz5
import Derived.Test.YtadjgjnicdcjbaaGreatDoorTz6
import Derived.Test.YtadjgjnicdcjbaaGreatDoorTz7
import Derived.Test.YtadjgjnicdcjbaaGreatDoorTz8
import Derived.Test.YtadjgjnicdcjbaaGreatDoorCards
import Derived.Test.YtadjgjnicdcjbaaGreatDoorTie
import Derived.SevenTiedAt
import Derived.LaidMore
import Derived.Stop.Joined
import Derived.Test.YtadjgjnicdcjbaaGreatDoorRows
import Derived.Test.YtadjgjnicdcjbaaGreatDoorProg
import Derived.KernelRfl
namespace Go.Proofs.YtadjgjnicdcjbaaGreatDoor
set_option maxRecDepth 100000
set_option maxHeartbeats 4000000
set_option linter.unusedVariables false
section
open Go.ChangeShapes Go.WideShapes Go.ChangeAt Go.RowKit
theorem US:Tryz.prog.cellsOf 35=11:=by kernel_rfl
theorem TZ:Tryz.prog.cellsOf 31=7:=by kernel_rfl
theorem Uu:Tryz.prog.cellsOf 27=1:=by kernel_rfl
theorem VQ:Tryz.prog.cellsOf 25=1:=by kernel_rfl
theorem PA:Tryz.prog.cellsOf 114=9:=by kernel_rfl
theorem BB:Tryz.prog.cellsOf 3=1:=by kernel_rfl
def zY (w:World) (n:Int):Prop:=rp n
theorem BC:tG Tryz.prog 3 Int iC zY:=Rf mX
theorem ET:Tryz.prog.cellsOf 40=2:=by kernel_rfl
structure Ek (w:World) (s:aa):Prop where
 Lo:zY w s.Lo
 Hi:zY w s.Hi
theorem SI:fL Tryz.prog 40=some [(3,0),(3,1)]:=by kernel_rfl
theorem EV:tG Tryz.prog 40 aa aa.cells Ek:=fun {H} enc w base sp A fuel cs x h=>by
 obtain ⟨hl,hp⟩:=jK SI h
 obtain ⟨M,O,F⟩:=hp 0 3 0 rfl
 obtain ⟨K,B,AA⟩:=BC _ _ _ _ _ _ _ _ F
 obtain ⟨N,P,G⟩:=hp 1 3 1 rfl
 obtain ⟨L,C,J⟩:=BC _ _ _ _ _ _ _ _ G
 refine ⟨⟨K,L⟩,?_,⟨AA,J⟩⟩
 have E:=ia (hl.trans ET) (by rw [BB]) C
 have D:=dD B (m:=1) (by rw [BB]) E
 exact D
theorem Wf:Tryz.prog.cellsOf 5=1:=by kernel_rfl
def V7 (w:World) (n:Int):Prop:=0≤n∧n≤255
theorem Wk:tG Tryz.prog 5 Int Mo V7:=UA N8
structure Lr (w:World) (s:ak):Prop where
 Id:zY w s.Id
 jL:Ek w s.jL
 ky:Ek w s.ky
 dY:Ek w s.dY
 iZ:V7 w s.iZ
 xQ:zY w s.xQ
theorem T1:fL Tryz.prog 114=some [(3,0),(40,1),(40,3),(40,5),(5,7),(3,8)]:=by kernel_rfl
theorem Ss:tG Tryz.prog 114 ak ak.cells Lr:=fun {H} enc w base sp A fuel cs x h=>by
 obtain ⟨hl,hp⟩:=jK T1 h
 obtain ⟨g,o,O⟩:=hp 0 3 0 rfl
 obtain ⟨a,B,AA⟩:=BC _ _ _ _ _ _ _ _ O
 obtain ⟨i,p,P⟩:=hp 1 40 1 rfl
 obtain ⟨b,C,V⟩:=EV _ _ _ _ _ _ _ _ P
 obtain ⟨j,q,Q⟩:=hp 2 40 3 rfl
 obtain ⟨c,D,W⟩:=EV _ _ _ _ _ _ _ _ Q
 obtain ⟨k,r,R⟩:=hp 3 40 5 rfl
 obtain ⟨d,E,X⟩:=EV _ _ _ _ _ _ _ _ R
 obtain ⟨l,s,S⟩:=hp 4 5 7 rfl
 obtain ⟨e,F,Y⟩:=Wk _ _ _ _ _ _ _ _ S
 obtain ⟨n,t,T⟩:=hp 5 3 8 rfl
 obtain ⟨f,G,Z⟩:=BC _ _ _ _ _ _ _ _ T
 refine ⟨⟨a,b,c,d,e,f⟩,?_,⟨AA,V,W,X,Y,Z⟩⟩
 have N:=ia (hl.trans PA) (by rw [BB]) G
 have M:=dD F (m:=8) (by rw [Wf]) N
 have L:=dD E (m:=7) (by rw [ET]) M
 have K:=dD D (m:=5) (by rw [ET]) L
 have J:=dD C (m:=3) (by rw [ET]) K
 have AB:=dD B (m:=1) (by rw [BB]) J
 exact AB
def Th (w:World) (s:bq):Prop:= ∃ l:List ak,s.n=l.length∧(rd s.a l.length 9 (l.map ak.cells)).holds w∧(∀ x∈l,Lr w x)∧l.length≤maxLen∧s.n≤s.c
theorem Ve:tG Tryz.prog 25 bq (fun s=>[vS s.a s.n s.c]) Th:=mH Qa PA Ss
structure Tj (w:World) (s:bw):Prop where
 lp:Th w s.lp
theorem Vj:fL Tryz.prog 27=some [(25,0)]:=by kernel_rfl
theorem VN:tG Tryz.prog 27 bw bw.cells Tj:=fun {H} enc w base sp A fuel cs x h=>by
 obtain ⟨hl,hp⟩:=jK Vj h
 obtain ⟨G,AA,D⟩:=hp 0 25 0 rfl
 obtain ⟨F,B,E⟩:=Ve _ _ _ _ _ _ _ _ D
 refine ⟨⟨F⟩,?_,⟨E⟩⟩
 have C:=ia (hl.trans Uu) (by rw [VQ]) B
 exact C
theorem V1:Tryz.prog.cellsOf 28=1:=by kernel_rfl
theorem PT:Tryz.prog.cellsOf 119=2:=by kernel_rfl
theorem Um:Tryz.prog.cellsOf 117=1:=by kernel_rfl
theorem Pm:Tryz.prog.cellsOf 116=3:=by kernel_rfl
structure Ld (w:World) (s:cd):Prop where
 At:zY w s.At
 d_:Ek w s.d_
theorem Ul:fL Tryz.prog 116=some [(3,0),(40,1)]:=by kernel_rfl
theorem Tg:tG Tryz.prog 116 cd cd.cells Ld:=fun {H} enc w base sp A fuel cs x h=>by
 obtain ⟨hl,hp⟩:=jK Ul h
 obtain ⟨M,O,F⟩:=hp 0 3 0 rfl
 obtain ⟨K,B,AA⟩:=BC _ _ _ _ _ _ _ _ F
 obtain ⟨N,P,G⟩:=hp 1 40 1 rfl
 obtain ⟨L,C,J⟩:=EV _ _ _ _ _ _ _ _ G
 refine ⟨⟨K,L⟩,?_,⟨AA,J⟩⟩
 have E:=ia (hl.trans Pm) (by rw [ET]) C
 have D:=dD B (m:=1) (by rw [BB]) E
 exact D
def PG (w:World) (s:bq):Prop:= ∃ l:List cd,s.n=l.length∧(rd s.a l.length 3 (l.map cd.cells)).holds w∧(∀ x∈l,Ld w x)∧l.length≤maxLen∧s.n≤s.c
theorem Sn:tG Tryz.prog 117 bq (fun s=>[vS s.a s.n s.c]) PG:=mH PN Pm Tg
structure KQ (w:World) (s:dh):Prop where
 dv:zY w s.dv
 aV:PG w s.aV
theorem Ui:fL Tryz.prog 119=some [(3,0),(117,1)]:=by kernel_rfl
theorem SL:tG Tryz.prog 119 dh dh.cells KQ:=fun {H} enc w base sp A fuel cs x h=>by
 obtain ⟨hl,hp⟩:=jK Ui h
 obtain ⟨M,O,F⟩:=hp 0 3 0 rfl
 obtain ⟨K,B,AA⟩:=BC _ _ _ _ _ _ _ _ F
 obtain ⟨N,P,G⟩:=hp 1 117 1 rfl
 obtain ⟨L,C,J⟩:=Sn _ _ _ _ _ _ _ _ G
 refine ⟨⟨K,L⟩,?_,⟨AA,J⟩⟩
 have E:=ia (hl.trans PT) (by rw [Um]) C
 have D:=dD B (m:=1) (by rw [BB]) E
 exact D
def Sp (w:World) (s:bq):Prop:= ∃ l:List dh,s.n=l.length∧(rd s.a l.length 2 (l.map dh.cells)).holds w∧(∀ x∈l,KQ w x)∧l.length≤maxLen∧s.n≤s.c
theorem Vs:tG Tryz.prog 28 bq (fun s=>[vS s.a s.n s.c]) Sp:=mH TA PT SL
theorem VR:Tryz.prog.cellsOf 29=1:=by kernel_rfl
theorem PQ:Tryz.prog.cellsOf 121=4:=by kernel_rfl
theorem PY:Tryz.prog.cellsOf 111=3:=by kernel_rfl
structure Pz (w:World) (s:cK):Prop where
 bj:zY w s.bj
 lO:Ek w s.lO
theorem S5:fL Tryz.prog 111=some [(3,0),(40,1)]:=by kernel_rfl
theorem Tu:tG Tryz.prog 111 cK cK.cells Pz:=fun {H} enc w base sp A fuel cs x h=>by
 obtain ⟨hl,hp⟩:=jK S5 h
 obtain ⟨M,O,F⟩:=hp 0 3 0 rfl
 obtain ⟨K,B,AA⟩:=BC _ _ _ _ _ _ _ _ F
 obtain ⟨N,P,G⟩:=hp 1 40 1 rfl
 obtain ⟨L,C,J⟩:=EV _ _ _ _ _ _ _ _ G
 refine ⟨⟨K,L⟩,?_,⟨AA,J⟩⟩
 have E:=ia (hl.trans PY) (by rw [ET]) C
 have D:=dD B (m:=1) (by rw [BB]) E
 exact D
structure Ja (w:World) (s:bG):Prop where
 kZ:Pz w s.kZ
 jH:zY w s.jH
theorem UF:fL Tryz.prog 121=some [(111,0),(3,3)]:=by kernel_rfl
theorem TG:tG Tryz.prog 121 bG bG.cells Ja:=fun {H} enc w base sp A fuel cs x h=>by
 obtain ⟨hl,hp⟩:=jK UF h
 obtain ⟨M,O,F⟩:=hp 0 111 0 rfl
 obtain ⟨K,B,AA⟩:=Tu _ _ _ _ _ _ _ _ F
 obtain ⟨N,P,G⟩:=hp 1 3 3 rfl
 obtain ⟨L,C,J⟩:=BC _ _ _ _ _ _ _ _ G
 refine ⟨⟨K,L⟩,?_,⟨AA,J⟩⟩
 have E:=ia (hl.trans PQ) (by rw [BB]) C
 have D:=dD B (m:=3) (by rw [PY]) E
 exact D
def RX (w:World) (s:bq):Prop:= ∃ l:List bG,s.n=l.length∧(rd s.a l.length 4 (l.map bG.cells)).holds w∧(∀ x∈l,Ja w x)∧l.length≤maxLen∧s.n≤s.c
theorem VX:tG Tryz.prog 29 bq (fun s=>[vS s.a s.n s.c]) RX:=mH Rj PQ TG
structure TK (w:World) (s:bV):Prop where
 aL:Tj w s.aL
 f_:zY w s.f_
 ah:Sp w s.ah
 ae:RX w s.ae
 cq:zY w s.cq
 dM:zY w s.dM
 cD:zY w s.cD
theorem Vq:fL Tryz.prog 31=some [(27,0),(3,1),(28,2),(29,3),(3,4),(3,5),(3,6)]:=by kernel_rfl
theorem VG:tG Tryz.prog 31 bV bV.cells TK:=fun {H} enc w base sp A fuel cs x h=>by
 obtain ⟨hl,hp⟩:=jK Vq h
 obtain ⟨n,u,Q⟩:=hp 0 27 0 rfl
 obtain ⟨e,B,X⟩:=VN _ _ _ _ _ _ _ _ Q
 obtain ⟨o,v,R⟩:=hp 1 3 1 rfl
 obtain ⟨f,C,Y⟩:=BC _ _ _ _ _ _ _ _ R
 obtain ⟨p,y,S⟩:=hp 2 28 2 rfl
 obtain ⟨g,D,Z⟩:=Vs _ _ _ _ _ _ _ _ S
 obtain ⟨q,z,T⟩:=hp 3 29 3 rfl
 obtain ⟨i,E,a⟩:=VX _ _ _ _ _ _ _ _ T
 obtain ⟨r,y4,AA⟩:=hp 4 3 4 rfl
 obtain ⟨j,F,b⟩:=BC _ _ _ _ _ _ _ _ AA
 obtain ⟨s,y5,V⟩:=hp 5 3 5 rfl
 obtain ⟨k,G,c⟩:=BC _ _ _ _ _ _ _ _ V
 obtain ⟨t,y6,W⟩:=hp 6 3 6 rfl
 obtain ⟨l,AB,d⟩:=BC _ _ _ _ _ _ _ _ W
 refine ⟨⟨e,f,g,i,j,k,l⟩,?_,⟨X,Y,Z,a,b,c,d⟩⟩
 have P:=ia (hl.trans TZ) (by rw [BB]) AB
 have O:=dD G (m:=6) (by rw [BB]) P
 have N:=dD F (m:=5) (by rw [BB]) O
 have M:=dD E (m:=4) (by rw [VR]) N
 have L:=dD D (m:=3) (by rw [V1]) M
 have K:=dD C (m:=2) (by rw [BB]) L
 have J:=dD B (m:=1) (by rw [Uu]) K
 exact J
theorem Uk:Tryz.prog.cellsOf 32=1:=by kernel_rfl
def Q0 (w:World) (s:bq):Prop:= ∃ l:List Int,s.n=l.length∧(rd s.a l.length 1 (l.map iC)).holds w∧(∀ x∈l,zY w x)∧l.length≤maxLen∧s.n≤s.c
theorem Ub:tG Tryz.prog 32 bq (fun s=>[vS s.a s.n s.c]) Q0:=mH T_ BB BC
theorem V0:Tryz.prog.cellsOf 33=1:=by kernel_rfl
theorem Vt:Tryz.prog.cellsOf 46=1:=by kernel_rfl
theorem Uf:Tryz.prog.cellsOf 45=7:=by kernel_rfl
theorem Wa:Tryz.prog.cellsOf 4=1:=by kernel_rfl
def Vx (w:World) (n:Bool):Prop:=True
theorem V3:tG Tryz.prog 4 Bool (fun b=>[vB b]) Vx:=O4 UM
theorem Tp:Tryz.prog.cellsOf 43=3:=by kernel_rfl
theorem UT:Tryz.prog.cellsOf 41=1:=by kernel_rfl
theorem Ph:Tryz.prog.cellsOf 123=2:=by kernel_rfl
structure Lg (w:World) (s:aJ):Prop where
 gk:zY w s.gk
 Read:zY w s.Read
theorem S6:fL Tryz.prog 123=some [(3,0),(3,1)]:=by kernel_rfl
theorem SN:tG Tryz.prog 123 aJ aJ.cells Lg:=fun {H} enc w base sp A fuel cs x h=>by
 obtain ⟨hl,hp⟩:=jK S6 h
 obtain ⟨M,O,F⟩:=hp 0 3 0 rfl
 obtain ⟨K,B,AA⟩:=BC _ _ _ _ _ _ _ _ F
 obtain ⟨N,P,G⟩:=hp 1 3 1 rfl
 obtain ⟨L,C,J⟩:=BC _ _ _ _ _ _ _ _ G
 refine ⟨⟨K,L⟩,?_,⟨AA,J⟩⟩
 have E:=ia (hl.trans Ph) (by rw [BB]) C
 have D:=dD B (m:=1) (by rw [BB]) E
 exact D
def Us (w:World) (s:bq):Prop:= ∃ l:List aJ,s.n=l.length∧(rd s.a l.length 2 (l.map aJ.cells)).holds w∧(∀ x∈l,Lg w x)∧l.length≤maxLen∧s.n≤s.c
theorem Vg:tG Tryz.prog 41 bq (fun s=>[vS s.a s.n s.c]) Us:=mH Ud Ph SN
structure SS (w:World) (s:dL):Prop where
 Start:zY w s.Start
 fZ:zY w s.fZ
 ai:Us w s.ai
theorem U6:fL Tryz.prog 43=some [(3,0),(3,1),(41,2)]:=by kernel_rfl
theorem VZ:tG Tryz.prog 43 dL dL.cells SS:=fun {H} enc w base sp A fuel cs x h=>by
 obtain ⟨hl,hp⟩:=jK U6 h
 obtain ⟨R,AA,AB⟩:=hp 0 3 0 rfl
 obtain ⟨O,B,L⟩:=BC _ _ _ _ _ _ _ _ AB
 obtain ⟨S,V,J⟩:=hp 1 3 1 rfl
 obtain ⟨P,C,M⟩:=BC _ _ _ _ _ _ _ _ J
 obtain ⟨T,W,K⟩:=hp 2 41 2 rfl
 obtain ⟨Q,D,N⟩:=Vg _ _ _ _ _ _ _ _ K
 refine ⟨⟨O,P,Q⟩,?_,⟨L,M,N⟩⟩
 have G:=ia (hl.trans Tp) (by rw [UT]) D
 have F:=dD C (m:=2) (by rw [BB]) G
 have E:=dD B (m:=1) (by rw [BB]) F
 exact E
structure Q4 (w:World) (s:bg):Prop where
 Out:Vx w s.Out
 dZ:Vx w s.dZ
 Time:Ek w s.Time
 b_:SS w s.b_
theorem VB:fL Tryz.prog 45=some [(4,0),(4,1),(40,2),(43,4)]:=by kernel_rfl
theorem U_:tG Tryz.prog 45 bg bg.cells Q4:=fun {H} enc w base sp A fuel cs x h=>by
 obtain ⟨hl,hp⟩:=jK VB h
 obtain ⟨W,a,K⟩:=hp 0 4 0 rfl
 obtain ⟨S,B,O⟩:=V3 _ _ _ _ _ _ _ _ K
 obtain ⟨X,b,L⟩:=hp 1 4 1 rfl
 obtain ⟨T,C,P⟩:=V3 _ _ _ _ _ _ _ _ L
 obtain ⟨Y,c,M⟩:=hp 2 40 2 rfl
 obtain ⟨AA,D,Q⟩:=EV _ _ _ _ _ _ _ _ M
 obtain ⟨Z,d,N⟩:=hp 3 43 4 rfl
 obtain ⟨V,E,R⟩:=VZ _ _ _ _ _ _ _ _ N
 refine ⟨⟨S,T,AA,V⟩,?_,⟨O,P,Q,R⟩⟩
 have J:=ia (hl.trans Uf) (by rw [Tp]) E
 have AB:=dD D (m:=4) (by rw [ET]) J
 have G:=dD C (m:=2) (by rw [Wa]) AB
 have F:=dD B (m:=1) (by rw [Wa]) G
 exact F
def QK (w:World) (s:bq):Prop:= ∃ l:List bg,s.n=l.length∧(rd s.a l.length 7 (l.map bg.cells)).holds w∧(∀ x∈l,Q4 w x)∧l.length≤maxLen∧s.n≤s.c
theorem VM:tG Tryz.prog 46 bq (fun s=>[vS s.a s.n s.c]) QK:=mH Sm Uf U_
def Te (w:World) (s:bq):Prop:= ∃ l:List bq,s.n=l.length∧(rd s.a l.length 1 (l.map (fun s=>[vS s.a s.n s.c]))).holds w∧(∀ x∈l,QK w x)∧l.length≤maxLen∧s.n≤s.c
theorem Vn:tG Tryz.prog 33 bq (fun s=>[vS s.a s.n s.c]) Te:=mH RW Vt VM
structure U2 (w:World) (s:cr):Prop where
 an:TK w s.an
 aK:Q0 w s.aK
 bL:Q0 w s.bL
 gZ:zY w s.gZ
 ao:Te w s.ao
theorem Tq:fL Tryz.prog 35=some [(31,0),(32,7),(32,8),(3,9),(33,10)]:=by kernel_rfl
theorem VH:tG Tryz.prog 35 cr cr.cells U2:=fun {H} enc w base sp A fuel cs x h=>by
 obtain ⟨hl,hp⟩:=jK Tq h
 obtain ⟨b,g,M⟩:=hp 0 31 0 rfl
 obtain ⟨W,B,R⟩:=VG _ _ _ _ _ _ _ _ M
 obtain ⟨c,i,N⟩:=hp 1 32 7 rfl
 obtain ⟨X,C,S⟩:=Ub _ _ _ _ _ _ _ _ N
 obtain ⟨d,j,O⟩:=hp 2 32 8 rfl
 obtain ⟨Y,D,T⟩:=Ub _ _ _ _ _ _ _ _ O
 obtain ⟨e,k,P⟩:=hp 3 3 9 rfl
 obtain ⟨Z,E,AA⟩:=BC _ _ _ _ _ _ _ _ P
 obtain ⟨f,l,Q⟩:=hp 4 33 10 rfl
 obtain ⟨a,F,V⟩:=Vn _ _ _ _ _ _ _ _ Q
 refine ⟨⟨W,X,Y,Z,a⟩,?_,⟨R,S,T,AA,V⟩⟩
 have L:=ia (hl.trans US) (by rw [V0]) F
 have K:=dD E (m:=10) (by rw [BB]) L
 have J:=dD D (m:=9) (by rw [Uk]) K
 have AB:=dD C (m:=8) (by rw [Uk]) J
 have G:=dD B (m:=7) (by rw [TZ]) AB
 exact G
theorem vw:ownKnob Tryz.prog.godebug=none:=by kernel_rfl
theorem uJ:laidOutB Tryz.prog=true:=by kernel_rfl
theorem sv (os:Os) (started:os.Started) (H:Type) (enc:TypeId×Value→H):
 ReturnsInHanded {} Tryz.checked os 5 .any (fun w args=>(Rows.raceRepairedSpec.pre enc Tryz.prog Tryz.f5 [] false w args∧laidMetH Tryz.prog [("kreisel/race.table",Rows.laid_kreisel_race_table)] w)∧sizedMet enc Tryz.prog Tryz.f5 (OpenSpec.ofChange Rows.raceRepairedSpec) false w args) (Rows.raceRepairedSpec.post enc Tryz.prog Tryz.f5 false true false false):=by
 refine returnsInHanded_of_change_and (C:=Tryz.checked) (X:=(fun w _=>laidMetH Tryz.prog [("kreisel/race.table",Rows.laid_kreisel_race_table)] w)) (fun _ _ _ hh h=>h.of_heap hh) vw started kr Tryz.func5
  (ChangeSpec.witness_shaped (enc:=enc) (C:=Tryz.checked) (os:=os) (X:=(fun w _=>laidMetH Tryz.prog [("kreisel/race.table",Rows.laid_kreisel_race_table)] w)) false (World.doorLaid Tryz.prog 400 os) #[.agg #[(vS none 0 0),(vI 0),(vS none 0 0),(vS none 0 0),(vI 0),(vI 0),(vI 0),(vS none 0 0),(vS none 0 0),(vI 0),(vS none 0 0)],Value.int .u8 0,Value.int .u8 0,.agg #[(vI 0),(vI 0)]] 8 rfl (World.shaped_of_RefB kr kr) kr kr kr (Fq os _)) ?_
 intro W base args ds gs before E hW _ _ hL _
 have D: ∀ (j:Nat) t v,Tryz.f5.params[j]? =some t→args[j]? =some v→Value.okWide Tryz.prog W .any base t v:=E
 have hW':=hW
 obtain ⟨p,q,K,hV,rfl,f,g⟩:=hW
 have hA:DataW.TrodAll enc Tryz.prog W 0 (fun _=>true) true Tryz.f5.params.toList args.toList ds p:=K
 have F:=hA
 rw [Tryz.params5] at hA D
 obtain ⟨Q,y,d0,AA,p0,q0,L,rfl,rfl,a,i⟩:=trodAll_cons hA
 obtain ⟨R,z,d1,V,p1,q1,rfl,rfl,rfl,b,l⟩:=trodAll_cons i
 obtain ⟨S,AC,d2,Y,p2,q2,rfl,rfl,rfl,c,m⟩:=trodAll_cons l
 obtain ⟨T,AO,d3,Z,p3,q3,rfl,rfl,rfl,d,n⟩:=trodAll_cons m
 obtain ⟨rfl,rfl,rfl⟩:=trodAll_nil n
 obtain rfl:args= #[Q,R,S,T]:=by cases args; simp_all
 obtain ⟨rfl,rfl⟩:=trodVars_none hV
 obtain ⟨s0,rfl,R0⟩:=xL Tq VH (D 0 35 Q rfl rfl) a
 obtain ⟨o,rfl,R1⟩:=Gp (k:= .u8) N8 (D 1 5 R rfl rfl) b
 obtain ⟨s,rfl,R2⟩:=Gp (k:= .u8) N8 (D 2 5 S rfl rfl) c
 obtain ⟨u,rfl,R3⟩:=xL SI EV (D 3 40 T rfl rfl) d
 simp only [List.append_nil] at hW' F
 have J:=yV hL
 obtain ⟨r,az,ha,kA,kC,cA,cC,bA,bC,O,P,drA,drC,M,N,rfl,G,B⟩:=Ix (R1:=Lr) (R2:=KQ) (R3:=Ja) (R4:=Ld) (R5:=zY) (R6:=QK) (R7:=Q4) (R8:=Lg) R0.an.aL.lp (fun x hx=>hx.iZ) R0.an.ah (fun x hx=>hx.aV) R0.an.ae R0.aK R0.bL R0.ao (fun x hx=>hx) (fun x hx=>hx.b_.ai)
 have AB:=(xh r kA kC az cA cC bA bC O P drA drC ha M N o s u G R1 R2).run W (by intro A hA; simp only [bE,List.not_mem_nil,or_false] at hA; rcases hA with rfl|rfl|rfl|rfl|rfl|rfl|rfl|rfl|rfl; exact J; exact B.1; exact B.2.1; exact B.2.2.1; exact B.2.2.2.1; exact B.2.2.2.2.1; exact B.2.2.2.2.2.1; exact B.2.2.2.2.2.2.1; exact B.2.2.2.2.2.2.2)
 refine (AB).mono fun e W' ⟨he,hk⟩=>?_
 subst he
 exact ⟨_,U,Ma uJ hW' F U U kr hk.below kr UM⟩
theorem tp:Rows.RaceRepairedSaid:=
 OpenClaim.holds_of_wide 5 Tryz.f5 rfl rfl rfl rfl rfl rfl rfl ⟨rfl,rfl,rfl,rfl,rfl⟩ rfl rfl rfl rfl rfl kr Tryz.func5 sr
  (of_decide_eq_true kr) (by unfold Func.isWrapper; first|(rw [if_pos (by decide+kernel)]; kernel_rfl)|(rw [if_neg (by decide+kernel)]; exact ⟨rfl,rfl⟩))
  (fun os started H enc _=>sv os started H enc)
/-- the statement -/
theorem raceRepaired_said:Rows.RaceRepairedCardSaid:=
 Claim7.holds_tied_plain_at .later [] [.funcsDeep] true (true,"088415838787c5430f0abdddd979ed2a5db6662ea085e3210461bc02ff0f1fa1") true
  tp (fun _ h=>by cases h) kr (fun _ h=>by cases h) raceRepaired_row_tie rfl ⟨rfl,rfl⟩ kr rfl
  (fun f fn hf B=>by
   obtain rfl:f=5:=Option.some.inj ((show Tryz.prog.funcNamed "kreisel/kreisellaw06.RaceRepaired"=some 5 by kernel_rfl).symm.trans hf) |>.symm
   obtain rfl:fn=Tryz.f5:=(Option.some.inj (Tryz.func5.symm.trans B)).symm
   exact ⟨kr,fun j t ht=>by
    rw [Tryz.params5] at ht
    have hm:t∈([35,5,5,40]:List Nat):=by simpa using Array.mem_of_getElem? ht
    have A:(([35,5,5,40]:List Nat).all fun u=> !Tryz.prog.wantsStandIn u)=true:=by kernel_rfl
    exact (show Tryz.prog.wantsStandIn t=false by simpa using cZ.1 A t hm)⟩)
  kr
#print axioms raceRepaired_said
end
end Go.Proofs.YtadjgjnicdcjbaaGreatDoor
