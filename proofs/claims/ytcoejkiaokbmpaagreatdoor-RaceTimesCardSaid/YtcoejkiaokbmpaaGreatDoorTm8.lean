/-
 The statement raceTimes_said, part 8 of 8: Times0.
 Conditions: none.
-/
import Derived.Test.YtcoejkiaokbmpaaGreatDoorTm1
import Derived.Test.YtcoejkiaokbmpaaGreatDoorTm2
import Derived.Test.YtcoejkiaokbmpaaGreatDoorTm3
import Derived.Test.YtcoejkiaokbmpaaGreatDoorTm4
import Derived.Test.YtcoejkiaokbmpaaGreatDoorTm5
import Derived.Test.YtcoejkiaokbmpaaGreatDoorTm6
import Derived.Test.YtcoejkiaokbmpaaGreatDoorTm7
import Derived.Test.YtcoejkiaokbmpaaGreatDoorCards
import Derived.Test.YtcoejkiaokbmpaaGreatDoorTie
import Derived.SevenTiedAt
import Derived.LaidMore
import Derived.Stop.Joined
import Derived.Test.YtcoejkiaokbmpaaGreatDoorRows
import Derived.Test.YtcoejkiaokbmpaaGreatDoorProg
import Derived.KernelRfl
namespace Go.Proofs.YtcoejkiaokbmpaaGreatDoor
set_option maxRecDepth 100000
set_option maxHeartbeats 4000000
set_option linter.unusedVariables false
section
open Go.ChangeShapes Go.WideShapes Go.ChangeAt Go.RowKit
theorem Pd:Tryz.prog.cellsOf 32=11:=by kernel_rfl
theorem Lw:Tryz.prog.cellsOf 28=7:=by kernel_rfl
theorem Mz:Tryz.prog.cellsOf 24=1:=by kernel_rfl
theorem O4:Tryz.prog.cellsOf 22=1:=by kernel_rfl
theorem Ja:Tryz.prog.cellsOf 163=9:=by kernel_rfl
theorem xL:Tryz.prog.cellsOf 3=1:=by kernel_rfl
def vZ (w:World) (n:Int):Prop:=ot n
theorem xP:qg Tryz.prog 3 Int iC vZ:=Kv p_
theorem Ac:Tryz.prog.cellsOf 47=2:=by kernel_rfl
structure zV (w:World) (s:aa):Prop where
 Lo:vZ w s.Lo
 Hi:vZ w s.Hi
theorem Ox:fL Tryz.prog 47=some [(3,0),(3,1)]:=by kernel_rfl
theorem CY:qg Tryz.prog 47 aa aa.cells zV:=fun {H} enc w base sp A fuel cs x h=>by
 obtain ⟨hl,hp⟩:=ib Ox h
 obtain ⟨M,O,F⟩:=hp 0 3 0 rfl
 obtain ⟨K,B,AA⟩:=xP _ _ _ _ _ _ _ _ F
 obtain ⟨N,P,G⟩:=hp 1 3 1 rfl
 obtain ⟨L,C,J⟩:=xP _ _ _ _ _ _ _ _ G
 refine ⟨⟨K,L⟩,?_,⟨AA,J⟩⟩
 have E:=fX (hl.trans Ac) (by rw [xL]) C
 have D:=cO B (m:=1) (by rw [xL]) E
 exact D
theorem PE:Tryz.prog.cellsOf 5=1:=by kernel_rfl
def Pw (w:World) (n:Int):Prop:=0≤n∧n≤255
theorem PB:qg Tryz.prog 5 Int FR Pw:=Nj Mm
structure Fy (w:World) (s:aj):Prop where
 Id:vZ w s.Id
 ia:zV w s.ia
 jh:zV w s.jh
 dh:zV w s.dh
 gI:Pw w s.gI
 u3:vZ w s.u3
theorem ML:fL Tryz.prog 163=some [(3,0),(47,1),(47,3),(47,5),(5,7),(3,8)]:=by kernel_rfl
theorem Lu:qg Tryz.prog 163 aj aj.cells Fy:=fun {H} enc w base sp A fuel cs x h=>by
 obtain ⟨hl,hp⟩:=ib ML h
 obtain ⟨g,p,O⟩:=hp 0 3 0 rfl
 obtain ⟨a,B,AA⟩:=xP _ _ _ _ _ _ _ _ O
 obtain ⟨i,q,P⟩:=hp 1 47 1 rfl
 obtain ⟨b,C,V⟩:=CY _ _ _ _ _ _ _ _ P
 obtain ⟨j,r,Q⟩:=hp 2 47 3 rfl
 obtain ⟨c,D,W⟩:=CY _ _ _ _ _ _ _ _ Q
 obtain ⟨k,s,R⟩:=hp 3 47 5 rfl
 obtain ⟨d,E,X⟩:=CY _ _ _ _ _ _ _ _ R
 obtain ⟨l,t,S⟩:=hp 4 5 7 rfl
 obtain ⟨e,F,Y⟩:=PB _ _ _ _ _ _ _ _ S
 obtain ⟨o,u,T⟩:=hp 5 3 8 rfl
 obtain ⟨f,G,Z⟩:=xP _ _ _ _ _ _ _ _ T
 refine ⟨⟨a,b,c,d,e,f⟩,?_,⟨AA,V,W,X,Y,Z⟩⟩
 have N:=fX (hl.trans Ja) (by rw [xL]) G
 have M:=cO F (m:=8) (by rw [PE]) N
 have L:=cO E (m:=7) (by rw [Ac]) M
 have K:=cO D (m:=5) (by rw [Ac]) L
 have J:=cO C (m:=3) (by rw [Ac]) K
 have AB:=cO B (m:=1) (by rw [xL]) J
 exact AB
def Nz (w:World) (s:bE):Prop:= ∃ l:List aj,s.n=l.length∧(rd s.a l.length 9 (l.map aj.cells)).holds w∧(∀ x∈l,Fy w x)∧l.length≤maxLen∧s.n≤s.c
theorem Pn:qg Tryz.prog 22 bE (fun s=>[vS s.a s.n s.c]) Nz:=kv Ny Ja Lu
structure MB (w:World) (s:bB):Prop where
 jH:Nz w s.jH
theorem Oq:fL Tryz.prog 24=some [(22,0)]:=by kernel_rfl
theorem O8:qg Tryz.prog 24 bB bB.cells MB:=fun {H} enc w base sp A fuel cs x h=>by
 obtain ⟨hl,hp⟩:=ib Oq h
 obtain ⟨G,AA,D⟩:=hp 0 22 0 rfl
 obtain ⟨F,B,E⟩:=Pn _ _ _ _ _ _ _ _ D
 refine ⟨⟨F⟩,?_,⟨E⟩⟩
 have C:=fX (hl.trans Mz) (by rw [O4]) B
 exact C
theorem OD:Tryz.prog.cellsOf 25=1:=by kernel_rfl
theorem Jg:Tryz.prog.cellsOf 119=2:=by kernel_rfl
theorem Ls:Tryz.prog.cellsOf 117=1:=by kernel_rfl
theorem I8:Tryz.prog.cellsOf 137=3:=by kernel_rfl
structure G3 (w:World) (s:bY):Prop where
 At:vZ w s.At
 dg:zV w s.dg
theorem MJ:fL Tryz.prog 137=some [(3,0),(47,1)]:=by kernel_rfl
theorem Md:qg Tryz.prog 137 bY bY.cells G3:=fun {H} enc w base sp A fuel cs x h=>by
 obtain ⟨hl,hp⟩:=ib MJ h
 obtain ⟨M,O,F⟩:=hp 0 3 0 rfl
 obtain ⟨K,B,AA⟩:=xP _ _ _ _ _ _ _ _ F
 obtain ⟨N,P,G⟩:=hp 1 47 1 rfl
 obtain ⟨L,C,J⟩:=CY _ _ _ _ _ _ _ _ G
 refine ⟨⟨K,L⟩,?_,⟨AA,J⟩⟩
 have E:=fX (hl.trans I8) (by rw [Ac]) C
 have D:=cO B (m:=1) (by rw [xL]) E
 exact D
def I0 (w:World) (s:bE):Prop:= ∃ l:List bY,s.n=l.length∧(rd s.a l.length 3 (l.map bY.cells)).holds w∧(∀ x∈l,G3 w x)∧l.length≤maxLen∧s.n≤s.c
theorem Mw:qg Tryz.prog 117 bE (fun s=>[vS s.a s.n s.c]) I0:=kv M0 I8 Md
structure Ge (w:World) (s:cT):Prop where
 cJ:vZ w s.cJ
 aK:I0 w s.aK
theorem Ly:fL Tryz.prog 119=some [(3,0),(117,1)]:=by kernel_rfl
theorem L9:qg Tryz.prog 119 cT cT.cells Ge:=fun {H} enc w base sp A fuel cs x h=>by
 obtain ⟨hl,hp⟩:=ib Ly h
 obtain ⟨M,O,F⟩:=hp 0 3 0 rfl
 obtain ⟨K,B,AA⟩:=xP _ _ _ _ _ _ _ _ F
 obtain ⟨N,P,G⟩:=hp 1 117 1 rfl
 obtain ⟨L,C,J⟩:=Mw _ _ _ _ _ _ _ _ G
 refine ⟨⟨K,L⟩,?_,⟨AA,J⟩⟩
 have E:=fX (hl.trans Jg) (by rw [Ls]) C
 have D:=cO B (m:=1) (by rw [xL]) E
 exact D
def M1 (w:World) (s:bE):Prop:= ∃ l:List cT,s.n=l.length∧(rd s.a l.length 2 (l.map cT.cells)).holds w∧(∀ x∈l,Ge w x)∧l.length≤maxLen∧s.n≤s.c
theorem OF:qg Tryz.prog 25 bE (fun s=>[vS s.a s.n s.c]) M1:=kv Ol Jg L9
theorem Oj:Tryz.prog.cellsOf 26=1:=by kernel_rfl
theorem Jb:Tryz.prog.cellsOf 141=4:=by kernel_rfl
theorem Jl:Tryz.prog.cellsOf 139=3:=by kernel_rfl
structure Jp (w:World) (s:ct):Prop where
 aM:vZ w s.aM
 jW:zV w s.jW
theorem NJ:fL Tryz.prog 139=some [(3,0),(47,1)]:=by kernel_rfl
theorem NC:qg Tryz.prog 139 ct ct.cells Jp:=fun {H} enc w base sp A fuel cs x h=>by
 obtain ⟨hl,hp⟩:=ib NJ h
 obtain ⟨M,O,F⟩:=hp 0 3 0 rfl
 obtain ⟨K,B,AA⟩:=xP _ _ _ _ _ _ _ _ F
 obtain ⟨N,P,G⟩:=hp 1 47 1 rfl
 obtain ⟨L,C,J⟩:=CY _ _ _ _ _ _ _ _ G
 refine ⟨⟨K,L⟩,?_,⟨AA,J⟩⟩
 have E:=fX (hl.trans Jl) (by rw [Ac]) C
 have D:=cO B (m:=1) (by rw [xL]) E
 exact D
structure GU (w:World) (s:bL):Prop where
 jx:Jp w s.jx
 ig:vZ w s.ig
theorem LG:fL Tryz.prog 141=some [(139,0),(3,3)]:=by kernel_rfl
theorem Lt:qg Tryz.prog 141 bL bL.cells GU:=fun {H} enc w base sp A fuel cs x h=>by
 obtain ⟨hl,hp⟩:=ib LG h
 obtain ⟨M,O,F⟩:=hp 0 139 0 rfl
 obtain ⟨K,B,AA⟩:=NC _ _ _ _ _ _ _ _ F
 obtain ⟨N,P,G⟩:=hp 1 3 3 rfl
 obtain ⟨L,C,J⟩:=xP _ _ _ _ _ _ _ _ G
 refine ⟨⟨K,L⟩,?_,⟨AA,J⟩⟩
 have E:=fX (hl.trans Jb) (by rw [xL]) C
 have D:=cO B (m:=3) (by rw [Jl]) E
 exact D
def L7 (w:World) (s:bE):Prop:= ∃ l:List bL,s.n=l.length∧(rd s.a l.length 4 (l.map bL.cells)).holds w∧(∀ x∈l,GU w x)∧l.length≤maxLen∧s.n≤s.c
theorem OB:qg Tryz.prog 26 bE (fun s=>[vS s.a s.n s.c]) L7:=kv MK Jb Lt
structure LS (w:World) (s:cb):Prop where
 aH:MB w s.aH
 gY:vZ w s.gY
 ah:M1 w s.ah
 ab:L7 w s.ab
 cQ:vZ w s.cQ
 eO:vZ w s.eO
 cW:vZ w s.cW
theorem Pk:fL Tryz.prog 28=some [(24,0),(3,1),(25,2),(26,3),(3,4),(3,5),(3,6)]:=by kernel_rfl
theorem OI:qg Tryz.prog 28 cb cb.cells LS:=fun {H} enc w base sp A fuel cs x h=>by
 obtain ⟨hl,hp⟩:=ib Pk h
 obtain ⟨o,v,Q⟩:=hp 0 24 0 rfl
 obtain ⟨e,B,X⟩:=O8 _ _ _ _ _ _ _ _ Q
 obtain ⟨p,y,R⟩:=hp 1 3 1 rfl
 obtain ⟨f,C,Y⟩:=xP _ _ _ _ _ _ _ _ R
 obtain ⟨q,z,S⟩:=hp 2 25 2 rfl
 obtain ⟨g,D,Z⟩:=OF _ _ _ _ _ _ _ _ S
 obtain ⟨r,y3,T⟩:=hp 3 26 3 rfl
 obtain ⟨i,E,a⟩:=OB _ _ _ _ _ _ _ _ T
 obtain ⟨s,y4,AA⟩:=hp 4 3 4 rfl
 obtain ⟨j,F,b⟩:=xP _ _ _ _ _ _ _ _ AA
 obtain ⟨t,y5,V⟩:=hp 5 3 5 rfl
 obtain ⟨k,G,c⟩:=xP _ _ _ _ _ _ _ _ V
 obtain ⟨u,y6,W⟩:=hp 6 3 6 rfl
 obtain ⟨l,AB,d⟩:=xP _ _ _ _ _ _ _ _ W
 refine ⟨⟨e,f,g,i,j,k,l⟩,?_,⟨X,Y,Z,a,b,c,d⟩⟩
 have P:=fX (hl.trans Lw) (by rw [xL]) AB
 have O:=cO G (m:=6) (by rw [xL]) P
 have N:=cO F (m:=5) (by rw [xL]) O
 have M:=cO E (m:=4) (by rw [Oj]) N
 have L:=cO D (m:=3) (by rw [OD]) M
 have K:=cO C (m:=2) (by rw [xL]) L
 have J:=cO B (m:=1) (by rw [Mz]) K
 exact J
theorem M9:Tryz.prog.cellsOf 29=1:=by kernel_rfl
def KR (w:World) (s:bE):Prop:= ∃ l:List Int,s.n=l.length∧(rd s.a l.length 1 (l.map iC)).holds w∧(∀ x∈l,vZ w x)∧l.length≤maxLen∧s.n≤s.c
theorem LR:qg Tryz.prog 29 bE (fun s=>[vS s.a s.n s.c]) KR:=kv Nu xL xP
theorem OO:Tryz.prog.cellsOf 30=1:=by kernel_rfl
theorem Pa:Tryz.prog.cellsOf 71=1:=by kernel_rfl
theorem Mg:Tryz.prog.cellsOf 76=7:=by kernel_rfl
theorem Pq:Tryz.prog.cellsOf 4=1:=by kernel_rfl
def Oa (w:World) (n:Bool):Prop:=True
theorem Po:qg Tryz.prog 4 Bool (fun b=>[vB b]) Oa:=IL NW
theorem Mk:Tryz.prog.cellsOf 74=3:=by kernel_rfl
theorem N3:Tryz.prog.cellsOf 72=1:=by kernel_rfl
theorem Js:Tryz.prog.cellsOf 165=2:=by kernel_rfl
structure GI (w:World) (s:aD):Prop where
 e7:vZ w s.e7
 Read:vZ w s.Read
theorem Mt:fL Tryz.prog 165=some [(3,0),(3,1)]:=by kernel_rfl
theorem NK:qg Tryz.prog 165 aD aD.cells GI:=fun {H} enc w base sp A fuel cs x h=>by
 obtain ⟨hl,hp⟩:=ib Mt h
 obtain ⟨M,O,F⟩:=hp 0 3 0 rfl
 obtain ⟨K,B,AA⟩:=xP _ _ _ _ _ _ _ _ F
 obtain ⟨N,P,G⟩:=hp 1 3 1 rfl
 obtain ⟨L,C,J⟩:=xP _ _ _ _ _ _ _ _ G
 refine ⟨⟨K,L⟩,?_,⟨AA,J⟩⟩
 have E:=fX (hl.trans Js) (by rw [xL]) C
 have D:=cO B (m:=1) (by rw [xL]) E
 exact D
def ME (w:World) (s:bE):Prop:= ∃ l:List aD,s.n=l.length∧(rd s.a l.length 2 (l.map aD.cells)).holds w∧(∀ x∈l,GI w x)∧l.length≤maxLen∧s.n≤s.c
theorem Ot:qg Tryz.prog 72 bE (fun s=>[vS s.a s.n s.c]) ME:=kv OU Js NK
structure Ng (w:World) (s:dZ):Prop where
 Start:vZ w s.Start
 eX:vZ w s.eX
 ag:ME w s.ag
theorem O0:fL Tryz.prog 74=some [(3,0),(3,1),(72,2)]:=by kernel_rfl
theorem Pg:qg Tryz.prog 74 dZ dZ.cells Ng:=fun {H} enc w base sp A fuel cs x h=>by
 obtain ⟨hl,hp⟩:=ib O0 h
 obtain ⟨R,AA,AB⟩:=hp 0 3 0 rfl
 obtain ⟨O,B,L⟩:=xP _ _ _ _ _ _ _ _ AB
 obtain ⟨S,V,J⟩:=hp 1 3 1 rfl
 obtain ⟨P,C,M⟩:=xP _ _ _ _ _ _ _ _ J
 obtain ⟨T,W,K⟩:=hp 2 72 2 rfl
 obtain ⟨Q,D,N⟩:=Ot _ _ _ _ _ _ _ _ K
 refine ⟨⟨O,P,Q⟩,?_,⟨L,M,N⟩⟩
 have G:=fX (hl.trans Mk) (by rw [N3]) D
 have F:=cO C (m:=2) (by rw [xL]) G
 have E:=cO B (m:=1) (by rw [xL]) F
 exact E
structure KC (w:World) (s:bq):Prop where
 Out:Oa w s.Out
 de:Oa w s.de
 Time:zV w s.Time
 bO:Ng w s.bO
theorem N7:fL Tryz.prog 76=some [(4,0),(4,1),(47,2),(74,4)]:=by kernel_rfl
theorem ON:qg Tryz.prog 76 bq bq.cells KC:=fun {H} enc w base sp A fuel cs x h=>by
 obtain ⟨hl,hp⟩:=ib N7 h
 obtain ⟨W,a,K⟩:=hp 0 4 0 rfl
 obtain ⟨S,B,O⟩:=Po _ _ _ _ _ _ _ _ K
 obtain ⟨X,b,L⟩:=hp 1 4 1 rfl
 obtain ⟨T,C,P⟩:=Po _ _ _ _ _ _ _ _ L
 obtain ⟨Y,c,M⟩:=hp 2 47 2 rfl
 obtain ⟨AA,D,Q⟩:=CY _ _ _ _ _ _ _ _ M
 obtain ⟨Z,d,N⟩:=hp 3 74 4 rfl
 obtain ⟨V,E,R⟩:=Pg _ _ _ _ _ _ _ _ N
 refine ⟨⟨S,T,AA,V⟩,?_,⟨O,P,Q,R⟩⟩
 have J:=fX (hl.trans Mg) (by rw [Mk]) E
 have AB:=cO D (m:=4) (by rw [Ac]) J
 have G:=cO C (m:=2) (by rw [Pq]) AB
 have F:=cO B (m:=1) (by rw [Pq]) G
 exact F
def Kb (w:World) (s:bE):Prop:= ∃ l:List bq,s.n=l.length∧(rd s.a l.length 7 (l.map bq.cells)).holds w∧(∀ x∈l,KC w x)∧l.length≤maxLen∧s.n≤s.c
theorem Ob:qg Tryz.prog 71 bE (fun s=>[vS s.a s.n s.c]) Kb:=kv O1 Mg ON
def Mr (w:World) (s:bE):Prop:= ∃ l:List bE,s.n=l.length∧(rd s.a l.length 1 (l.map (fun s=>[vS s.a s.n s.c]))).holds w∧(∀ x∈l,Kb w x)∧l.length≤maxLen∧s.n≤s.c
theorem O6:qg Tryz.prog 30 bE (fun s=>[vS s.a s.n s.c]) Mr:=kv Oo Pa Ob
structure O9 (w:World) (s:eC):Prop where
 aF:LS w s.aF
 aT:KR w s.aT
 bo:KR w s.bo
 i_:vZ w s.i_
 ay:Mr w s.ay
theorem Mc:fL Tryz.prog 32=some [(28,0),(29,7),(29,8),(3,9),(30,10)]:=by kernel_rfl
theorem OS:qg Tryz.prog 32 eC eC.cells O9:=fun {H} enc w base sp A fuel cs x h=>by
 obtain ⟨hl,hp⟩:=ib Mc h
 obtain ⟨b,g,M⟩:=hp 0 28 0 rfl
 obtain ⟨W,B,R⟩:=OI _ _ _ _ _ _ _ _ M
 obtain ⟨c,i,N⟩:=hp 1 29 7 rfl
 obtain ⟨X,C,S⟩:=LR _ _ _ _ _ _ _ _ N
 obtain ⟨d,j,O⟩:=hp 2 29 8 rfl
 obtain ⟨Y,D,T⟩:=LR _ _ _ _ _ _ _ _ O
 obtain ⟨e,k,P⟩:=hp 3 3 9 rfl
 obtain ⟨Z,E,AA⟩:=xP _ _ _ _ _ _ _ _ P
 obtain ⟨f,l,Q⟩:=hp 4 30 10 rfl
 obtain ⟨a,F,V⟩:=O6 _ _ _ _ _ _ _ _ Q
 refine ⟨⟨W,X,Y,Z,a⟩,?_,⟨R,S,T,AA,V⟩⟩
 have L:=fX (hl.trans Pd) (by rw [OO]) F
 have K:=cO E (m:=10) (by rw [xL]) L
 have J:=cO D (m:=9) (by rw [M9]) K
 have AB:=cO C (m:=8) (by rw [M9]) J
 have G:=cO B (m:=7) (by rw [Lw]) AB
 exact G
theorem vz:ownKnob Tryz.prog.godebug=none:=by kernel_rfl
theorem vg:laidOutB Tryz.prog=true:=by kernel_rfl
theorem rL (os:Os) (started:os.Started) (H:Type) (enc:TypeId×Value→H):
 ReturnsInHanded {} Tryz.checked os 4 .any (fun w args=>(Rows.raceTimesSpec.pre enc Tryz.prog Tryz.f4 [] false w args∧laidMetH Tryz.prog [("kreisel/race.table",Rows.laid_kreisel_race_table)] w)∧sizedMet enc Tryz.prog Tryz.f4 (OpenSpec.ofChange Rows.raceTimesSpec) false w args) (Rows.raceTimesSpec.post enc Tryz.prog Tryz.f4 false true false false):=by
 refine returnsInHanded_of_change_and (C:=Tryz.checked) (X:=(fun w _=>laidMetH Tryz.prog [("kreisel/race.table",Rows.laid_kreisel_race_table)] w)) (fun _ _ _ hh h=>h.of_heap hh) vz started kr Tryz.func4
  (ChangeSpec.witness_shaped (enc:=enc) (C:=Tryz.checked) (os:=os) (X:=(fun w _=>laidMetH Tryz.prog [("kreisel/race.table",Rows.laid_kreisel_race_table)] w)) false (World.doorLaid Tryz.prog 400 os) #[.agg #[(vS none 0 0),(vI 0),(vS none 0 0),(vS none 0 0),(vI 0),(vI 0),(vI 0),(vS none 0 0),(vS none 0 0),(vI 0),(vS none 0 0)],vI 0,vI 0] 8 rfl (World.shaped_of_RefB kr kr) kr kr kr (Bg os _)) ?_
 intro W base args ds gs before E hW _ _ hL _
 have D: ∀ (j:Nat) t v,Tryz.f4.params[j]? =some t→args[j]? =some v→Value.okWide Tryz.prog W .any base t v:=E
 have hW':=hW
 obtain ⟨p,q,K,hV,rfl,b,c⟩:=hW
 have hA:DataW.TrodAll enc Tryz.prog W 0 (fun _=>true) true Tryz.f4.params.toList args.toList ds p:=K
 have F:=hA
 rw [Tryz.params4] at hA D
 obtain ⟨Q,m,u,T,p0,q0,L,rfl,rfl,Y,d⟩:=trodAll_cons hA
 obtain ⟨R,o,y,AA,p1,q1,rfl,rfl,rfl,Z,f⟩:=trodAll_cons d
 obtain ⟨S,s,z,V,p2,q2,rfl,rfl,rfl,a,g⟩:=trodAll_cons f
 obtain ⟨rfl,rfl,rfl⟩:=trodAll_nil g
 obtain rfl:args= #[Q,R,S]:=by cases args; simp_all
 obtain ⟨rfl,rfl⟩:=trodVars_none hV
 obtain ⟨s0,rfl,R0⟩:=An Mc OS (D 0 32 Q rfl rfl) Y
 obtain ⟨i,rfl,R1⟩:=BQ (k:= .i64) p_ (D 1 3 R rfl rfl) Z
 obtain ⟨l,rfl,R2⟩:=BQ (k:= .i64) p_ (D 2 3 S rfl rfl) a
 simp only [List.append_nil] at hW' F
 have J:=vG hL
 obtain ⟨r,az,ha,kA,kC,cA,cC,bA,bC,O,P,drA,drC,M,N,rfl,G,B⟩:=DG (R1:=Fy) (R2:=Ge) (R3:=GU) (R4:=G3) (R5:=vZ) (R6:=Kb) (R7:=KC) (R8:=GI) R0.aF.aH.jH (fun x hx=>hx.gI) R0.aF.ah (fun x hx=>hx.aK) R0.aF.ab R0.aT R0.bo R0.ay (fun x hx=>hx) (fun x hx=>hx.bO.ag)
 have AB:=(zu r kA kC az cA cC bA bC O P drA drC ha M N i l G).run W (by intro A hA; simp only [g8,List.not_mem_nil,or_false] at hA; rcases hA with rfl|rfl|rfl|rfl|rfl|rfl|rfl|rfl|rfl; exact J; exact B.1; exact B.2.1; exact B.2.2.1; exact B.2.2.2.1; exact B.2.2.2.2.1; exact B.2.2.2.2.2.1; exact B.2.2.2.2.2.2.1; exact B.2.2.2.2.2.2.2)
 refine (AB).mono fun e W' ⟨he,hk⟩=>?_
 subst he
 exact ⟨_,U,GY vg hW' F U U kr hk.below kr NW⟩
theorem sR:Rows.RaceTimesSaid:=
 OpenClaim.holds_of_wide 4 Tryz.f4 rfl rfl rfl rfl rfl rfl rfl ⟨rfl,rfl,rfl,rfl,rfl⟩ rfl rfl rfl rfl rfl kr Tryz.func4 rD
  (of_decide_eq_true kr) (by unfold Func.isWrapper; first|(rw [if_pos (by decide+kernel)]; kernel_rfl)|(rw [if_neg (by decide+kernel)]; exact ⟨rfl,rfl⟩))
  (fun os started H enc _=>rL os started H enc)
/-- the statement -/
theorem raceTimes_said:Rows.RaceTimesCardSaid:=
 Claim7.holds_tied_plain_at .later [] [.funcsDeep] true (true,"981a7e6aa00b04bbbf7562520f02155a1be509dd9d233787eb37c6cf32ecaf8a") true
  sR (fun _ h=>by cases h) kr (fun _ h=>by cases h) raceTimes_row_tie rfl ⟨rfl,rfl⟩ kr rfl
  (fun f fn hf B=>by
   obtain rfl:f=4:=Option.some.inj ((show Tryz.prog.funcNamed "kreisel/kreisellaw06.RaceTimes"=some 4 by kernel_rfl).symm.trans hf) |>.symm
   obtain rfl:fn=Tryz.f4:=(Option.some.inj (Tryz.func4.symm.trans B)).symm
   exact ⟨kr,fun j t ht=>by
    rw [Tryz.params4] at ht
    have hm:t∈([32,3,3]:List Nat):=by simpa using Array.mem_of_getElem? ht
    have A:(([32,3,3]:List Nat).all fun u=> !Tryz.prog.wantsStandIn u)=true:=by kernel_rfl
    exact (show Tryz.prog.wantsStandIn t=false by simpa using List.all_eq_true.1 A t hm)⟩)
  kr
#print axioms raceTimes_said
end
end Go.Proofs.YtcoejkiaokbmpaaGreatDoor
