/-
 The statement postNarrow_said, part 2 of 4: RunA, Tab, Run, Comp, Ret, LoopK, Narw, Mat, MapK, NarM, Drop, Spot, Post, Called, Nest, Queue, Bits, RowsP, Meets, Answers, Best, ExP, Upto, Idx, NarP, MapR, BoolC, DrawB, B1, B2, B3, P1.
 Conditions: none.
-/
import Derived.Test.YtpfjokbjambohaaGreatTz1
import Derived.Test.YtpfjokbjambohaaGreatProg
import Derived.KernelRfl
namespace Go.Proofs.YtpfjokbjambohaaGreat
set_option maxRecDepth 100000
set_option maxHeartbeats 4000000
set_option linter.unusedVariables false
section
open Go.RowKit
/-- a table of facts on the program's types -/
structure pI where
 tk:List (Nat×Bool×Nat)
 fo:List (Nat×List (Option Nat))
 sl:List Nat
def yb {α:Type}:List (Nat×α)→Nat→Option α
 |[],_=>none
 |(k,v)::l,t=>match Nat.beq k t with
  |true=>some v
  |false=>yb l t
theorem ob {α:Type}: ∀ {l:List (Nat×α)} {t:Nat} {v:α},yb l t=some v→(t,v)∈l
 |[],t,v,h=>by simp [yb] at h
 |(k,u)::l,t,v,h=>by
  unfold yb at h
  split at h
  ·rename_i hb
   cases h
   rw [Nat.eq_of_beq_eq_true hb]; exact ez
  ·exact eh _ (ob h)
def uP:List Nat→Nat→Bool
 |[],_=>false
 |k::l,t=>match Nat.beq k t with
  |true=>true
  |false=>uP l t
theorem o1: ∀ {l:List Nat} {t:Nat},uP l t=true→t∈l
 |[],t,h=>by simp [uP] at h
 |k::l,t,h=>by
  unfold uP at h
  split at h
  ·rename_i hb
   rw [Nat.eq_of_beq_eq_true hb]; exact ez
  ·exact eh _ (o1 h)
def pI.uG (T:pI) (t:Nat):Option (Bool×Nat):=yb T.tk t
def pI.foF (T:pI) (s f:Nat):Option Nat:=match yb T.fo s with
 |some l=>match l[f]? with
  |some (some k)=>some k
  |_=>none
 |none=>none
structure fw (P:Program) (T:pI):Prop where
 tk: ∀ p∈T.tk,tK P p.1=some p.2
 fo: ∀ p∈T.fo,∀ f k,p.2[f]? =some (some k)→lO P p.1 f=some k
 sl: ∀ t∈T.sl,∃ e,P.underlying t=some (.slice e)
theorem fw.uG {P:Program} {T:pI} (h:fw P T) {t:Nat} {r:Bool×Nat} (e:T.uG t=some r):tK P t=some r:=h.tk _ (ob e)
theorem fw.foF {P:Program} {T:pI} (h:fw P T) {s f k:Nat} (e:T.foF s f=some k):lO P s f=some k:=by
 unfold pI.foF at e
 split at e
 ·rename_i l hl
  split at e
  ·rename_i k' hk
   cases e
   exact h.fo _ (ob hl) f k hk
  ·cases e
 ·cases e
def zA (P:Program) (T:pI):Bool:=(T.tk.all fun p=>decide (tK P p.1=some p.2))&&(T.fo.all fun p=>(List.range p.2.length).all fun f=>match p.2[f]? with
 |some (some k)=>decide (lO P p.1 f=some k)
 |_=>true)&&T.sl.all fun t=>match P.underlying t with
 |some (.slice _)=>true
 |_=>false
theorem xu {P:Program} {T:pI} (h:zA P T=true):fw P T:=by
 unfold zA at h
 rw [bU,bU] at h
 obtain ⟨⟨B,C⟩,D⟩:=h
 refine ⟨fun p hp=>by simpa using bY.1 B p hp,fun p hp f k hk=>?_,fun t ht=>?_⟩
 ·have A:=bY.1 (bY.1 C p hp) f (List.mem_range.2 (aJ.1 hk).1)
  rw [hk] at A
  simpa using A
 ·have A:=bY.1 D t ht
  split at A
  ·rename_i e he; exact ⟨e,he⟩
  ·cases A
end
section
theorem vw:tK Tryz.prog 3=some (false,1):=by kernel_rfl
theorem AH:tK Tryz.prog 24=some (true,1):=by kernel_rfl
theorem Al:tK Tryz.prog 25=some (false,1):=by kernel_rfl
theorem Af:tK Tryz.prog 26=some (false,1):=by kernel_rfl
theorem xl:tK Tryz.prog 28=some (true,2):=by kernel_rfl
theorem zV:tK Tryz.prog 30=some (true,3):=by kernel_rfl
theorem Aj:tK Tryz.prog 32=some (true,7):=by kernel_rfl
theorem zP:tK Tryz.prog 43=some (false,1):=by kernel_rfl
theorem z5:tK Tryz.prog 56=some (true,5):=by kernel_rfl
theorem Ar:tK Tryz.prog 59=some (true,1):=by kernel_rfl
theorem Aw:tK Tryz.prog 68=some (false,1):=by kernel_rfl
theorem Ak:tK Tryz.prog 70=some (true,7):=by kernel_rfl
theorem zL:tK Tryz.prog 71=some (false,1):=by kernel_rfl
theorem AD:tK Tryz.prog 74=some (false,1):=by kernel_rfl
theorem Ax:tK Tryz.prog 82=some (true,3):=by kernel_rfl
theorem An:tK Tryz.prog 85=some (true,9):=by kernel_rfl
theorem yP:tK Tryz.prog 103=some (true,3):=by kernel_rfl
theorem yE:tK Tryz.prog 118=some (true,1):=by kernel_rfl
theorem yw:tK Tryz.prog 119=some (true,2):=by kernel_rfl
theorem qh:(tK Tryz.prog 3).map (·.2)=some 1:=by rw [vw]; rfl
theorem k6:(tK Tryz.prog 24).map (·.2)=some 1:=by rw [AH]; rfl
theorem z6:(tK Tryz.prog 25).map (·.2)=some 1:=by rw [Al]; rfl
theorem AZ:(tK Tryz.prog 26).map (·.2)=some 1:=by rw [Af]; rfl
theorem dB:(tK Tryz.prog 28).map (·.2)=some 2:=by rw [xl]; rfl
theorem zK:(tK Tryz.prog 30).map (·.2)=some 3:=by rw [zV]; rfl
theorem w8:(tK Tryz.prog 32).map (·.2)=some 7:=by rw [Aj]; rfl
theorem AI:(tK Tryz.prog 43).map (·.2)=some 1:=by rw [zP]; rfl
theorem tq:(tK Tryz.prog 56).map (·.2)=some 5:=by rw [z5]; rfl
theorem qH:(tK Tryz.prog 59).map (·.2)=some 1:=by rw [Ar]; rfl
theorem Ae:(tK Tryz.prog 68).map (·.2)=some 1:=by rw [Aw]; rfl
theorem vh:(tK Tryz.prog 70).map (·.2)=some 7:=by rw [Ak]; rfl
theorem yg:(tK Tryz.prog 71).map (·.2)=some 1:=by rw [zL]; rfl
theorem z4:(tK Tryz.prog 74).map (·.2)=some 1:=by rw [AD]; rfl
theorem yJ:(tK Tryz.prog 82).map (·.2)=some 3:=by rw [Ax]; rfl
theorem zb:(tK Tryz.prog 85).map (·.2)=some 9:=by rw [An]; rfl
theorem wx:(tK Tryz.prog 103).map (·.2)=some 3:=by rw [yP]; rfl
theorem wA:(tK Tryz.prog 118).map (·.2)=some 1:=by rw [yE]; rfl
theorem yZ:(tK Tryz.prog 119).map (·.2)=some 2:=by rw [yw]; rfl
theorem q4:aE Tryz.prog 103=some (3,102,1):=by kernel_rfl
theorem eO:aE Tryz.prog 105=some (13,3,1):=by kernel_rfl
theorem eN:aE Tryz.prog 107=some (13,105,13):=by kernel_rfl
theorem AS:jA Tryz.prog 40=true:=by kernel_rfl
theorem AV:jA Tryz.prog 69=true:=by kernel_rfl
theorem zX:jA Tryz.prog 90=true:=by kernel_rfl
theorem lM (l:List aG): ∀ v∈(l.map aG.cells).flatten,v.oneCell'=true:=hO (fun _=>rfl) l
theorem lL (l:List aV): ∀ v∈(l.map aV.cells).flatten,v.oneCell'=true:=hO (fun _=>rfl) l
theorem lJ (l:List bc): ∀ v∈(l.map bc.cells).flatten,v.oneCell'=true:=hO (fun _=>rfl) l
theorem gA (l:List aa): ∀ v∈(l.map aa.cells).flatten,v.oneCell'=true:=hO (fun _=>rfl) l
theorem za:tA Tryz.prog 22=some (85,9,72,(Value.agg [(vI 0),(vI 0),(vI 0),(vI 0),(vI 0),(vI 0),(vI 0),(Value.int .u8 0),(vI 0)].toArray)):=by kernel_rfl
theorem A9:tA Tryz.prog 25=some (70,7,56,(Value.agg [(vI 0),(Value.int .u8 0),(vI 0),(vI 0),(vI 0),(vI 0),(vI 0)].toArray)):=by kernel_rfl
theorem zZ:tA Tryz.prog 26=some (82,3,24,(Value.agg [(vI 0),(Value.int .u8 0),(vI 0)].toArray)):=by kernel_rfl
theorem mo:tA Tryz.prog 43=some (3,1,8,(vI 0)):=by kernel_rfl
theorem AP:tA Tryz.prog 74=some (43,1,24,(vS none 0 0)):=by kernel_rfl
theorem yo:tA Tryz.prog 122=some (30,3,24,(Value.agg [(vI 0),(vI 0),(vI 0)].toArray)):=by kernel_rfl
theorem rY:tB Tryz.prog 24=some ([(vS none 0 0)],[(0,1)]):=by kernel_rfl
theorem jD:tB Tryz.prog 28=some ([(vI 0),(vI 0)],[(0,1),(1,1)]):=by kernel_rfl
theorem ue:tB Tryz.prog 30=some ([(vI 0),(vI 0),(vI 0)],[(0,1),(1,2)]):=by kernel_rfl
theorem AY:tB Tryz.prog 32=some ([(vS none 0 0),(vS none 0 0),(vS none 0 0),(vI 0),(vI 0),(vI 0),(vI 0)],[(0,1),(1,1),(2,1),(3,3),(6,1)]):=by kernel_rfl
theorem Ac:tB Tryz.prog 59=some ([(vS none 0 0)],[(0,1)]):=by kernel_rfl
theorem xI:tB Tryz.prog 70=some ([(vI 0),(Value.int .u8 0),(vI 0),(vI 0),(vI 0),(vI 0),(vI 0)],[(0,1),(1,1),(2,3),(5,1),(6,1)]):=by kernel_rfl
theorem Ab:tB Tryz.prog 76=some ([(vS none 0 0),(vS none 0 0),(vS none 0 0),(vI 0),(vI 0),(vI 0),(vI 0),(vS none 0 0)],[(0,7),(7,1)]):=by kernel_rfl
theorem Au:tB Tryz.prog 82=some ([(vI 0),(Value.int .u8 0),(vI 0)],[(0,1),(1,1),(2,1)]):=by kernel_rfl
theorem zi:tB Tryz.prog 85=some ([(vI 0),(vI 0),(vI 0),(vI 0),(vI 0),(vI 0),(vI 0),(Value.int .u8 0),(vI 0)],[(0,1),(1,2),(3,2),(5,2),(7,1),(8,1)]):=by kernel_rfl
theorem wi:tB Tryz.prog 102=some ([Value.nilFunc],[(0,1)]):=by kernel_rfl
theorem yi:tB Tryz.prog 103=some ([Value.nilFunc,Value.nilFunc,Value.nilFunc],[(0,1),(1,1),(2,1)]):=by kernel_rfl
theorem wj:tB Tryz.prog 118=some ([Value.nilFunc],[(0,1)]):=by kernel_rfl
theorem zf:tB Tryz.prog 119=some ([Value.nilFunc,Value.nilFunc],[(0,1),(1,1)]):=by kernel_rfl
theorem kg:tE Tryz.prog 22=some (85,9):=by kernel_rfl
theorem m1:tE Tryz.prog 25=some (70,7):=by kernel_rfl
theorem sN:tE Tryz.prog 26=some (82,3):=by kernel_rfl
theorem oO:tE Tryz.prog 33=some (56,5):=by kernel_rfl
theorem cL:tE Tryz.prog 43=some (3,1):=by kernel_rfl
theorem w4:tE Tryz.prog 74=some (43,1):=by kernel_rfl
theorem mg:tE Tryz.prog 122=some (30,3):=by kernel_rfl
theorem kx:tE Tryz.prog 151=some (28,2):=by kernel_rfl
theorem Bj:tV Tryz.prog 4=some (vB false):=by kernel_rfl
theorem wB:tX Tryz.prog 119=some (2,118):=by kernel_rfl
theorem gY:tZ Tryz.prog 3=some [(vI 0)]:=by kernel_rfl
theorem po:tZ Tryz.prog 24=some [(vS none 0 0)]:=by kernel_rfl
theorem eG:tZ Tryz.prog 28=some [(vI 0),(vI 0)]:=by kernel_rfl
theorem tJ:tZ Tryz.prog 30=some [(vI 0),(vI 0),(vI 0)]:=by kernel_rfl
theorem wT:tZ Tryz.prog 32=some [(vS none 0 0),(vS none 0 0),(vS none 0 0),(vI 0),(vI 0),(vI 0),(vI 0)]:=by kernel_rfl
theorem yG:tZ Tryz.prog 43=some [(vS none 0 0)]:=by kernel_rfl
theorem s8:tZ Tryz.prog 56=some [(Value.int .u8 0),(vI 0),(vI 0),(vI 0),(vI 0)]:=by kernel_rfl
theorem pX:tZ Tryz.prog 59=some [(vS none 0 0)]:=by kernel_rfl
theorem Av:tZ Tryz.prog 68=some [Value.nilFunc]:=by kernel_rfl
theorem uh:tZ Tryz.prog 70=some [(vI 0),(Value.int .u8 0),(vI 0),(vI 0),(vI 0),(vI 0),(vI 0)]:=by kernel_rfl
theorem yO:tZ Tryz.prog 71=some [(Value.pointer none)]:=by kernel_rfl
theorem xP:tZ Tryz.prog 82=some [(vI 0),(Value.int .u8 0),(vI 0)]:=by kernel_rfl
theorem xW:tZ Tryz.prog 85=some [(vI 0),(vI 0),(vI 0),(vI 0),(vI 0),(vI 0),(vI 0),(Value.int .u8 0),(vI 0)]:=by kernel_rfl
theorem wy:tZ Tryz.prog 103=some [Value.nilFunc,Value.nilFunc,Value.nilFunc]:=by kernel_rfl
theorem wo:tZ Tryz.prog 118=some [Value.nilFunc]:=by kernel_rfl
theorem yR:tZ Tryz.prog 119=some [Value.nilFunc,Value.nilFunc]:=by kernel_rfl
theorem tR:tZ Tryz.prog 107=some ((List.replicate 169 (0:Int)).map (Value.int .i64)):=by kernel_rfl
theorem mZ:Tryz.prog.underlying 3=some (.int .i64):=by kernel_rfl
theorem Bp:Tryz.prog.underlying 4=some .bool:=by kernel_rfl
theorem rW:Tryz.prog.underlying 5=some (.int .u8):=by kernel_rfl
theorem Bm:Tryz.prog.underlying 9=some .string:=by kernel_rfl
theorem xw:Tryz.prog.underlying 22=some (.slice 85):=by kernel_rfl
theorem Ag:Tryz.prog.underlying 25=some (.slice 70):=by kernel_rfl
theorem zN:Tryz.prog.underlying 26=some (.slice 82):=by kernel_rfl
theorem yV:Tryz.prog.underlying 33=some (.slice 56):=by kernel_rfl
theorem zJ:Tryz.prog.underlying 43=some (.slice 3):=by kernel_rfl
theorem wQ:Tryz.prog.underlying 60=some (.map 3 56):=by kernel_rfl
theorem uC:Tryz.prog.underlying 121=some (.map 3 4):=by kernel_rfl
theorem yQ:Tryz.prog.underlying 144=some (.int .u64):=by kernel_rfl
theorem yf:Tryz.prog.underlying 165=some (.int .u64):=by kernel_rfl
theorem zc:fL Tryz.prog 28=some [(3,0),(3,1)]:=by kernel_rfl
theorem wq (d:Nat) (s z:al) (w:World):(Op.equalIn (d+2) 28 (.agg s.cells.toArray) (.agg z.cells.toArray)).run Tryz.prog w= .ok (decide (s=z)) w:=by
 have hc:(decide (s.Lo=z.Lo)&&(decide (s.Hi=z.Hi)&&true))=decide (s=z):=by rw [Bool.eq_iff_iff]; simp [al.ext_iff]
 rw [← hc]
 exact mN (d+1) zc w (ks w (g8 vw U w) (g8 vw U w) (og _ mZ w) (ks w (g8 vw U w) (g8 vw U w) (og _ mZ w) (qW w)))
theorem yK (x y:Operand) (s z:al):dW Tryz.prog .eql 28 x y (.agg s.cells.toArray) (.agg z.cells.toArray) (.bool (decide (s=z))):=nm x y (ow zc) fun w=>wq 9998 s z w
theorem ye:fL Tryz.prog 30=some [(3,0),(28,1)]:=by kernel_rfl
theorem yM (d:Nat) (s z:aG) (w:World):(Op.equalIn (d+3) 30 (.agg s.cells.toArray) (.agg z.cells.toArray)).run Tryz.prog w= .ok (decide (s=z)) w:=by
 have hc:(decide (s.ao=z.ao)&&(decide (s.gO=z.gO)&&true))=decide (s=z):=by rw [Bool.eq_iff_iff]; simp [aG.ext_iff]
 rw [← hc]
 exact mN (d+2) ye w (ks w (g8 vw U w) (g8 vw U w) (og _ mZ w) (ks w (mi (vs:=al.cells s.gO) xl U w) (mi (vs:=al.cells z.gO) xl U w) (wq (d+0) s.gO z.gO w) (qW w)))
theorem yA (x y:Operand) (s z:aG):dW Tryz.prog .eql 30 x y (.agg s.cells.toArray) (.agg z.cells.toArray) (.bool (decide (s=z))):=nm x y (ow ye) fun w=>yM 9997 s z w
theorem dw:Tryz.prog.follows .mixedOrders=true:=by kernel_rfl
def TT:pI:=⟨[(1,false,1),(2,false,1),(3,false,1),(4,false,1),(5,false,1),(6,false,1),(7,true,4),(8,true,4),(12,false,1),(15,false,1),(16,false,1),(17,false,1),(18,true,1),(19,true,1),(21,false,1),(22,false,1),(23,true,1),(24,true,1),(25,false,1),(26,false,1),(27,true,2),(28,true,2),(29,true,3),(30,true,3),(31,true,7),(32,true,7),(33,false,1),(34,false,1),(35,false,1),(36,false,1),(37,false,1),(39,false,1),(40,false,1),(42,false,1),(43,false,1),(45,false,1),(46,false,1),(47,false,1),(48,false,1),(49,false,1),(50,false,1),(51,false,1),(52,false,1),(53,false,1),(54,false,1),(55,true,5),(56,true,5),(57,false,1),(58,true,1),(59,true,1),(60,false,1),(62,false,1),(64,false,1),(65,false,1),(66,false,1),(67,false,1),(68,false,1),(69,true,7),(70,true,7),(71,false,1),(73,false,1),(74,false,1),(75,true,8),(76,true,8),(78,false,1),(79,false,1),(80,false,1),(81,true,3),(82,true,3),(83,false,1),(84,true,9),(85,true,9),(86,false,1),(88,false,1),(89,false,1),(90,false,1),(92,false,1),(93,false,1),(94,false,1),(95,false,1),(96,false,1),(97,false,1),(98,false,1),(99,false,1),(100,false,1),(101,true,1),(102,true,1),(103,true,3),(104,false,1),(105,true,13),(108,false,1),(109,false,1),(110,false,1),(112,false,1),(113,false,1),(114,false,1),(115,false,1),(116,false,1),(117,true,1),(118,true,1),(119,true,2),(120,false,1),(121,false,1),(122,false,1),(123,false,1),(124,false,1),(125,false,1),(126,false,1),(127,false,1),(128,false,1),(129,false,1),(130,false,1),(131,false,1),(132,false,1),(133,false,1),(135,false,1),(136,false,1),(137,false,1),(138,false,1),(139,false,1),(141,false,1),(142,false,1),(143,false,1),(144,false,1),(145,false,1),(146,false,1),(147,false,1),(148,false,1),(149,false,1),(150,false,1),(151,false,1),(152,false,1),(153,false,1),(154,false,1),(156,false,1),(157,false,1),(158,false,1),(159,false,1),(161,false,1),(162,false,1),(163,false,1),(164,false,1),(165,false,1),(166,false,1),(167,false,1),(168,false,1),(169,false,1),(170,false,1),(171,false,1),(172,false,1),(173,false,1),(175,false,1),(176,false,1),(179,true,0),(180,true,0),(181,true,0),(182,false,1),(183,false,1),(184,false,1),(185,false,1),(186,false,1),(187,false,1),(188,false,1),(189,true,11),(190,true,11)],[(7,[some 0,some 1,some 2,some 3]),(8,[some 0,some 1,some 2,some 3]),(18,[some 0]),(19,[some 0]),(23,[some 0]),(24,[some 0]),(27,[some 0,some 1]),(28,[some 0,some 1]),(29,[some 0,some 1]),(30,[some 0,some 1]),(31,[some 0,some 1,some 2,some 3,some 6]),(32,[some 0,some 1,some 2,some 3,some 6]),(55,[some 0,some 1,some 2,some 3]),(56,[some 0,some 1,some 2,some 3]),(58,[some 0]),(59,[some 0]),(69,[some 0,some 1,some 2,some 5,some 6]),(70,[some 0,some 1,some 2,some 5,some 6]),(75,[some 0,some 7]),(76,[some 0,some 7]),(81,[some 0,some 1,some 2]),(82,[some 0,some 1,some 2]),(84,[some 0,some 1,some 3,some 5,some 7,some 8]),(85,[some 0,some 1,some 3,some 5,some 7,some 8]),(101,[some 0]),(102,[some 0]),(117,[some 0]),(118,[some 0]),(189,[some 0,some 1,some 2,some 3,some 4,some 5,some 6,some 7,some 8,some 9,some 10]),(190,[some 0,some 1,some 2,some 3,some 4,some 5,some 6,some 7,some 8,some 9,some 10])],[22,25,26,33,43,74,122,151]⟩
theorem iL:fw Tryz.prog TT:=xu kr
theorem cz {t:TypeId} {x:Bool×Nat} (h:TT.uG t=some x:=by rfl):tK Tryz.prog t=some x:=iL.uG h
theorem fZ {s f k:Nat} (h:TT.foF s f=some k:=by rfl):lO Tryz.prog s f=some k:=iL.foF h
end
section
open Go.RowKit
/-- blocks that are read -/
def MM (C:List ah) (M:List (Nat×List Value)):Prop:= ∀ p∈M,∀ o vs,(p.2.drop o).take vs.length=vs→At C (some ⟨p.1,o,none⟩) vs
theorem mn {C:List ah}:MM C []:=fun p h=>by cases h
theorem mc {C:List ah} {b t:Nat} {cs:List Value} {M:List (Nat×List Value)} (i:Nat) (hC:C[i]? =some (cv b t cs)) (h:MM C M):MM C ((b,cs)::M):=fun p hp o vs hv=>by
 rcases bE.1 hp with rfl|hp
 ·exact kO i hC hv
 ·exact h p hp o vs hv
theorem mr {C:List ah} {b t:Nat} {cs:List Value} {M:List (Nat×List Value)} (i:Nat) (hC:C[i]? =some (cv b t cs).ro) (h:MM C M):MM C ((b,cs)::M):=fun p hp o vs hv=>by
 rcases bE.1 hp with rfl|hp
 ·exact kp i hC hv
 ·exact h p hp o vs hv
def iz:List Prop→Prop
 |[]=>True
 |p::l=>p∧iz l
theorem eJ {p:Prop} {l:List Prop} (h:p) (h2:iz l):iz (p::l):=⟨h,h2⟩
/-- the value of an operation, what it asks for, and what is left of the list of places -/
def pv (T:pI) (ops:Array Oper) (M:List (Nat×List Value)) (L:bT) (hs:List Nat) (g:Option (Nat×Bool)) (op:Op):Option (Value×List Prop×List Nat):=
 match pG ops L g with
 |true=>some (undef,[],hs)
 |false=>match e6 ops L g with
  |false=>none
  |true=>match op with
   | .move x=>match ev L x with
    |some v=>some (v,[],hs)
    |none=>none
   | .assign x=>match ev L x with
    |some v=>some (v,[],hs)
    |none=>none
   | .pick c x y=>match ev L c with
    |some (.bool true)=>match ev L x with
     |some v=>some (v,[],hs)
     |none=>none
    |some (.bool false)=>match ev L y with
     |some v=>some (v,[],hs)
     |none=>none
    |_=>none
   | .unOp .not _ x=>match ev L x with
    |some (.bool b)=>some (.bool !b,[],hs)
    |_=>none
   | .extract x i=>match ev L x with
    |some (.tuple vs)=>match vs.toList[i]? with
     |some v=>some (v,[],hs)
     |none=>none
    |_=>none
   | .fieldAddr s x f=>match ev L x with
    |some (.pointer (some ⟨b,o,none⟩))=>match T.foF s f with
     |some k=>some (.pointer (some ⟨b,o+k,none⟩),[],hs)
     |none=>none
    |_=>none
   | .binOp op _ x y _=>match ev L x with
    |some (.int .i64 a)=>match ev L y with
     |some (.int .i64 b)=>match op with
      | .lss=>some (.bool (decide (a<b)),[],hs)
      | .leq=>some (.bool (decide (a≤b)),[],hs)
      | .gtr=>some (.bool (decide (b<a)),[],hs)
      | .geq=>some (.bool (decide (b≤a)),[],hs)
      | .eql=>some (.bool (decide (a=b)),[],hs)
      | .neq=>some (.bool (!decide (a=b)),[],hs)
      | .add=>some (.int .i64 (a+b),[-9223372036854775808≤a+b,a+b≤9223372036854775807],hs)
      | .sub=>some (.int .i64 (a-b),[-9223372036854775808≤a-b,a-b≤9223372036854775807],hs)
      |_=>none
     |_=>none
    |_=>none
   | .load t x=>match ev L x with
    |some (.pointer (some ⟨b,o,none⟩))=>match M[hs.headD 0]? with
     |some (b',cs)=>match T.uG t with
      |some (false,_)=>match cs[o]? with
       |some v=>some (v,[b'=b],hs.tail)
       |none=>none
      |some (true,n)=>match Nat.beq o 0 with
       |true=>match Nat.beq cs.length n with
        |true=>some (.agg cs.toArray,[b'=b],hs.tail)
        |false=>none
       |false=>none
      |none=>none
     |none=>none
    |_=>none
   | .call c=>match c with
    |{callee:= .builtin .len,args:=xs,argTypes:=ts}=>match xs.toList with
     |[x]=>match ts.toList with
      |[t]=>match ev L x with
       |some (.slice A n c)=>match uP T.sl t with
        |true=>some (.int .i64 n,[],hs)
        |false=>none
       |_=>none
      |_=>none
     |_=>none
    |_=>none
   |_=>none
section
variable {E:c_} {T:pI} {ops:Array Oper} {M:List (Nat×List Value)} {D:List Deferred} {L:List (Nat×Value)} {C:List ah} {hs hs':List Nat}
theorem lq {cs:List Value} {o:Nat} {v:Value} (h:cs[o]? =some v):(cs.drop o).take [v].length=[v]:=by
 obtain ⟨hl,rfl⟩:=aJ.1 h
 rw [List.drop_eq_getElem_cons hl]; rfl
theorem zq {o:Oper} {v:Value} {S:List Prop} (hT:fw E.P T) (hM:MM C M) (h:pv T ops M L hs o.guard o.op=some (v,S,hs')) (hS:iz S):SD E ops o D L C v:=by
 obtain ⟨dst,op,ty,ps,af,g⟩:=o
 unfold pv at h
 simp only at h
 split at h
 ·rename_i hg
  cases h
  exact s_ hg
 ·split at h
  ·cases h
  ·rename_i hg
   split at h
   ·split at h
    ·rename_i hx; cases h; exact qN hg hx
    ·cases h
   ·split at h
    ·rename_i hx; cases h; exact nt hg hx
    ·cases h
   ·split at h
    ·rename_i hc
     split at h
     ·rename_i hx; cases h; exact nu hg hc hx
     ·cases h
    ·rename_i hc
     split at h
     ·rename_i hx; cases h; exact nq hg hc hx
     ·cases h
    ·cases h
   ·split at h
    ·rename_i hx; cases h; exact xU hg hx
    ·cases h
   ·split at h
    ·rename_i vs hx
     split at h
     ·rename_i v' hv; cases h; exact mG (vs:=vs.toList) hg (by simpa using hx) hv
     ·cases h
    ·cases h
   ·split at h
    ·rename_i hx
     split at h
     ·rename_i hk; cases h; exact wu hg hx (hT.foF hk) rfl
     ·cases h
    ·cases h
   ·split at h
    ·rename_i hx
     split at h
     ·rename_i hy
      split at h
      ·cases h; exact cj hg hx hy ry
      ·cases h; exact cj hg hx hy nj
      ·cases h; exact cj hg hx hy wD
      ·cases h; exact cj hg hx hy re
      ·cases h; exact cj hg hx hy kf
      ·cases h; exact cj hg hx hy eY
      ·cases h; exact cj hg hx hy (jI ⟨hS.1,hS.2.1⟩)
      ·cases h; exact cj hg hx hy (q7 ⟨hS.1,hS.2.1⟩)
      ·cases h
     ·cases h
    ·cases h
   ·split at h
    ·rename_i hx
     split at h
     ·rename_i b' cs hm
      have A:=aI hm
      split at h
      ·rename_i hk
       split at h
       ·rename_i hv
        cases h
        obtain rfl:=hS.1
        exact mC hg hx (hT.uG hk) (hM _ A _ _ (lq hv))
       ·cases h
      ·rename_i n hk
       split at h
       ·rename_i ho
        split at h
        ·rename_i hn
         cases h
         obtain rfl:=hS.1
         have H:=Nat.eq_of_beq_eq_true ho
         subst H
         exact k8 hg hx (hT.uG hk) (hM _ A 0 cs sm) (Nat.eq_of_beq_eq_true hn)
        ·cases h
       ·cases h
      ·cases h
     ·cases h
    ·cases h
   ·split at h
    ·rename_i xs ts
     split at h
     ·rename_i x G
      split at h
      ·rename_i t F
       split at h
       ·rename_i hx
        split at h
        ·rename_i B
         cases h
         obtain ⟨e,he⟩:=hT.sl t (o1 B)
         have AA:xs= #[x]:=by apply Array.ext'; simpa using G
         have J:ts= #[t]:=by apply Array.ext'; simpa using F
         subst AA J
         exact tI hg hx he
        ·cases h
       ·cases h
      ·cases h
     ·cases h
    ·cases h
   ·cases h
def pr (T:pI) (n:Nat) (ops:Array Oper) (M:List (Nat×List Value)):Nat→List Nat→bT→List Oper→Option (bT×List Oper×List Prop)
 |0,_,L,rest=>some (L,rest,[])
 |k+1,hs,L,[]=>none
 |k+1,hs,L,o::rest=>match o.dst with
  |none=>none
  |some d=>match Nat.blt d n with
   |false=>none
   |true=>match pv T ops M L hs o.guard o.op with
    |none=>none
    |some (v,S,hs')=>match pr T n ops M k hs' ((d,v)::L) rest with
     |none=>none
     |some (L',rest',S')=>some (L',rest',S++S')
theorem mH: ∀ {S S':List Prop},iz (S++S')→iz S∧iz S'
 |[],S',h=>⟨trivial,h⟩
 |p::S,S',h=>⟨⟨h.1,(mH h.2).1⟩,(mH h.2).2⟩
/-- whatever is closed under single steps -/
theorem t_ {J:List Oper→bT→Prop} (hT:fw E.P T) (hM:MM C M) (hJ: ∀ o rest L d v,SD E ops o D L C v→o.dst=some d→Nat.blt d E.n=true→J rest ((d,v)::L)→J (o::rest) L):
 ∀ (k:Nat) (hs:List Nat) (L:bT) (rest:List Oper) {L':bT} {rest':List Oper} {S:List Prop},pr T E.n ops M k hs L rest=some (L',rest',S)→iz S→J rest' L'→J rest L
 |0,hs,L,rest,L',rest',S,h,hS,hj=>by
  unfold pr at h
  cases h
  exact hj
 |k+1,hs,L,[],L',rest',S,h,hS,hj=>by unfold pr at h; cases h
 |k+1,hs,L,o::rest,L',rest',S,h,hS,hj=>by
  unfold pr at h
  split at h
  ·cases h
  ·rename_i d hd
   split at h
   ·cases h
   ·rename_i hn
    split at h
    ·cases h
    ·rename_i v S1 A hv
     split at h
     ·cases h
     ·rename_i L1 G S2 hr
      cases h
      obtain ⟨B,F⟩:=mH hS
      exact hJ o rest L d v (zq hT hM hv B) hd hn (t_ hT hM hJ k A _ rest hr F hj)
variable {Q:bJ} {rest rest':List Oper} {L0 L':List (Nat×Value)} {S:List Prop} {F:List (Nat×Value)→Prop}
/-- a run of operations, one after the other -/
theorem rP (k:Nat) (hs:List Nat) (hM:MM C M) (j:RJ E ops Q rest' D L' C) (hT:fw E.P T:=by exact iL) (h:pr T E.n ops M k hs L rest=some (L0,rest',S):=by rfl) (hL:L0=L':=by (try dsimp only)<;>rfl) (hS:iz S:=by repeat' first|exact True.intro |refine eJ ?_ ?_ |exact rfl|omega|(dsimp only; omega)):RJ E ops Q rest D L C:=by
 subst hL
 exact t_ (J:=fun r L=>RJ E ops Q r D L C) hT hM (fun o rest L d v A B F G=>yC A B F G) k hs L rest h hS j
theorem dP (k:Nat) (hs:List Nat) (hM:MM C M) (j:DJ E ops D C F rest' L') (hT:fw E.P T:=by exact iL) (h:pr T E.n ops M k hs L rest=some (L0,rest',S):=by rfl) (hL:L0=L':=by (try dsimp only)<;>rfl) (hS:iz S:=by repeat' first|exact True.intro |refine eJ ?_ ?_ |exact rfl|omega|(dsimp only; omega)):DJ E ops D C F rest L:=by
 subst hL
 exact t_ (J:=fun r L=>DJ E ops D C F r L) hT hM (fun o rest L d v A B G H=>zu A B G H) k hs L rest h hS j
end
section
variable {P:Program} {r:Option Nat} {n:Nat} {B:BS} {w0:World} {ops:Array Oper} {M:List (Nat×List Value)} {D:List Deferred} {L L':List (Nat×Value)} {C:List ah} {Q:bJ} {rest rest':List Oper} {S:List Prop} {F:List (Nat×Value)→Prop}
theorem gS (k:Nat) (hs:List Nat) (hM:MM C M) (h:pr TT n ops M k hs L rest=some (L',rest',S)) (j:RJ ⟨P,r,n,B,w0⟩ ops Q rest' D L' C) (hS:iz S:=by repeat' first|exact True.intro |refine eJ ?_ ?_ |exact rfl|omega|(dsimp only; omega)) (hT:fw P TT:=by exact iL):RJ ⟨P,r,n,B,w0⟩ ops Q rest D L C:=rP k hs hM j hT h rfl hS
theorem kX (k:Nat) (hs:List Nat) (hM:MM C M) (h:pr TT n ops M k hs L rest=some (L',rest',S)) (j:DJ ⟨P,r,n,B,w0⟩ ops D C F rest' L') (hS:iz S:=by repeat' first|exact True.intro |refine eJ ?_ ?_ |exact rfl|omega|(dsimp only; omega)) (hT:fw P TT:=by exact iL):DJ ⟨P,r,n,B,w0⟩ ops D C F rest L:=dP k hs hM j hT h rfl hS
theorem aY (k:Nat) (h:pr TT n ops [] k [] L rest=some (L',rest',S)) (j:RJ ⟨P,r,n,B,w0⟩ ops Q rest' D L' C) (hS:iz S:=by repeat' first|exact True.intro |refine eJ ?_ ?_ |exact rfl|omega|(dsimp only; omega)) (hT:fw P TT:=by exact iL):RJ ⟨P,r,n,B,w0⟩ ops Q rest D L C:=rP k [] mn j hT h rfl hS
theorem gf (k:Nat) (h:pr TT n ops [] k [] L rest=some (L',rest',S)) (j:DJ ⟨P,r,n,B,w0⟩ ops D C F rest' L') (hS:iz S:=by repeat' first|exact True.intro |refine eJ ?_ ?_ |exact rfl|omega|(dsimp only; omega)) (hT:fw P TT:=by exact iL):DJ ⟨P,r,n,B,w0⟩ ops D C F rest L:=dP k [] mn j hT h rfl hS
end
end
section
open Go.RowKit
/-- parts of a context, reckoned to the end -/
def pE (C:List ah):List Nat→Option (List ah)
 |[]=>some []
 |i::is=>match C[i]? with
  |some A=>match pE C is with
   |some l=>some (A::l)
   |none=>none
  |none=>none
theorem qY {C:List ah}: ∀ {is:List Nat} {C':List ah},pE C is=some C'→kl C is=C'
 |[],C',h=>by cases h; rfl
 |i::is,C',h=>by
  unfold pE at h
  split at h
  ·rename_i A hA
   split at h
   ·rename_i l hl
    cases h
    show List.filterMap (C[·]?) (i::is)=A::l
    rw [List.filterMap_cons_some hA]
    exact congrArg _ (qY hl)
   ·cases h
  ·cases h
/-- a part of a context in place of the whole -/
theorem aL {S:BS} {w0:World} {C C':List ah} (is:List Nat) (hn:decide is.Nodup=true:=by rfl) (hC:kl C is=C':=by rfl): ∀ w,St S w0 C w→St S w0 C' w:=fun w h=>St.kl is hn hC h
theorem yd {S:BS} {w0:World} {C C':List ah} (is:List Nat) (hC:pE C is=some C') (hn:decide is.Nodup=true:=by rfl): ∀ w,St S w0 C w→St S w0 C' w:=fun w h=>St.kl is hn (qY hC) h
def wb (C:List ah) (i:Nat) (B:ah):Option (List ah):=match i,C with
 |0,_::C=>some (B::C)
 |i+1,A::C=>match wb C i B with
  |some l=>some (A::l)
  |none=>none
 |_,[]=>none
theorem qV: ∀ {C:List ah} {i:Nat} {B:ah} {C':List ah},wb C i B=some C'→C.set i B=C'
 |[],0,B,C',h=>by cases h
 |[],i+1,B,C',h=>by cases h
 |A::C,0,B,C',h=>by cases h; rfl
 |A::C,i+1,B,C',h=>by
  unfold wb at h
  split at h
  ·rename_i l hl
   cases h
   exact congrArg _ (qV hl)
  ·cases h
theorem oh {E:c_} {K:Act→World→Prop} {D:dH} {L:bT} {C C':List ah} {A B:ah} (i:Nat) (hC:C[i]? =some A) (hh:(∀ w,A.holds w→B.holds w)∧(∀ b,B.cH b→A.cH b)∧ ∀ b,B.wf b→A.wf b) (hC':wb C i B=some C') (h:KJ E K D L C'):KJ E K D L C:=wc i hC hh (qV hC') h
/-- the operations of a region but these; marks of some places -/
def zO (n:Nat) (T:List Nat):List Nat:=(List.range n).filter fun i=> !T.contains i
def Bb (k:Nat) (t:List Nat):List Bool:=(List.range k).map fun i=>t.contains i
theorem dY {E:c_} {id:Nat} {ops:Array Oper} {Q:bJ} {D:dH} {L:bT} {C:List ah} (hm:E.P.follows .mixedOrders=true) (T fe tb i1 i2:List Nat) {C' C1:List ah} {free:List Nat} {feb tbb:List Bool}
 (h1:pE C i1=some C') (h2:pE C i2=some C1) (hf:free=zO ops.size T) (hfe:feb=Bb free.length fe) (htb:tbb=Bb T.length tb)
 (h:iP E ops D C' C1 (fun L'=>TJ E ops D C' C1 (fun L C=>KJ E (Q .normal) D L C) tbb (cr ops T) L' C) feb (cr ops free) L)
 (hc:vg ops free T feb tbb=true:=by kernel_rfl) (n1:decide i1.Nodup=true:=by rfl) (n2:decide i2.Nodup=true:=by rfl):WJ E (.region id ops true) Q D L C:=
 vU hm free T feb tbb C' C1 hc (yd i1 h1 n1) (yd i2 h2 n2) h
end
section
open Go.RowKit
def lP (T:pI) (M:List (Nat×List Value)) (L:bT):List ResultVar→List Nat→Option (List Value×List Prop)
 |[],_=>some ([],[])
 | .tmp t::rs,hs=>match L.lookup t with
  |some v=>match lP T M L rs hs with
   |some (vs,S)=>some (v::vs,S)
   |none=>none
  |none=>none
 | .cell a t::rs,hs=>match L.lookup a with
  |some (.pointer (some ⟨b,o,none⟩))=>match M[hs.headD 0]? with
   |some (b',cs)=>match T.uG t with
    |some (false,_)=>match cs[o]? with
     |some v=>match lP T M L rs hs.tail with
      |some (vs,S)=>some (v::vs,(b'=b)::S)
      |none=>none
     |none=>none
    |some (true,n)=>match Nat.beq o 0 with
     |true=>match Nat.beq cs.length n with
      |true=>match lP T M L rs hs.tail with
       |some (vs,S)=>some (.agg cs.toArray::vs,(b'=b)::S)
       |none=>none
      |false=>none
     |false=>match lP T M L rs hs.tail with
      |some (vs,S)=>some (.agg ((cs.drop o).take n).toArray::vs,(b'=b)::(((cs.drop o).take n).length=n)::S)
      |none=>none
    |none=>none
   |none=>none
  |_=>none
theorem gU {P:Program} {T:pI} {M:List (Nat×List Value)} {L:bT} {C:List ah} (hT:fw P T) (hM:MM C M): ∀ (rs:List ResultVar) (hs:List Nat) {vs:List Value} {S:List Prop},lP T M L rs hs=some (vs,S)→iz S→sr P L C rs vs
 |[],_,vs,S,h,hS=>by unfold lP at h; cases h; exact trivial
 | .tmp t::rs,hs,vs,S,h,hS=>by
  unfold lP at h
  split at h
  ·rename_i v hv
   split at h
   ·rename_i vs' S' hr
    cases h
    exact ⟨hv,gU hT hM rs hs hr hS⟩
   ·cases h
  ·cases h
 | .cell a t::rs,hs,vs,S,h,hS=>by
  unfold lP at h
  split at h
  ·rename_i b o hl
   split at h
   ·rename_i b' cs hm
    have A:=aI hm
    split at h
    ·rename_i hk
     split at h
     ·rename_i v hv
      split at h
      ·rename_i vs' S' hr
       cases h
       obtain ⟨rfl,hS⟩:=hS
       exact ⟨⟨_,hl,.inr ⟨_,hT.uG hk,hM _ A _ _ (lq hv)⟩⟩,gU hT hM rs _ hr hS⟩
      ·cases h
     ·cases h
    ·rename_i n hk
     split at h
     ·rename_i ho
      split at h
      ·rename_i hn
       split at h
       ·rename_i vs' S' hr
        cases h
        obtain ⟨rfl,hS⟩:=hS
        have D:=Nat.eq_of_beq_eq_true ho
        subst D
        exact ⟨⟨_,hl,.inl ⟨_,cs,hT.uG hk,hM _ A 0 cs sm,Nat.eq_of_beq_eq_true hn,U⟩⟩,gU hT hM rs _ hr hS⟩
       ·cases h
      ·cases h
     ·split at h
      ·rename_i vs' S' hr
       cases h
       obtain ⟨rfl,B,hS⟩:=hS
       exact ⟨⟨_,hl,.inl ⟨_,_,hT.uG hk,hM _ A o _ (by rw [B]),B,U⟩⟩,gU hT hM rs _ hr hS⟩
      ·cases h
    ·cases h
   ·cases h
  ·cases h
section
variable {P:Program} {n:Nat} {fn:Func} {w0:World} {K:Act→World→Prop} {L:List (Nat×Value)} {C:List ah} {M:List (Nat×List Value)} {vs:List Value} {S:List Prop} {u x v:Value}
theorem zC (hQ: ∀ D L C,LJ ⟨P,none,n,j4,w0⟩ fn (oA w0 v) D L C→KJ ⟨P,none,n,j4,w0⟩ K D L C) (hs:List Nat) (hM:MM C M) (h:lP TT M L fn.results.toList hs=some ([u],S)) (e:u=v) (hS:iz S:=by repeat' first|exact True.intro |refine eJ rfl ?_) (hT:fw P TT:=by exact iL):KJ ⟨P,none,n,j4,w0⟩ K [] L C:=
 hQ _ _ _ (fW (gU hT hM _ _ h hS) fun w hs=>ua e hs)
theorem sU (hQ: ∀ D L C,LJ ⟨P,none,n,j4,w0⟩ fn (oA w0 v) D L C→KJ ⟨P,none,n,j4,w0⟩ K D L C) (hs:List Nat) (hM:MM C M) (h:lP TT M L fn.results.toList hs=some (u::x::vs,S)) (e:Value.tuple (u::x::vs).toArray=v) (hS:iz S:=by repeat' first|exact True.intro |refine eJ rfl ?_) (hT:fw P TT:=by exact iL):KJ ⟨P,none,n,j4,w0⟩ K [] L C:=
 hQ _ _ _ (fW (gU hT hM _ _ h hS) fun w hs=>ua e hs)
theorem LX {α:Type} {V:α→Value} {p:α→Prop} {N:α→List ah} (hQ: ∀ D L C,LJ ⟨P,none,n,j4,w0⟩ fn (tg w0 V p N) D L C→KJ ⟨P,none,n,j4,w0⟩ K D L C) (x:α) (is hs:List Nat) (hM:MM C M) (h:lP TT M L fn.results.toList hs=some (vs,S)) (hw:(N x).all (·.wr)=true) (hN:kl C is=N x) (hV:x9 vs=V x) (hp:p x) (hn:decide is.Nodup=true:=by rfl) (hS:iz S:=by repeat' first|exact True.intro |refine eJ rfl ?_) (hT:fw P TT:=by exact iL):KJ ⟨P,none,n,j4,w0⟩ K [] L C:=
 hQ _ _ _ (fW (gU hT hM _ _ h hS) fun w hs=>yx x is hV hp hn hN hw hs)
theorem LM {A:ah} {α:Type} {V:α→Value} {p:α→Prop} {A':α→ah} (hQ: ∀ D L C,LJ ⟨P,none,n,⟨A.wf,fun _=>True⟩,w0⟩ fn (vK w0 A V p A') D L C→KJ ⟨P,none,n,⟨A.wf,fun _=>True⟩,w0⟩ K D L C) (x:α) (i:Nat) (hs:List Nat) (hM:MM C M) (h:lP TT M L fn.results.toList hs=some (vs,S)) (hw:(A' x).wr=true) (hC:C[i]? =some (A' x)) (hV:x9 vs=V x) (hp:p x) (hS:iz S:=by repeat' exact True.intro) (hT:fw P TT:=by exact iL):KJ ⟨P,none,n,⟨A.wf,fun _=>True⟩,w0⟩ K [] L C:=
 hQ _ _ _ (fW (gU hT hM _ _ h hS) fun w hs=>zl x i hV hp hC hw hs)
end
end
section
open Go.RowKit
def qL {α:Type _}:List α→List α→Option (List α)
 |[],m=>some m
 |a::l,m=>match qL l m with
  |some r=>some (a::r)
  |none=>none
theorem rM {α:Type _}: ∀ {l m r:List α},qL l m=some r→l++m=r
 |[],m,r,h=>by cases h; rfl
 |a::l,m,r,h=>by
  unfold qL at h
  split at h
  ·rename_i r' hr
   cases h
   exact congrArg (a:: ·) (rM hr)
  ·cases h
def zw (L:bT):List Nat→Option (bT)
 |[]=>some []
 |t::ts=>match L.lookup t with
  |some v=>match zw L ts with
   |some r=>some ((t,v)::r)
   |none=>none
  |none=>none
theorem rG {L M:bT} (k:cE L M): ∀ {ts:List Nat} {r:bT},zw L ts=some r→cE L (r++M)
 |[],r,h=>by cases h; exact k
 |t::ts,r,h=>by
  unfold zw at h
  split at h
  ·rename_i v hv
   split at h
   ·rename_i r' hr
    cases h
    exact cE.cons hv (rG k hr)
   ·cases h
  ·cases h
section
variable {E:c_} {Q:bJ} {D:List Deferred} {L L0:List (Nat×Value)} {C C0:List ah} {ι:Type} {Li:ι→List (Nat×Value)} {Ci:ι→List ah}
theorem bu {c:Code} (kL kC:List Nat) (hL:zw L kL=some L0) (hC0:pE C kC=some C0) (S:ι→bT) (G:ι→List ah) (hLi: ∀ x,qL L0 (S x)=some (Li x)) (hCi: ∀ x,qL C0 (G x)=some (Ci x)) (μ:ι→Nat) (x0:ι)
 (h0:cE L (S x0)) (hC: ∀ w,St E.S E.w0 C w→St E.S E.w0 (Ci x0) w)
 (round: ∀ x (J:Act→World→Prop),(∀ y D' L' C',D'=D→μ y<μ x→cE L' (Li y)→(∀ w,St E.S E.w0 C' w→St E.S E.w0 (Ci y) w)→KJ E J D' L' C')→WJ E c (Exit.then J Q) D (Li x) (Ci x)):WJ E (.loop c) Q D L C:=
 xQ Li Ci μ x0 (rM (hLi x0)▸rG h0 hL) hC round
theorem rl {x y:Code} (kL kC:List Nat) (hL:zw L kL=some L0) (hC0:pE C kC=some C0) (S:ι→bT) (G:ι→List ah) (hLi: ∀ x,qL L0 (S x)=some (Li x)) (hCi: ∀ x,qL C0 (G x)=some (Ci x))
 (hy: ∀ z,WJ E y Q D (Li z) (Ci z)) (h: ∀ K:Act→World→Prop,(∀ z,KJ E K D (Li z) (Ci z))→WJ E x (Exit.then K Q) D L C):WJ E (.seq x y) Q D L C:=w5 Li Ci hy h
end
end
section
/-- an entry of a square of 13 -/
def mt (M:List Int) (i k:Nat):Int:=(M[i*13+k]?).getD 0
section
variable {M M0:List Int} {n x i k a b:Nat} {v:Int}
theorem yc (h:M.length=169) (hi:i<13) (hk:k<13):M[i*13+k]? =some (mt M i k):=by
 have:i*13+k<M.length:=by omega
 unfold mt; rw [dr this]; rfl
theorem jc (h:M.length=169) (hi:i<13) (hk:k<13) (ha:a<13) (hb:b<13):mt (M.set (i*13+k) v) a b=if a=i∧b=k then v else mt M a b:=by
 unfold mt
 by_cases q:a=i∧b=k
 ·obtain ⟨rfl,rfl⟩:=q
  rw [if_pos ⟨rfl,rfl⟩,List.getElem?_set_self I]; rfl
 ·rw [if_neg q,List.getElem?_set_ne I]
theorem qZ:mt (List.replicate 169 0) i k=0:=by
 unfold mt; rw [List.getElem?_replicate]; split<;>rfl
/-- what is kept from one mark that was gone through to the next one -/
structure Cl (n x:Nat) (M:List Int):Prop where
 len:M.length=169
 dg: ∀ i,i<n→mt M i i=0
 cl: ∀ y,y<x→ ∀ i k,i<n→k<n→mt M i k≤mt M i y+mt M y k
 bd: ∀ i k,i<n→k<n→ -(1073741824*2^x)≤mt M i k∧mt M i k≤1073741824
def cQ (i k a b:Nat):Prop:=a<i∨(a=i∧b<k)
instance:Decidable (cQ i k a b):=by unfold cQ; infer_instance
/-- as far as one mark was gone through -/
structure Rd (n x:Nat) (M0 M:List Int) (i k:Nat):Prop where
 len:M.length=169
 at_: ∀ a b,a<n→b<n→mt M a b=if cQ i k a b then min (mt M0 a b) (mt M0 a x+mt M0 x b) else mt M0 a b
 dg: ∀ a,a<n→cQ i k a a→0≤mt M0 a x+mt M0 x a
theorem Rd.zero (h:M0.length=169):Rd n x M0 M0 0 0:=⟨h,fun a b _ _=>by rw [if_neg]; unfold cQ; omega,fun a _ q=>by unfold cQ at q; omega⟩
theorem Rd.row (h:Rd n x M0 M i n):Rd n x M0 M (i+1) 0:=⟨h.len,fun a b ha hb=>by
 rw [h.at_ a b ha hb]
 by_cases q:a<i+1
 ·rw [if_pos (show cQ i n a b by unfold cQ; omega),if_pos (show cQ (i+1) 0 a b by unfold cQ; omega)]
 ·rw [if_neg (show ¬ cQ i n a b by unfold cQ; omega),if_neg (show ¬ cQ (i+1) 0 a b by unfold cQ; omega)],fun a ha q=>h.dg a ha (by unfold cQ at q ⊢; omega)⟩
theorem Rd.left (hc:Cl n x M0) (hx:x<n) (h:Rd n x M0 M i k) (ha:a<n):mt M a x=mt M0 a x:=by
 rw [h.at_ a x ha hx,hc.dg x hx]; split<;>omega
theorem Rd.right (hc:Cl n x M0) (hx:x<n) (h:Rd n x M0 M i k) (hb:b<n):mt M x b=mt M0 x b:=by
 rw [h.at_ x b hx hb,hc.dg x hx]; split<;>omega
theorem Rd.here (h:Rd n x M0 M i k) (hi:i<n) (hk:k<n):mt M i k=mt M0 i k:=by
 rw [h.at_ i k hi hk,if_neg]; unfold cQ; omega
theorem Rd.bd (hc:Cl n x M0) (hx:x<n) (h:Rd n x M0 M i k) (ha:a<n) (hb:b<n): -(1073741824*2^(x+1))≤mt M a b∧mt M a b≤1073741824:=by
 rw [h.at_ a b ha hb,Int.pow_succ]
 have A:=hc.bd a b ha hb
 have B:=hc.bd a x ha hx
 have C:=hc.bd x b hx hb
 have D:(0:Int)<2^x:=Int.pow_pos dc
 generalize (2:Int)^x=p at *
 split<;>omega
theorem Rd.skip (hc:Cl n x M0) (hx:x<n) (h:Rd n x M0 M i k) (hi:i<n) (hk:k<n) (q: ¬ mt M i x+mt M x k<mt M i k):Rd n x M0 M i (k+1):=by
 rw [h.left hc hx hi,h.right hc hx hk,h.here hi hk] at q
 refine ⟨h.len,fun a b ha hb=>?_,fun a ha qd=>?_⟩
 ·rw [h.at_ a b ha hb]
  by_cases e:a=i∧b=k
  ·obtain ⟨rfl,rfl⟩:=e
   rw [if_neg (show ¬ cQ a b a b by unfold cQ; omega),if_pos (show cQ a (b+1) a b by unfold cQ; omega)]
   omega
  ·have:cQ i k a b↔cQ i (k+1) a b:=by unfold cQ; omega
   simp only [this]
 ·by_cases e:a=i∧a=k
  ·obtain ⟨rfl,rfl⟩:=e
   rw [hc.dg a ha] at q; omega
  ·exact h.dg a ha (by unfold cQ at qd ⊢; omega)
theorem Rd.put (hn:n≤13) (hc:Cl n x M0) (hx:x<n) (h:Rd n x M0 M i k) (hi:i<n) (hk:k<n) (q:mt M i x+mt M x k<mt M i k) (hik:i≠k) (hv:v=mt M i x+mt M x k):Rd n x M0 (M.set (i*13+k) v) i (k+1):=by
 subst hv
 have hl:=h.len
 rw [h.left hc hx hi,h.right hc hx hk,h.here hi hk] at q
 refine ⟨by rw [List.length_set]; exact hl,fun a b ha hb=>?_,fun a ha qd=>h.dg a ha (by unfold cQ at qd ⊢; omega)⟩
 rw [jc hl I I I I,h.left hc hx hi,h.right hc hx hk]
 by_cases e:a=i∧b=k
 ·obtain ⟨rfl,rfl⟩:=e
  rw [if_pos ⟨rfl,rfl⟩,if_pos (show cQ a (b+1) a b by unfold cQ; omega)]
  omega
 ·rw [if_neg e,h.at_ a b ha hb]
  have:cQ i k a b↔cQ i (k+1) a b:=by unfold cQ; omega
  simp only [this]
theorem Rd.done (hc:Cl n x M0) (hx:x<n) (h:Rd n x M0 M n 0):Cl n (x+1) M∧ ∀ a b,a<n→b<n→mt M a b≤mt M0 a b:=by
 have A: ∀ a b,a<n→b<n→mt M a b=min (mt M0 a b) (mt M0 a x+mt M0 x b):=fun a b ha hb=>by rw [h.at_ a b ha hb,if_pos]; unfold cQ; omega
 refine ⟨⟨h.len,fun i hi=>?_,fun y hy i k hi hk=>?_,fun i k hi hk=>h.bd hc hx hi hk⟩,fun a b ha hb=>by rw [A a b ha hb]; omega⟩
 ·have:=h.dg i hi (by unfold cQ; omega)
  rw [A i i hi hi,hc.dg i hi]; omega
 ·rcases Nat.lt_or_ge y x with c|c
  ·have B:y<n:=by omega
   rw [A i k hi hk,A i y hi B,A y k B hk]
   have C:=hc.cl y c i k hi hk
   have D:=hc.cl y c x k hx hk
   have F:=hc.cl y c i x hi hx
   have E:=hc.cl y c x x hx hx
   rw [hc.dg x hx] at E
   omega
  ·obtain rfl:y=x:=by omega
   have C:=h.left hc hx hi
   have D:=h.right hc hx hk
   rw [C,D,A i k hi hk]; omega
end
/-- two spans of a stretch -/
def jG (two:Bool) (x:aa):al:=bif two then x.dj else x.di
/-- no entry is too great, and those of stretches are known -/
structure Wd (n j:Nat) (two:Bool) (ts:List aa) (M:List Int):Prop where
 len:M.length=169
 dg: ∀ i,i<n→mt M i i=0
 bd: ∀ i k,i<n→k<n→ -1073741824≤mt M i k∧mt M i k≤1073741824
 st: ∀ t x,t<j→ts[t]? =some x→mt M t (t+1)≤(jG two x).Hi∧mt M (t+1) t≤ -(jG two x).Lo
section
variable {M:List Int} {n j i k:Nat} {two:Bool} {ts:List aa} {v:Int} {x:aa}
theorem Wd.zero:Wd n 0 two ts (List.replicate 169 0):=⟨List.length_replicate,fun i _=>qZ,fun i k _ _=>by rw [qZ]; omega,fun t x h=>absurd h (Nat.not_lt_zero _)⟩
/-- an entry for the first time -/
theorem Wd.fill (hn:n≤13) (h:Wd n 0 two ts M) (hi:i<n) (hk:k<n) (hik:i≠k) (hv: -1073741824≤v∧v≤1073741824):Wd n 0 two ts (M.set (i*13+k) v):=by
 have hl:=h.len
 refine ⟨by rw [List.length_set]; exact hl,fun a ha=>?_,fun a b ha hb=>?_,fun t x h=>absurd h (Nat.not_lt_zero _)⟩
 ·rw [jc hl I I I I,if_neg I]; exact h.dg a ha
 ·rw [jc hl I I I I]; split
  ·exact hv
  ·exact h.bd a b ha hb
/-- the span of a stretch -/
theorem Wd.q9 (hn:n≤13) (h:Wd n j two ts M) (hj:j+1<n) (hx:ts[j]? =some x) {u v:Int} (hu:u=(jG two x).Hi) (hv:v= -(jG two x).Lo) (hb:(-1073741824≤u∧u≤1073741824)∧ -1073741824≤v∧v≤1073741824):
 Wd n (j+1) two ts ((M.set (j*13+(j+1)) u).set ((j+1)*13+j) v):=by
 have hl:=h.len
 have A:(M.set (j*13+(j+1)) u).length=169:=by rw [List.length_set]; exact hl
 have key: ∀ a b,a<n→b<n→mt ((M.set (j*13+(j+1)) u).set ((j+1)*13+j) v) a b=if a=j+1∧b=j then v else if a=j∧b=j+1 then u else mt M a b:=fun a b ha hb=>by
  rw [jc A I I I I,jc hl I I I I]
 refine ⟨by rw [List.length_set]; exact A,fun a ha=>?_,fun a b ha hb=>?_,fun t y ht hy=>?_⟩
 ·rw [key a a ha ha,if_neg I,if_neg I]; exact h.dg a ha
 ·rw [key a b ha hb]; split
  ·omega
  ·split
   ·omega
   ·exact h.bd a b ha hb
 ·rw [key _ _ I I,key _ _ I I]
  by_cases e:t=j
  ·subst e
   rw [hx] at hy; cases hy
   rw [if_neg I,if_pos ⟨rfl,rfl⟩,if_pos ⟨rfl,rfl⟩]; omega
  ·rw [if_neg I,if_neg I,if_neg I,if_neg I]
   exact h.st t y I hy
/-- an entry that gets less -/
theorem Wd.less (hn:n≤13) (h:Wd n j two ts M) (hi:i<n) (hk:k<n) (hj:j<n) (hik:i≠k) {w:Int} (hw: -1073741824≤w) (hv:v=min (mt M i k) w):Wd n j two ts (M.set (i*13+k) v):=by
 have hl:=h.len
 have key: ∀ a b,a<n→b<n→mt (M.set (i*13+k) v) a b≤mt M a b:=fun a b ha hb=>by
  rw [jc hl I I I I]; split
  ·rename_i q; obtain ⟨rfl,rfl⟩:=q; omega
  ·exact Int.le_refl _
 refine ⟨by rw [List.length_set]; exact hl,fun a ha=>?_,fun a b ha hb=>⟨?_,Int.le_trans (key a b ha hb) (h.bd a b ha hb).2⟩,fun t y ht hy=>?_⟩
 ·rw [jc hl I I I I,if_neg I]; exact h.dg a ha
 ·have:=h.bd i k hi hk
  rw [jc hl I I I I]; split
  ·omega
  ·exact (h.bd a b ha hb).1
 ·have A:=h.st t y ht hy
  exact ⟨Int.le_trans (key _ _ I I) A.1,Int.le_trans (key _ _ I I) A.2⟩
theorem Wd.cl (h:Wd n j two ts M):Cl n 0 M:=⟨h.len,h.dg,fun y hy=>absurd hy (Nat.not_lt_zero _),fun i k hi hk=>by have:=h.bd i k hi hk; simpa using this⟩
end
def ph (x y:al):Prop:=x.Lo≤y.Lo∧y.Lo≤y.Hi∧y.Hi≤x.Hi
/-- of the first stretches one span, or both, is narrower -/
structure dT (p q:Nat) (ts us:List aa):Prop where
 len:us.length=ts.length
 at_: ∀ (j:Nat) x y,ts[j]? =some x→us[j]? =some y→(y.Id=x.Id∧y.cT=x.cT∧y.bK=x.bK∧y.ia=x.ia)∧(if j<p then ph x.di y.di else y.di=x.di)∧(if j<q then ph x.dj y.dj else y.dj=x.dj)
/-- the square when all is said -/
structure nx (n:Nat) (two:Bool) (ts:List aa) (M:List Int):Prop where
 len:M.length=169
 at_: ∀ t x,ts[t]? =some x→t+1<n→mt M t (t+1)≤(jG two x).Hi∧mt M (t+1) t≤ -(jG two x).Lo∧0≤mt M t (t+1)+mt M (t+1) t
section
variable {M M0:List Int} {n j i k p q:Nat} {two:Bool} {ts us:List aa} {v:Int} {x y:aa}
theorem nx.of (h:Wd n ts.length two ts M0) (hc:Cl n n M) (hl: ∀ a b,a<n→b<n→mt M a b≤mt M0 a b):nx n two ts M:=⟨hc.len,fun t x hx ht=>by
 have B:=h.st t x (aJ.1 hx).1 hx
 have C:=hl t (t+1) I ht
 have D:=hl (t+1) t ht I
 have A:=hc.cl (t+1) ht t t I I
 rw [hc.dg t I] at A
 omega⟩
theorem dT.zero:dT 0 0 ts ts:=⟨rfl,fun j x y hx hy=>by rw [hx] at hy; cases hy; exact ⟨⟨rfl,rfl,rfl,rfl⟩,by rw [if_neg I],by rw [if_neg I]⟩⟩
theorem dT.A8 (h:dT p q ts us) (hx:ts[p]? =some x) (hy:us[p]? =some y) {s:al} (hs:ph x.di s):dT (p+1) q ts (us.set p {y with di:=s}):=by
 have hp:=(aJ.1 hy).1
 refine ⟨by rw [List.length_set]; exact h.len,fun j a b ha hb=>?_⟩
 by_cases e:j=p
 ·subst e
  rw [List.getElem?_set_self hp] at hb; cases hb
  rw [hx] at ha; cases ha
  have A:=h.at_ j x y hx hy
  exact ⟨A.1,by rw [if_pos I]; exact hs,A.2.2⟩
 ·rw [List.getElem?_set_ne I] at hb
  have A:=h.at_ j a b ha hb
  refine ⟨A.1,?_,A.2.2⟩
  have B:=A.2.1
  by_cases c:j<p
  ·rw [if_pos I]; rw [if_pos c] at B; exact B
  ·rw [if_neg I]; rw [if_neg c] at B; exact B
theorem dT.AQ (h:dT p q ts us) (hx:ts[q]? =some x) (hy:us[q]? =some y) {s:al} (hs:ph x.dj s):dT p (q+1) ts (us.set q {y with dj:=s}):=by
 have hp:=(aJ.1 hy).1
 refine ⟨by rw [List.length_set]; exact h.len,fun j a b ha hb=>?_⟩
 by_cases e:j=q
 ·subst e
  rw [List.getElem?_set_self hp] at hb; cases hb
  rw [hx] at ha; cases ha
  have A:=h.at_ j x y hx hy
  exact ⟨A.1,A.2.1,by rw [if_pos I]; exact hs⟩
 ·rw [List.getElem?_set_ne I] at hb
  have A:=h.at_ j a b ha hb
  refine ⟨A.1,A.2.1,?_⟩
  have B:=A.2.2
  by_cases c:j<q
  ·rw [if_pos I]; rw [if_pos c] at B; exact B
  ·rw [if_neg I]; rw [if_neg c] at B; exact B
/-- what is left is a track -/
theorem dT.ok (h:dT ts.length ts.length ts us) (hs: ∀ x∈ts,aM x): ∀ y∈us,aM y:=fun y hy=>by
 obtain ⟨j,hj⟩:=List.mem_iff_getElem?.1 hy
 have hl:=h.len
 have F:=(aJ.1 hj).1
 have hx:ts[j]? =some (ts[j]'I):=dr I
 have G:=hs _ (aI hx)
 have A:=h.at_ j _ y hx hj
 rw [if_pos I,if_pos I] at A
 obtain ⟨⟨B,C,D,E⟩,a,b⟩:=A
 simp only [aM,bf,ph] at *
 rw [B,C,D,E]; omega
theorem jJ: ∀ {ts us:List aa} {last:Int},us.length=ts.length→(∀ (j:Nat) x y,ts[j]? =some x→us[j]? =some y→y.Id=x.Id)→(∀ y∈us,aM y)→bV last ts=true→bV last us=true
 |[],[],_,_,_,_,h=>h
 |[],y::us,_,hl,_,_,_=>by simp at hl
 |x::ts,[],_,hl,_,_,_=>by simp at hl
 |x::ts,y::us,last,hl,hid,hok,h=>by
  have e:=hid 0 x y rfl rfl
  simp only [bV,bU,decide_eq_true_eq] at h ⊢
  refine ⟨⟨by rw [e]; exact h.1.1,hok y sm⟩,?_⟩
  rw [e]
  exact jJ (by simpa using hl) (fun j a b ha hb=>hid (j+1) a b (by simpa using ha) (by simpa using hb)) (fun z hz=>hok z (by simp [hz])) h.2
theorem dT.zd (h:dT ts.length ts.length ts us) (hs: ∀ x∈ts,aM x) (ht:a_ ts=true):a_ us=true:=by
 unfold a_ at ht ⊢
 rw [bU] at ht ⊢
 exact ⟨by rw [h.len]; exact ht.1,jJ h.len (fun j x y hx hy=>(h.at_ j x y hx hy).1.1) (h.ok hs) ht.2⟩
end
end
section
open Go.RowKit
section
variable {E:c_} {ops:Array Oper} {Q:bJ} {rest:List Oper} {D:List Deferred} {L:List (Nat×Value)} {C:List ah}
variable {dst:Option Nat} {d:Nat} {ty:TypeId} {ps:String} {af:Array Edge} {g:Option (Nat×Bool)}
theorem oY: ∀ l:List Int,(l.map iC).flatten=l.map (Value.int .i64)
 |[]=>rfl
 |x::l=>by rw [List.map_cons,List.flatten_cons,oY l]; rfl
theorem o2 {t:TypeId} {l:List Int} (hg:e6 ops L g=true) (hz:tZ E.P t=some (l.map (Value.int .i64))) (hd:Nat.blt d E.n=true) (hm:l.length≤maxLen) (k: ∀ b,RJ E ops Q rest D ((d,.pointer (some ⟨b,0,none⟩))::L) (own (some ⟨b,0,none⟩) l.length t 1 (l.map iC)::C)):
 RJ E ops Q (⟨some d,.alloc t,ty,ps,af,g⟩::rest) D L C:=by
 refine rh hg hz hd fun b=>?_
 have h:=eI (E:=E) (ops:=ops) (Q:=Q) (rest:=rest) (D:=D) (L:=(d,.pointer (some ⟨b,0,none⟩))::L) (C:=cv b t (l.map (Value.int .i64))::C) (C':=own (some ⟨b,0,none⟩) (l.map iC).length t 1 (l.map iC)::C) (es:=l.map iC) (sz:=1) 0 rfl
  (fun x hx=>by obtain ⟨y,_,rfl⟩:=bP.1 hx; rfl) (oY l) (by rw [List.length_map]; exact hm) rfl
 rw [List.length_map] at h
 exact h (k b)
theorem oa {x ix:Operand} {b o o':Nat} {t n e sz k:Nat} {j:Int} (hg:e6 ops L g=true) (hx:ev L x=some (.pointer (some ⟨b,o,none⟩))) (hi:ev L ix=some (.int .i64 j)) (ht:aE E.P t=some (n,e,sz)) (hj:j=(k:Int)) (hk:k<n) (ho:o+k*sz=o'):
 SD E ops ⟨dst,.indexAddr t x ix,ty,ps,af,g⟩ D L C (.pointer (some ⟨b,o',none⟩)):=
 cn hg sm fun a w A hs=>by
  subst hj
  simp [execOp,A.ev hx,A.ev hi,gb ht _ hk,eL,ho]
theorem dK {x ix:Operand} {a:Addr} {t n e sz k m m':Nat} {j:Int} (hg:e6 ops L g=true) (hx:ev L x=some (.pointer (eR (some a) m))) (hi:ev L ix=some (.int .i64 j)) (ht:aE E.P t=some (n,e,sz)) (hj:j=(k:Int)) (hk:k<n) (ho:m+k*sz=m'):
 SD E ops ⟨dst,.indexAddr t x ix,ty,ps,af,g⟩ D L C (.pointer (eR (some a) m')):=
 cn hg sm fun b w A hs=>by
  subst hj ho
  simp [execOp,A.ev hx,A.ev hi,eR,gb ht (a.add m) hk,iJ]
end
theorem dk {M:List Int} {i k:Nat} (h:M.length=169) (hi:i<13) (hk:k<13):(M.map iC)[i*13+k]? =some (iC (mt M i k)):=by
 rw [eT,yc h hi hk]; rfl
theorem jx {M:List Int} {i:Nat} {v:Int} (h:M.length=169):(M.set i v).length=169:=by rw [List.length_set]; exact h
end
section
open Go.RowKit
set_option linter.unusedSectionVars false
/-- what is asked of keys -/
structure oS (P:Program) (kt:Nat) {K:Type} (kV:K→Value):Prop where
 check: ∀ (e:Bool) (x:K) (w:World),(Instr.checkKey e 10000 kt (kV x)).run P w= .ok () w
 find: ∀ (x:K) (w:World) (es:List MapEntry),(∀ e∈es,∃ k,e.key=kV k)→
  ((Instr.findKey kt (kV x) es).run P w= .ok none w∧ ∀ e∈es,e.key≠kV x)∨ ∃ j e,(Instr.findKey kt (kV x) es).run P w= .ok (some (j,e.val)) w∧es[j]? =some e∧e.key=kV x
 bits: ∀ x,Instr.sameBits 10000 (kV x) (kV x)=true
 inj: ∀ x y,kV x=kV y→x=y
section
variable {K:Type} [DecidableEq K] {kV:K→Value}
def fq {β:Type} (l:List (K×β)) (x:K) (y:β):List (K×β):=if (l.lookup x).isSome then l.map (fun p=>if p.1=x then (x,y) else p) else l++[(x,y)]
def dJ {β:Type} (l:List (K×β)) (x:K):List (K×β):=l.filter fun p=> !decide (p.1=x)
def dv {β γ:Type} (f:β→γ) (l:List (K×β)):List (K×γ):=l.map fun p=>(p.1,f p.2)
theorem im {β γ:Type} (f:β→γ) (x:K): ∀ l:List (K×β),(dv f l).lookup x=(l.lookup x).map f
 |[]=>rfl
 |p::l=>by
  obtain ⟨k,v⟩:=p
  have ih:=im f x l
  by_cases h:x=k
  ·subst h; simp [dv,List.lookup]
  ·have:(x==k)=false:=by simpa using h
   simp only [dv,List.map_cons,List.lookup,this] at ih ⊢
   exact ih
theorem l4 {β γ:Type} (f:β→γ) (l:List (K×β)) (x:K) (y:β):dv f (fq l x y)=fq (dv f l) x (f y):=by
 unfold fq
 rw [im,Option.isSome_map]
 split
 ·simp only [dv,List.map_map]
  refine List.map_congr_left fun p _=>?_
  simp only [Function.comp]
  split<;>rfl
 ·simp [dv]
theorem l_ {β γ:Type} (f:β→γ) (l:List (K×β)) (x:K):dv f (dJ l x)=dJ (dv f l) x:=by
 unfold dJ dv
 rw [List.filter_map]
 rfl
theorem fB {β:Type} {x:K}: ∀ {l:List (K×β)},l.lookup x=none↔ ∀ p∈l,p.1≠x
 |[]=>by simp
 |p::l=>by
  obtain ⟨k,v⟩:=p
  by_cases h:x=k
  ·subst h; simp [List.lookup]
  ·have hb:(x==k)=false:=by simpa using h
   simp only [List.lookup,hb,bE,forall_eq_or_imp]
   rw [fB (l:=l)]
   exact ⟨fun q=>⟨fun e=>h e.symm,q⟩,fun q=>q.2⟩
theorem gR {β:Type} {x:K} {y:β}: ∀ {l:List (K×β)},(l.map (·.1)).Nodup→((x,y)∈l↔l.lookup x=some y)
 |[],_=>by simp
 |p::l,hn=>by
  obtain ⟨k,v⟩:=p
  simp only [List.map_cons,List.nodup_cons] at hn
  by_cases h:x=k
  ·subst h
   simp only [List.lookup,beq_self_eq_true,bE,Prod.mk.injEq,true_and,Option.some.injEq]
   constructor
   ·rintro (e|e)
    ·exact e.symm
    ·exact absurd (bP.2 ⟨_,e,U⟩) hn.1
   ·intro e; exact .inl e.symm
  ·have hb:(x==k)=false:=by simpa using h
   simp only [List.lookup,hb,bE,Prod.mk.injEq,h,false_and,false_or]
   exact gR hn.2
structure ef (kV:K→Value) (es:Array MapEntry) (c:Nat) (m:List (K×Value)):Prop where
 list:es.toList.map (fun (e:MapEntry)=>(e.key,e.val))=m.map (fun p=>(kV p.1,p.2))
 keys:(m.map (·.1)).Nodup
 x_: ∀ e∈es.toList,e.born<c
 born:(es.toList.map (·.born)).Nodup
def lY (kV:K→Value) (b:Nat) (m:List (K×Value)):ah where
 cH k:=k=b
 wf k:=k=b
 holds w:= ∃ es c,w.heap[b]? =some (.map es c)∧ef kV es c m
 wr:=true
 fE _ h:=h
 whole _ _ h:=h
 lt w h k hk:=by obtain ⟨es,c,he,_⟩:=h; exact hk▸cU he
 h_ w w' hk h:=by obtain ⟨es,c,he,hm⟩:=h; exact ⟨es,c,(hk b rfl).trans he,hm⟩
theorem ef.nil:ef kV #[] 0 []:=⟨rfl,List.nodup_nil,sm,List.nodup_nil⟩
theorem ef.size {es:Array MapEntry} {c:Nat} {m:List (K×Value)} (h:ef kV es c m):es.size=m.length:=by
 have:=congrArg List.length h.list
 simpa using this
theorem pP {P:Program} {kt:Nat} (hk:oS P kt kV) (x:K): ∀ (es:List MapEntry) (m:List (K×Value)),es.map (fun (e:MapEntry)=>(e.key,e.val))=m.map (fun p=>(kV p.1,p.2))→
 ((∀ e∈es,e.key≠kV x)→m.lookup x=none)∧ ∀ (j:Nat) (e:MapEntry),es[j]? =some e→e.key=kV x→m[j]? =some (x,e.val):=by
 intro es m h
 refine ⟨fun hn=>fB.2 fun p hp e=>?_,fun j e he hx=>?_⟩
 ·have:(kV p.1,p.2)∈es.map (fun (e:MapEntry)=>(e.key,e.val)):=by rw [h]; exact bP.2 ⟨p,hp,rfl⟩
  obtain ⟨z,hz,B⟩:=bP.1 this
  simp only [Prod.mk.injEq] at B
  exact hn z hz (by rw [B.1,e])
 ·have A:(es.map (fun (e:MapEntry)=>(e.key,e.val)))[j]? =some (e.key,e.val):=by rw [eT,he]; rfl
  rw [h,eT] at A
  cases hm:m[j]? with
  |none=>simp [hm] at A
  |some p=>
   simp only [hm,Option.map_some,Option.some.injEq,Prod.mk.injEq] at A
   have:=hk.inj _ _ (A.1.trans hx)
   obtain ⟨k,v⟩:=p
   simp only at this A
   rw [this,A.2]
theorem kW {P:Program} {w:World} {kt:Nat} {x:K} {es:Array MapEntry} {c:Nat} {m:List (K×Value)} (hk:oS P kt kV) (h:ef kV es c m):
 ((Instr.findKey kt (kV x) es.toList).run P w= .ok none w∧m.lookup x=none)∨
 ∃ j v,(Instr.findKey kt (kV x) es.toList).run P w= .ok (some (j,v)) w∧m[j]? =some (x,v)∧m.lookup x=some v:=by
 obtain ⟨D,E⟩:=pP hk x es.toList m h.list
 rcases hk.find x w es.toList (fun e he=>by
  have:(e.key,e.val)∈m.map (fun p=>(kV p.1,p.2)):=by rw [← h.list]; exact bP.2 ⟨e,he,rfl⟩
  obtain ⟨p,_,hp⟩:=bP.1 this
  simp only [Prod.mk.injEq] at hp
  exact ⟨p.1,hp.1.symm⟩) with ⟨A,B⟩|⟨j,e,A,B,C⟩
 ·exact .inl ⟨A,D B⟩
 ·have:=E j e B C
  exact .inr ⟨j,e.val,A,this,(gR h.keys).1 (aI this)⟩
theorem fF {P:Program} {w:World} {kt:Nat} {x:K} (hk:oS P kt kV) (e:Bool):(Instr.checkKey e 10000 kt (kV x)).run P w= .ok () w:=hk.check e x w
section
variable {E:c_} {ops:Array Oper} {Q:bJ} {rest:List Oper} {D:List Deferred} {L:List (Nat×Value)} {C:List ah}
variable {dst:Option Tmp} {d:Nat} {ty:TypeId} {ps:String} {af:Array Edge} {g:Option (Nat×Bool)}
theorem oD {t:TypeId} (hg:e6 ops L g=true) (hd:Nat.blt d E.n=true) (k: ∀ b,RJ E ops Q rest D ((d,.map (some b))::L) (lY kV b []::C)):RJ E ops Q (⟨some d,.makeMap t none,ty,ps,af,g⟩::rest) D L C:=by
 intro a w B hs
 have hd':d<E.n:=by rw [← Nat.blt_eq]; exact hd
 unfold kK
 rw [if_pos (cx B hg)]
 refine eb (v:= .map (some w.heap.size)) (w':=w.alloc (.map #[] 0)) sm ?_ ?_
 ·simp [execOp,Instr.makeMap,newObj,Sem.run]
 ·refine k _ _ _ (B.put hd' _) (hs.grow (bX.alloc no w _) (N:=[lY kV w.heap.size []]) ⟨fun A hA=>?_,fun A hA b hb=>?_,List.pairwise_singleton _ _⟩)
  ·simp at hA; subst hA; exact ⟨#[],0,heap_alloc_new w _,ef.nil⟩
  ·simp at hA; subst hA; exact Nat.le_of_eq (Eq.symm hb)
theorem ef.push {es:Array MapEntry} {c:Nat} {m:List (K×Value)} (h:ef kV es c m) {x:K} (hx:m.lookup x=none) (v:Value):ef kV (es.push {key:=kV x,val:=v,born:=c}) (c+1) (m++[(x,v)]):=by
 refine ⟨by simp [h.list],?_,?_,?_⟩
 ·rw [List.map_append,List.nodup_append]
  refine ⟨h.keys,sm,fun a ha b hb=>?_⟩
  simp at hb; subst hb
  obtain ⟨p,hp,rfl⟩:=bP.1 ha
  exact fB.1 hx p hp
 ·intro e he
  simp only [Array.toList_push,dV,cu] at he
  rcases he with he|rfl
  ·exact Nat.lt_succ_of_lt (h.x_ e he)
  ·exact Nat.lt_succ_self _
 ·simp only [Array.toList_push,List.map_append,List.map_cons,List.map_nil]
  rw [List.nodup_append]
  refine ⟨h.born,sm,fun a ha b hb=>?_⟩
  simp at hb; subst hb
  obtain ⟨p,hp,rfl⟩:=bP.1 ha
  exact Nat.ne_of_lt (h.x_ p hp)
theorem u2 {m:List (K×Value)} {j:Nat} {x:K} {v0 v:Value} (hn:(m.map (·.1)).Nodup) (hj:m[j]? =some (x,v0)):m.map (fun p=>if p.1=x then (x,v) else p)=m.set j (x,v):=by
 refine List.ext_getElem? fun i=>?_
 rw [eT,List.getElem?_set]
 by_cases e:j=i
 ·subst e
  have hl:=(aJ.1 hj).1
  rw [hj]; simp [hl]
 ·rw [if_neg e]
  cases hi:m[i]? with
  |none=>rfl
  |some p=>
   simp only [Option.map_some]
   rw [if_neg]
   intro hp
   have B:(m.map (·.1))[i]? =some x:=by rw [eT,hi]; simp [hp]
   have C:(m.map (·.1))[j]? =some x:=by rw [eT,hj]; rfl
   have A:=(aJ.1 B).1
   exact e (((List.getElem?_inj A hn).1 (B.trans C.symm)).symm)
theorem ef.set {es:Array MapEntry} {c:Nat} {m:List (K×Value)} (h:ef kV es c m) {x:K} {j:Nat} {v0:Value} (hj:m[j]? =some (x,v0)) (hx:m.lookup x=some v0) (v:Value):
 ef kV (es.modify j fun e=>{e with key:=kV x,val:=v}) c (fq m x v):=by
 have C:fq m x v=m.set j (x,v):=by unfold fq; rw [hx]; simpa using u2 h.keys hj
 have hl:=(aJ.1 hj).1
 have E:=h.size
 have A:j<es.size:=by omega
 have B:(es.modify j fun e=>{e with key:=kV x,val:=v}).toList=es.toList.set j {(es[j]) with key:=kV x,val:=v}:=by
  refine List.ext_getElem? fun i=>?_
  rw [Array.getElem?_toList,Array.getElem?_modify,List.getElem?_set]
  by_cases e:j=i
  ·subst e; simp [A]
  ·simp [e]
 have D:(es.toList.set j {(es[j]) with key:=kV x,val:=v}).map (·.born)=es.toList.map (·.born):=by
  rw [List.map_set]
  refine List.ext_getElem? fun i=>?_
  rw [List.getElem?_set]
  by_cases e:j=i
  ·subst e; simp [A]
  ·rw [if_neg e]
 refine ⟨?_,?_,?_,?_⟩
 ·rw [B,C,List.map_set,List.map_set,h.list]
 ·rw [C,List.map_set]
  have:(m.map (·.1)).set j x=m.map (·.1):=by
   refine List.ext_getElem? fun i=>?_
   rw [List.getElem?_set]
   by_cases e:j=i
   ·subst e; simp [hl]; simpa using (congrArg Prod.fst ((aJ.1 hj).2)).symm
   ·rw [if_neg e]
  simp only [this]
  exact h.keys
 ·intro e he
  rw [B] at he
  have hb:e.born∈(es.toList.set j {(es[j]) with key:=kV x,val:=v}).map (·.born):=bP.2 ⟨e,he,rfl⟩
  rw [D] at hb
  obtain ⟨e',he',hq⟩:=bP.1 hb
  rw [← hq]; exact h.x_ e' he'
 ·rw [B,D]; exact h.born
/-- m[x] = y -/
theorem ny {t kt et:TypeId} {xm xk xv:Operand} {b:Nat} {x:K} {v:Value} {m m':List (K×Value)} {C':List ah} (i:Nat) (hg:e6 ops L g=true) (hm:ev L xm=some (.map (some b))) (hk:ev L xk=some (kV x)) (hv:ev L xv=some v)
 (ht:E.P.underlying t=some (.map kt et)) (hkt:oS E.P kt kV) (hC:C[i]? =some (lY kV b m)) (hm':fq m x v=m') (hC':C.set i (lY kV b m')=C') (k:RJ E ops Q rest D L C'):
 RJ E ops Q (⟨none,.mapUpdate t xm xk xv,ty,ps,af,g⟩::rest) D L C:=by
 subst hm' hC'
 intro a w A hs
 unfold kK
 rw [if_pos (cx A hg)]
 obtain ⟨es,c,he,hi⟩:=hs.holds _ (aI hC)
 have B:(getObj b).run E.P w= .ok (.map es c) w:=MapKept.run_getObj_map he
 rcases kW (P:=E.P) (w:=w) (x:=x) hkt hi with ⟨AA,F⟩|⟨j,N,AA,F,J⟩
 ·refine l0 (w':={w with heap:=w.heap.setIfInBounds b (.map (es.push {key:=kV x,val:=v,born:=c}) (c+1))}) sm ?_ ?_
  ·simp [execOp,A.ev hm,A.ev hk,A.ev hv,Instr.mapUpdate,run_underlying ht,B,fF hkt,AA,MapKept.run_setObj_map _ he]
  ·refine k _ _ ⟨A.defers,A.size,A.at_⟩ (hs.qm (b:=b) i hC U U (js _) (fun _ h=>h) ⟨_,_,kM he,?_⟩)
   have:fq m x v=m++[(x,v)]:=by unfold fq; rw [F]; rfl
   rw [this]; exact hi.push F v
 ·have M:=hi.size
  have G:j<es.size:=by have:=(aJ.1 F).1; omega
  have H:(es[j]).key=kV x:=by
   have:=congrArg (fun l=>l[j]?) hi.list
   simp [G,F] at this
   exact this.1
  refine l0 (w':={w with heap:=w.heap.setIfInBounds b (.map (es.modify j fun e=>{e with key:=kV x,val:=v}) c)}) sm ?_ ?_
  ·simp [execOp,A.ev hm,A.ev hk,A.ev hv,Instr.mapUpdate,run_underlying ht,B,fF hkt,AA,MapKept.run_setObj_map _ he,Instr.keyThatStays,G,H,hkt.bits x]
  ·exact k _ _ ⟨A.defers,A.size,A.at_⟩ (hs.qm (b:=b) i hC U U (js _) (fun _ h=>h) ⟨_,_,kM he,hi.set F J v⟩)
theorem ef.del {es:Array MapEntry} {c:Nat} {m:List (K×Value)} (h:ef kV es c m) {x:K} {j:Nat} {v0:Value} (hj:m[j]? =some (x,v0)):ef kV (es.eraseIdxIfInBounds j) c (dJ m x):=by
 have hl:=(aJ.1 hj).1
 have D:=h.size
 have A:j<es.size:=by omega
 have B:(es.eraseIdxIfInBounds j).toList=es.toList.eraseIdx j:=by simp [Array.eraseIdxIfInBounds,A]
 have E:dJ m x=m.eraseIdx j:=by
  have hn:=h.keys
  clear h D A B
  induction m generalizing j with
  |nil=>simp at hj
  |cons p m ih=>
   obtain ⟨k,v⟩:=p
   simp only [List.map_cons,List.nodup_cons] at hn
   cases j with
   |zero=>
    simp at hj
    obtain ⟨rfl,rfl⟩:=hj
    simp only [dJ,List.eraseIdx_zero,List.tail_cons]
    rw [List.filter_cons_of_neg sm]
    refine List.filter_eq_self.2 fun p hp=>?_
    have:p.1≠k:=fun e=>hn.1 (bP.2 ⟨p,hp,e⟩)
    simpa using this
   |succ j=>
    simp only [List.getElem?_cons_succ] at hj
    have C:k≠x:=fun e=>hn.1 (bP.2 ⟨_,aI hj,e.symm⟩)
    simp only [dJ,List.eraseIdx_cons_succ] at ih ⊢
    rw [List.filter_cons_of_pos (by simpa using C),ih hj (by simpa using (aJ.1 hj).1) hn.2]
 have sub:(es.eraseIdxIfInBounds j).toList.Sublist es.toList:=by rw [B]; exact List.eraseIdx_sublist _ _
 refine ⟨?_,?_,fun e he=>h.x_ e (sub.subset he),h.born.sublist (sub.map _)⟩
 ·rw [B,E,ChangeMaps.map_eraseIdx,ChangeMaps.map_eraseIdx,h.list]
 ·rw [E]; exact h.keys.sublist ((List.eraseIdx_sublist _ _).map _)
theorem pT {m:List (K×Value)} {x:K} (h:m.lookup x=none):dJ m x=m:=List.filter_eq_self.2 fun p hp=>by simpa using fB.1 h p hp
/-- m[x] -/
theorem sc {t kt et:TypeId} {xm xk:Operand} {b:Nat} {x:K} {z:Value} {m:List (K×Value)} (hg:e6 ops L g=true) (hm:ev L xm=some (.map (some b))) (hk:ev L xk=some (kV x))
 (ht:E.P.underlying t=some (.map kt et)) (hkt:oS E.P kt kV) (hz:tV E.P et=some z) (hC:j3 C (lY kV b m).holds):
 SD E ops ⟨dst,.lookup t xm xk false,ty,ps,af,g⟩ D L C ((m.lookup x).getD z):=
 cn hg sm fun a w A hs=>by
  obtain ⟨es,c,he,hi⟩:=hs.has hC
  have B:(getObj b).run E.P w= .ok (.map es c) w:=MapKept.run_getObj_map he
  rcases kW (P:=E.P) (w:=w) (x:=x) hkt hi with ⟨F,G⟩|⟨j,AA,F,G,H⟩
  ·simp [execOp,Instr.lookup,A.ev hm,A.ev hk,run_underlying ht,B,fF hkt,F,G,xM hz]
  ·simp [execOp,Instr.lookup,A.ev hm,A.ev hk,run_underlying ht,B,fF hkt,F,H]
theorem px {β:Type} {t kt et:TypeId} {xm xk:Operand} {b:Nat} {x:K} {f:β→Value} {z:β} {l:List (K×β)} (hg:e6 ops L g=true) (hm:ev L xm=some (.map (some b))) (hk:ev L xk=some (kV x))
 (ht:E.P.underlying t=some (.map kt et)) (hkt:oS E.P kt kV) (hz:tV E.P et=some (f z)) (hC:j3 C (lY kV b (dv f l)).holds):
 SD E ops ⟨dst,.lookup t xm xk false,ty,ps,af,g⟩ D L C (f ((l.lookup x).getD z)):=by
 have:=sc (dst:=dst) (ty:=ty) (ps:=ps) (af:=af) (D:=D) hg hm hk ht hkt hz hC
 rw [im] at this
 have A:((l.lookup x).map f).getD (f z)=f ((l.lookup x).getD z):=by cases l.lookup x<;>rfl
 rw [A] at this
 exact this
end
theorem j8 {β:Type} {x:K} {y:β} {l:List (K×β)} (h:(x,y)∈l):(dJ l x).length<l.length:=by
 unfold dJ
 exact List.length_filter_lt_length_iff_exists.2 ⟨_,h,sm⟩
theorem th {es:Array MapEntry} {c:Nat} {m:List (K×Value)} (hinj: ∀ x y,kV x=kV y→x=y) (hi:ef kV es c m) {x y:MapEntry} (hx:x∈es.toList) (hy:y∈es.toList) (e:x.key=y.key):x=y:=by
 have hk:(es.toList.map (·.key))=(m.map (·.1)).map kV:=by
  have:=congrArg (List.map Prod.fst) hi.list
  simpa [Function.comp_def] using this
 have h:(es.toList.map (·.key)).Nodup:=by
  rw [hk,List.nodup_iff_pairwise_ne,List.pairwise_map]
  exact hi.keys.imp (fun B he=>B (hinj _ _ he))
 obtain ⟨i,A⟩:=List.getElem?_of_mem hx
 obtain ⟨j,hj⟩:=List.getElem?_of_mem hy
 have C:(es.toList.map (·.key))[i]? =some x.key:=by rw [eT,A]; rfl
 have D:(es.toList.map (·.key))[j]? =some x.key:=by rw [eT,hj,e]; rfl
 have E:=(List.getElem?_inj (aJ.1 C).1 h).1 (C.trans D.symm)
 subst E
 exact Option.some.inj (A.symm.trans hj)
section
variable {E:c_} {ops:Array Oper} {Q:bJ} {rest:List Oper} {D:List Deferred} {L:List (Nat×Value)} {C:List ah}
variable {dst:Option Tmp} {d:Nat} {ty:TypeId} {ps:String} {af:Array Edge} {g:Option (Nat×Bool)}
theorem qJ {es:Array MapEntry} {c:Nat} {m left:List (K×Value)} {seen:Array Nat} (hinj: ∀ x y,kV x=kV y→x=y) (hi:ef kV es c m) (h:(leftOf es seen).toList.map (fun (e:MapEntry)=>(e.key,e.val))=left.map (fun p=>(kV p.1,p.2))):(left.map (·.1)).Nodup:=by
 have B:((leftOf es seen).toList.map (·.key)).Sublist (es.toList.map (·.key)):=by
  unfold leftOf; rw [Array.toList_filter]; exact List.filter_sublist.map _
 have D:(es.toList.map (·.key))=(m.map (·.1)).map kV:=by
  have:=congrArg (List.map Prod.fst) hi.list
  simpa [Function.comp_def] using this
 have E:((leftOf es seen).toList.map (·.key))=(left.map (·.1)).map kV:=by
  have:=congrArg (List.map Prod.fst) h
  simpa [Function.comp_def] using this
 rw [D,E] at B
 have F:((m.map (·.1)).map kV).Nodup:=by
  rw [List.nodup_iff_pairwise_ne,List.pairwise_map]
  exact hi.keys.imp (fun A he=>A (hinj _ _ he))
 have C:=F.sublist B
 rw [List.nodup_iff_pairwise_ne,List.pairwise_map] at C
 rw [List.nodup_iff_pairwise_ne]
 exact C.imp (fun A he=>A (by rw [he]))
end
end
end
section
def dF (m:aH) (n:Nat):Prop:=(1≤m.Kind∧m.Kind≤2)∧(0≤m.bw∧m.bw≤(n:Int))∧(0≤m.To∧m.To≤(n:Int))∧m.bw<m.To∧bf m.bO 0 360000
instance (m:aH) (n:Nat):Decidable (dF m n):=by unfold dF; infer_instance
def e_ (l:List aH) (n:Nat):Prop:=(l.length:Int)≤12∧ ∀ m∈l,dF m n
instance (l:List aH) (n:Nat):Decidable (e_ l n):=by unfold e_; infer_instance
def pb (l:List aH):List (List Value):=l.mapIdx fun i m=>[.int .i64 (i:Int),.agg (aH.cells m).toArray]
section
variable {l:List aH} {n i:Nat} {x:aH}
theorem sI (h: ∀ m∈l.take i,dF m n) (hx:l[i]? =some x) (hm:dF x n): ∀ m∈l.take (i+1),dF m n:=by
 rw [List.take_add_one,hx]
 intro m hq
 rcases dV.1 hq with hq|hq
 ·exact h m hq
 ·rw [cu.1 hq]; exact hm
theorem iD (hx:l[i]? =some x) (hm: ¬ dF x n): ¬ e_ l n:=fun h=>hm (h.2 x (aI hx))
theorem gE (hl:(l.length:Int)≤12) (h: ∀ m∈l.take i,dF m n) (hi:l.length≤i):e_ l n:=⟨hl,by rw [List.take_of_length_le hi] at h; exact h⟩
theorem oJ:(pb l).length=l.length:=List.length_mapIdx
theorem uw (hx:l[i]? =some x):(pb l)[i]? =some [.int .i64 (i:Int),.agg (aH.cells x).toArray]:=by
 unfold pb; rw [List.getElem?_mapIdx,hx]; rfl
theorem pj {v:List Value} (h:(pb l)[i]? =some v): ∃ x,l[i]? =some x∧v=[.int .i64 (i:Int),.agg (aH.cells x).toArray]:=by
 unfold pb at h
 rw [List.getElem?_mapIdx] at h
 cases hx:l[i]? with
 |none=>rw [hx] at h; cases h
 |some x=>rw [hx] at h; exact ⟨x,rfl,(Option.some.inj h).symm⟩
theorem sE: ∀ v∈pb l,v.length=2:=fun v hv=>by
 obtain ⟨i,hi⟩:=List.mem_iff_getElem?.1 hv
 obtain ⟨x,_,rfl⟩:=pj hi; rfl
end
theorem mR {x:Nat} (h:x≤13):(2:Int)^x≤8192:=by
 have key: ∀ k:Fin 14,(2:Int)^k.val≤8192:=by decide
 exact key ⟨x,I⟩
theorem Rd.wX {n x i k a b:Nat} {M0 M:List Int} (hn:n≤13) (hc:Cl n x M0) (hx:x<n) (h:Rd n x M0 M i k) (ha:a<n) (hb:b<n): -8796093022208≤mt M a b∧mt M a b≤1073741824:=by
 have A:=h.bd hc hx ha hb
 have B:=mR (x:=x+1) I
 omega
theorem Cl.wX {n x i k:Nat} {M:List Int} (hx:x≤13) (h:Cl n x M) (hi:i<n) (hk:k<n): -8796093022208≤mt M i k∧mt M i k≤1073741824:=by
 have A:=h.bd i k hi hk
 have B:=mR hx
 omega
theorem kq {β:Type} {left l:List (Int×β)} {x:Int} (h: ∀ e∈left,e∈l): ∀ e∈dJ left x,e∈l:=fun e he=>h e (List.mem_filter.1 he).1
theorem uj {β:Type} {l:List (Int×β)} {t:List β} {x:Int} {y:β} (h: ∀ e∈l,e.2∈t) (hy:y∈t): ∀ e∈fq l x y,e.2∈t:=fun e he=>by
 unfold fq at he
 split at he
 ·obtain ⟨p,hp,rfl⟩:=bP.1 he
  split
  ·exact hy
  ·exact h p hp
 ·rcases dV.1 he with he|he
  ·exact h e he
  ·rw [cu.1 he]; exact hy
end
section
def eZ (a b:al):al:=⟨a.Lo+b.Lo,a.Hi+b.Hi⟩
def eW:al:=⟨0,0⟩
def eX (a:al) (l:List al):al:=l.foldl eZ a
def gH (z:al):Prop:=(-1000000000≤z.Lo∧z.Lo≤1000000000)∧ -1000000000≤z.Hi∧z.Hi≤1000000000
theorem nH {a:al} {l:List al} {i:Nat} {z:al} (h:l[i]? =some z):eX a (l.take (i+1))=eZ (eX a (l.take i)) z:=by
 rw [List.take_add_one,h]; unfold eX; simp
theorem xJ {a:al} {l:List al} (ha:gH a) (hl: ∀ z∈l,gH z): ∀ i:Nat,(-1000000000-1000000000*(i:Int)≤(eX a (l.take i)).Lo∧(eX a (l.take i)).Lo≤1000000000+1000000000*(i:Int))∧ -1000000000-1000000000*(i:Int)≤(eX a (l.take i)).Hi∧(eX a (l.take i)).Hi≤1000000000+1000000000*(i:Int):=by
 intro i
 induction i with
 |zero=>unfold gH at ha; simp [eX]; omega
 |succ i ih=>
  cases h:l[i]? with
  |none=>rw [List.take_add_one,h]; simp only [Option.toList_none,List.append_nil]; omega
  |some z=>
   have hz:=hl z (aI h)
   unfold gH at hz
   rw [nH h]
   simp only [eZ]
   omega
theorem uo {a:al} {l:List al} {i:Nat} (h:l.length≤i):eX a (l.take i)=eX a l:=by rw [List.take_of_length_le h]
theorem gD {a z:al}:vA (al.cells (eX a [z]))=vA (al.cells (eZ a z)):=rfl
theorem o9 {a y z:al}:vA (al.cells (eX a [y,z]))=vA (al.cells (eZ (eZ a y) z)):=rfl
/-- how long the run is from one mark, over so many stretches; by how much it falls -/
def b_ (ts:List aa) (f:Nat):Nat→al
 |0=>eW
 |k+1=>match ts[f+k]? with
  |some x=>eZ (b_ ts f k) x.di
  |none=>b_ ts f k
def dp (ts:List aa) (f:Nat):Nat→al
 |0=>eW
 |k+1=>match ts[f+k]? with
  |some x=>eZ (dp ts f k) x.dj
  |none=>dp ts f k
theorem iF {ts:List aa} {f k:Nat} {x:aa} (h:ts[f+k]? =some x):b_ ts f (k+1)=eZ (b_ ts f k) x.di:=by simp [b_,h]
theorem jV {ts:List aa} {f k:Nat} {x:aa} (h:ts[f+k]? =some x):dp ts f (k+1)=eZ (dp ts f k) x.dj:=by simp [dp,h]
theorem il {ts:List aa} (ht: ∀ x∈ts,aM x) (f:Nat): ∀ k:Nat,(0≤(b_ ts f k).Lo∧(b_ ts f k).Lo≤(b_ ts f k).Hi)∧(b_ ts f k).Hi≤30000*(k:Int):=by
 intro k
 induction k with
 |zero=>simp [b_,eW]
 |succ k ih=>
  simp only [b_]
  cases h:ts[f+k]? with
  |none=>simp only; omega
  |some x=>
   have hx:=(ht x (aI h)).2.1
   simp only [bf] at hx
   simp only [eZ]
   omega
theorem vM {ts:List aa} (ht: ∀ x∈ts,aM x) (f:Nat): ∀ k:Nat,(0≤(dp ts f k).Lo∧(dp ts f k).Lo≤(dp ts f k).Hi)∧(dp ts f k).Hi≤5000*(k:Int):=by
 intro k
 induction k with
 |zero=>simp [dp,eW]
 |succ k ih=>
  simp only [dp]
  cases h:ts[f+k]? with
  |none=>simp only; omega
  |some x=>
   have hx:=(ht x (aI h)).2.2.1
   simp only [bf] at hx
   simp only [eZ]
   omega
theorem jl {ts:List aa} (ht: ∀ x∈ts,aM x) {f k:Nat} (hk:k≤13):gH (b_ ts f k):=by
 have:=il ht f k; unfold gH; omega
theorem mq {ts:List aa} (ht: ∀ x∈ts,aM x) {f k:Nat} (hk:k≤13):gH (dp ts f k):=by
 have:=vM ht f k; unfold gH; omega
theorem k9 {x:aa} (h:aM x):gH x.di:=by have:=h.2.1; simp only [bf] at this; unfold gH; omega
theorem kQ {x:aa} (h:aM x):gH x.dj:=by have:=h.2.2.1; simp only [bf] at this; unfold gH; omega
theorem nh {ts:List aa} {f:Nat} {x:aa} (h:ts[f]? =some x):b_ ts f 1=x.di:=by
 have:ts[f+0]? =some x:=by simpa using h
 rw [iF this]; simp [b_,eZ,eW]
theorem dn {ts:List aa} (h: ¬ (if a_ ts=true then (0:Int) else 10)=0):a_ ts=false∧(if a_ ts=true then (0:Int) else 10)=10:=by
 cases ht:a_ ts with
 |true=>rw [ht] at h; exact absurd rfl h
 |false=>exact ⟨rfl,rfl⟩
theorem n9 {ts:List aa} (h:(if a_ ts=true then (0:Int) else 10)=0):a_ ts=true:=by
 cases ht:a_ ts with
 |true=>rfl
 |false=>rw [ht] at h; exact absurd h dc
/-- what the iterator of marks yields -/
def j5 (ts:List aa) (f:Nat):List (List Value):=(List.range (ts.length-f+1)).map fun (k:Nat)=>[.agg (b_ ts f k).cells.toArray,.agg (dp ts f k).cells.toArray]
theorem kE {ts:List aa} {f:Nat}:(j5 ts f).length=ts.length-f+1:=by simp [j5]
theorem nb {ts:List aa} {f k:Nat} (h:k≤ts.length-f):(j5 ts f)[k]? =some [.agg (b_ ts f k).cells.toArray,.agg (dp ts f k).cells.toArray]:=by
 simp [j5,List.getElem?_range (show k<ts.length-f+1 by omega)]
theorem sj {ts:List aa} {f k:Nat} {x:List Value} (h:(j5 ts f)[k]? =some x):k≤ts.length-f∧x=[.agg (b_ ts f k).cells.toArray,.agg (dp ts f k).cells.toArray]:=by
 have hi:k<ts.length-f+1:=by
  have:=(aJ.1 h).1
  simpa [j5] using this
 rw [nb I] at h
 exact ⟨I,(Option.some.inj h).symm⟩
theorem ql {ts:List aa} {f:Nat}: ∀ x∈j5 ts f,x.length=2:=fun x hx=>by
 obtain ⟨k,_,rfl⟩:=bP.1 hx; rfl
def iM (ts:List aa) (f t:Int):Int:=if a_ ts=true then (if 0≤f∧f≤t∧t≤(ts.length:Int) then 0 else 2) else 10
def nw (ts:List aa) (f t:Int):al:=if iM ts f t=0 then b_ ts f.toNat (t-f).toNat else eW
def m8 (ts:List aa) (f t:Int):al:=if iM ts f t=0 then dp ts f.toNat (t-f).toNat else eW
theorem jn {ts:List aa} {f t:Int} (h:a_ ts=false):iM ts f t=10∧nw ts f t=eW∧m8 ts f t=eW:=by
 have e:iM ts f t=10:=by unfold iM; rw [h]; rfl
 exact ⟨e,by unfold nw; rw [e]; rfl,by unfold m8; rw [e]; rfl⟩
theorem jo {ts:List aa} {f t:Int} (h:a_ ts=true) (h2: ¬ (0≤f∧f≤t∧t≤(ts.length:Int))):iM ts f t=2∧nw ts f t=eW∧m8 ts f t=eW:=by
 have e:iM ts f t=2:=by unfold iM; rw [if_pos h,if_neg h2]
 exact ⟨e,by unfold nw; rw [e]; rfl,by unfold m8; rw [e]; rfl⟩
theorem iX {ts:List aa} {f t:Int} (h:a_ ts=true) (h2:0≤f∧f≤t∧t≤(ts.length:Int)):iM ts f t=0∧nw ts f t=b_ ts f.toNat (t-f).toNat∧m8 ts f t=dp ts f.toNat (t-f).toNat:=by
 have e:iM ts f t=0:=by unfold iM; rw [if_pos h,if_pos h2]
 exact ⟨e,if_pos e,if_pos e⟩
end
section
def bS (ts:List aa) (s:aG):Prop:=(0≤s.ao∧s.ao<(ts.length:Int))∧ ∃ x,ts[s.ao.toNat]? =some x∧bf s.gO 0 (x.di.Lo-1)
noncomputable instance (ts:List aa) (s:aG):Decidable (bS ts s):=Classical.propDecidable _
theorem oT {ts:List aa} {s:aG} {x:aa} (h:0≤s.ao∧s.ao<(ts.length:Int)) (hx:ts[s.ao.toNat]? =some x):bS ts s↔bf s.gO 0 (x.di.Lo-1):=
 ⟨fun A=>by obtain ⟨y,hy,B⟩:=A.2; rw [hx] at hy; cases hy; exact B,fun A=>⟨h,x,hx,A⟩⟩
theorem oI {ts:List aa} {s:aG} (h: ¬ (0≤s.ao∧s.ao<(ts.length:Int))): ¬ bS ts s:=fun A=>h A.1
theorem kY {ts:List aa} {s:aG} (ht: ∀ x∈ts,aM x) (h:bS ts s):(0≤s.gO.Lo∧s.gO.Lo≤s.gO.Hi)∧s.gO.Hi≤30000:=by
 obtain ⟨x,hx,A⟩:=h.2
 have:=(ht x (aI hx)).2.1
 simp only [bf] at A this
 omega
theorem pS {ts:List aa} {a:aG}:vB (decide (∀ s∈[a],bS ts s))=vB (decide (bS ts a)):=congrArg _ (dQ.2 sm)
theorem pK {ts:List aa} {a b:aG}:vB (decide (∀ s∈[a,b],bS ts s))=vB (decide (bS ts a∧bS ts b)):=congrArg _ (dQ.2 sm)
def fY (z:al):al:=⟨-z.Hi,-z.Lo⟩
def AO (ts:List aa) (s:aG):al:=eZ (b_ ts 0 s.ao.toNat) s.gO
noncomputable def sb (ts:List aa) (s:aG):Int:=if a_ ts=true then (if bS ts s then 0 else 12) else 10
noncomputable def ya (ts:List aa) (s:aG):al:=if sb ts s=0 then AO ts s else eW
theorem w9 {ts:List aa} {s:aG} (h:a_ ts=false):sb ts s=10∧ya ts s=eW:=by
 have e:sb ts s=10:=by unfold sb; rw [h]; rfl
 exact ⟨e,by unfold ya; rw [e]; rfl⟩
theorem xZ {ts:List aa} {s:aG} (h:a_ ts=true) (h2: ¬ bS ts s):sb ts s=12∧ya ts s=eW:=by
 have e:sb ts s=12:=by unfold sb; rw [if_pos h,if_neg h2]
 exact ⟨e,by unfold ya; rw [e]; rfl⟩
theorem yj {ts:List aa} {s:aG} (h:a_ ts=true) (h2:bS ts s):sb ts s=0∧ya ts s=AO ts s:=by
 have e:sb ts s=0:=by unfold sb; rw [if_pos h,if_pos h2]
 exact ⟨e,if_pos e⟩
theorem vm {ts:List aa} {s:aG} (h:a_ ts=true):sb ts s=0↔bS ts s:=by
 unfold sb; rw [if_pos h]; split<;>simp [*]
def j6 (ts:List aa) (a b:aG):al:=b_ ts (min a.ao b.ao).toNat (max a.ao b.ao-min a.ao b.ao).toNat
def cM (ts:List aa) (a b:aG):al:=eZ (eZ (if b.ao<a.ao then fY (j6 ts a b) else j6 ts a b) b.gO) (fY a.gO)
noncomputable def gr (ts:List aa) (a b:aG):Int:=if a_ ts=true then (if bS ts a∧bS ts b then 0 else 12) else 10
noncomputable def dL (ts:List aa) (a b:aG):al:=if gr ts a b=0 then cM ts a b else eW
theorem r6 {ts:List aa} {a b:aG} (h:a_ ts=false):gr ts a b=10∧dL ts a b=eW:=by
 have e:gr ts a b=10:=by unfold gr; rw [h]; rfl
 exact ⟨e,by unfold dL; rw [e]; rfl⟩
theorem sA {ts:List aa} {a b:aG} (h:a_ ts=true) (h2: ¬ (bS ts a∧bS ts b)):gr ts a b=12∧dL ts a b=eW:=by
 have e:gr ts a b=12:=by unfold gr; rw [if_pos h,if_neg h2]
 exact ⟨e,by unfold dL; rw [e]; rfl⟩
theorem jg {ts:List aa} {a b:aG} (h:a_ ts=true) (h2:bS ts a∧bS ts b):gr ts a b=0∧dL ts a b=cM ts a b:=by
 have e:gr ts a b=0:=by unfold gr; rw [if_pos h,if_pos h2]
 exact ⟨e,if_pos e⟩
theorem nM {z:al} (h:gH z):gH (fY z):=by unfold gH fY at *; simp only; omega
theorem qo {ts:List aa} {s:aG} (ht: ∀ x∈ts,aM x) (h:bS ts s):gH s.gO:=by have:=kY ht h; unfold gH; omega
theorem xS {ts:List aa} {a b:aG} (ht: ∀ x∈ts,aM x) (hl:ts.length≤12) (ha:bS ts a) (hb:bS ts b):(0≤(j6 ts a b).Lo∧(j6 ts a b).Lo≤(j6 ts a b).Hi)∧(j6 ts a b).Hi≤360000:=by
 have h:=il ht (min a.ao b.ao).toNat (max a.ao b.ao-min a.ao b.ao).toNat
 have A:=ha.1
 have B:=hb.1
 unfold j6
 omega
theorem mw {ts:List aa} {a b:aG} (ht: ∀ x∈ts,aM x) (hl:ts.length≤12) (ha:bS ts a) (hb:bS ts b):(-400000≤(cM ts a b).Lo∧(cM ts a b).Lo≤(cM ts a b).Hi)∧(cM ts a b).Hi≤400000:=by
 have h:=xS ht hl ha hb
 have A:=kY ht ha
 have B:=kY ht hb
 unfold cM eZ fY
 split<;>simp only <;>omega
theorem sk {α:Type} {p:Nat→α→Bool} {l:List α}:((l.zipIdx.filter fun q=>p q.2 q.1).map fun q=>(q.2:Int))=[]↔ ∀ (i:Nat) x,l[i]? =some x→p i x=false:=by
 rw [List.map_eq_nil_iff,List.filter_eq_nil_iff]
 constructor
 ·intro h i x hx
  have:=h (x,i) (by rw [List.mem_zipIdx_iff_getElem?]; simpa using hx)
  simpa using this
 ·rintro h ⟨x,i⟩ hm
  rw [List.mem_zipIdx_iff_getElem?] at hm
  simpa using h i x (by simpa using hm)
/-- the places of a list at which something is so -/
def jN {α:Type} (p:Nat→α→Bool) (l:List α) (n:Nat):List Int:=(((l.take n).zipIdx.filter fun q=>p q.2 q.1).map fun q=>(q.2:Int))
theorem tH {α:Type} {p:Nat→α→Bool} {l:List α} {i:Nat} {x:α} (hx:l[i]? =some x) (h:p i x=true):jN p l (i+1)=jN p l i++[(i:Int)]:=by
 have hi:=(aJ.1 hx).1
 unfold jN
 rw [List.take_add_one,hx,List.zipIdx_append,List.filter_append,List.map_append]
 simp [Nat.min_eq_left (Nat.le_of_lt hi),h]
theorem vo {α:Type} {p:Nat→α→Bool} {l:List α} {i:Nat} {x:α} (hx:l[i]? =some x) (h:p i x=false):jN p l (i+1)=jN p l i:=by
 have hi:=(aJ.1 hx).1
 unfold jN
 rw [List.take_add_one,hx,List.zipIdx_append,List.filter_append,List.map_append]
 simp [Nat.min_eq_left (Nat.le_of_lt hi),h]
theorem o3 {α:Type} {p:Nat→α→Bool} {l:List α} {n:Nat}:(jN p l n).length≤n:=by
 unfold jN
 rw [List.length_map]
 refine Nat.le_trans (List.length_filter_le _ _) ?_
 rw [List.length_zipIdx,List.length_take]; omega
def ti {α:Type} (p:Nat→α→Bool) (l:List α):List Int:=jN p l l.length
theorem vl {α:Type} {p:Nat→α→Bool} {l:List α} {n:Nat} (h:n=l.length):jN p l n=ti p l:=by rw [h]; rfl
theorem si {α:Type} {p:Nat→α→Bool} {l:List α}:(ti p l).length=0↔ ∀ (i:Nat) x,l[i]? =some x→p i x=false:=by
 unfold ti jN
 rw [List.length_eq_zero_iff,List.take_length]
 exact sk
end
section
def g0 (l:List Int):Int:=l.foldl (fun n x=>max (max n x) (-x)) 0
theorem pN {l:List Int} {i:Nat} {x:Int} (h:l[i]? =some x):g0 (l.take (i+1))=max (max (g0 (l.take i)) x) (-x):=by
 unfold g0; rw [List.take_add_one,h,List.foldl_append]; rfl
def gL (ts:List aa) (s:aG) (m:Int):Int:=if m≤s.ao then (b_ ts m.toNat (s.ao-m).toNat).Hi+s.gO.Hi else (b_ ts s.ao.toNat (m-s.ao).toNat).Hi-s.gO.Lo
def iR (ts:List aa) (s:aG) (k:Int):Int:=max (gL ts s k) (gL ts s (k+1))
theorem nO {ts:List aa} {s:aG} (ht:a_ ts=true) (hs:bS ts s) {m:Int} (hm:0≤m∧m≤ts.length):0≤gL ts s m∧gL ts s m≤400000:=by
 have A:=cP ht
 have hl:=dy ht
 have D:=kY A hs
 have E:=hs.1
 unfold gL
 split
 ·have:=il A m.toNat (s.ao-m).toNat
  omega
 ·have C:=il A s.ao.toNat (m-s.ao).toNat
  obtain ⟨x,hx,ho⟩:=hs.2
  have hp:(b_ ts s.ao.toNat 1).Hi≤(b_ ts s.ao.toNat (m-s.ao).toNat).Hi:=by
   obtain ⟨k,hk⟩: ∃ k,(m-s.ao).toNat=1+k:=⟨(m-s.ao).toNat-1,I⟩
   rw [hk]
   clear hk C
   induction k with
   |zero=>exact Int.le_refl _
   |succ k ih=>
    refine Int.le_trans ih ?_
    rw [← Nat.add_assoc]
    simp only [b_]
    cases e:ts[s.ao.toNat+(1+k)]? with
    |none=>exact Int.le_refl _
    |some y=>
     have:=(A y (aI e)).2.1
     simp only [bf] at this
     simp only [eZ]; omega
  rw [nh hx] at hp
  have B:=(A x (aI hx)).2.1
  simp only [bf] at B ho
  omega
theorem zt {ts:List aa} {s:aG} (ht:a_ ts=true) (hs:bS ts s) {k:Int} (hk:0≤k∧k<ts.length):0≤iR ts s k∧iR ts s k≤400000:=by
 have A:=nO ht hs (m:=k) I
 have B:=nO ht hs (m:=k+1) I
 unfold iR; omega
/-- the place at which a stretch begins -/
theorem ot {ts:List aa} (ht:a_ ts=true) {k:Int} (hk:0≤k∧k<ts.length):bS ts ⟨k,⟨0,0⟩⟩:=by
 have hx:ts[k.toNat]? =some (ts[k.toNat]'I):=dr I
 have:=(cP ht _ (aI hx)).2.1
 simp only [bf] at this
 exact ⟨hk,_,hx,by simp only [bf]; omega⟩
theorem sw {ts:List aa} (hst: ∀ x∈ts,aM x) (f:Nat): ∀ k j:Nat,(b_ ts f k).Lo≤(b_ ts f (k+j)).Lo∧(b_ ts f k).Hi≤(b_ ts f (k+j)).Hi:=by
 intro k j
 induction j with
 |zero=>exact ⟨Int.le_refl _,Int.le_refl _⟩
 |succ j ih=>
  rw [← Nat.add_assoc]
  simp only [b_]
  cases e:ts[f+(k+j)]? with
  |none=>exact ih
  |some y=>
   have:=(hst y (aI e)).2.1
   simp only [bf] at this
   simp only [eZ]; omega
theorem qE {ts:List aa} {s:aG} (ht:a_ ts=true) (hs:bS ts s) {k:Int} (hk:0≤k∧k<ts.length):g0 [(cM ts s ⟨k,⟨0,0⟩⟩).Lo,(cM ts s ⟨k,⟨0,0⟩⟩).Hi]=gL ts s k:=by
 have A:=cP ht
 have C:=kY A hs
 have D:=hs.1
 show max (max (max (max 0 _) (-_)) _) (-_)=_
 unfold gL cM j6
 by_cases q:k<s.ao
 ·rw [if_pos (show k≤s.ao by omega)]
  simp only
  rw [if_pos q,show min s.ao k=k by omega,show max s.ao k=s.ao by omega]
  have:=il A k.toNat (s.ao-k).toNat
  simp only [eZ,fY]; omega
 ·simp only
  rw [if_neg q,show min s.ao k=s.ao by omega,show max s.ao k=k by omega]
  by_cases e:k=s.ao
  ·subst e
   rw [if_pos (Int.le_refl _),Int.sub_self]
   simp only [Int.toNat_zero,b_,eZ,fY,eW]; omega
  ·rw [if_neg I]
   obtain ⟨x,hx,ho⟩:=hs.2
   have B:=(A x (aI hx)).2.1
   simp only [bf] at B ho
   have hp:=sw A s.ao.toNat 1 ((k-s.ao).toNat-1)
   rw [show 1+((k-s.ao).toNat-1)=(k-s.ao).toNat by omega,nh hx] at hp
   have:=il A s.ao.toNat (k-s.ao).toNat
   simp only [eZ,fY]; omega
structure ak where
 ag:List aa
 ae:List aV
 aq:List bc
 a2:aG
 a4:Int
 deriving DecidableEq
def fb (ps:List aV) (i:Nat):Int:=if i=0 then-1 else ((ps[i-1]?).map (·.Id)).getD 0
theorem gP {ps:List aV} {i:Nat} (h:i=0):fb ps i= -1:=if_pos h
theorem cb {ps:List aV} {i:Nat} {y:aV} (h:0<i) (hy:ps[i-1]? =some y):fb ps i=y.Id:=by unfold fb; rw [if_neg I,hy]; rfl
theorem oR {ps:List aV} {i:Nat} {y:aV} (hy:ps[i]? =some y):fb ps (i+1)=y.Id:=by unfold fb; rw [if_neg I,Nat.add_sub_cancel,hy]; rfl
def cf (ts:List aa) (ps:List aV) (i:Nat) (p:aV):Prop:=(fb ps i<p.Id∧0≤p.Id∧p.Id≤9999)∧(1≤p.Kind∧p.Kind≤3)∧bS ts p.cp∧(0≤p.gT∧p.gT≤36000)∧1≤p.jM∧p.jM≤1000
def bx (ts:List aa) (n:bc):Prop:=(0≤n.ao∧n.ao≤(ts.length:Int)-1)∧(1≤n.Kind∧n.Kind≤3)∧0≤n.e8∧n.e8≤36000
structure dO (d:ak):Prop where
 len:d.ae.length≤8∧d.aq.length≤10
 b1:bS d.ag d.a2
 dC:0≤d.a4∧d.a4≤400000
 post: ∀ (i:Nat) p,d.ae[i]? =some p→cf d.ag d.ae i p
 eQ: ∀ n∈d.aq,bx d.ag n
noncomputable instance (d:ak):Decidable (dO d):=Classical.propDecidable _
noncomputable instance (ts:List aa) (n:bc):Decidable (bx ts n):=by unfold bx; infer_instance
noncomputable instance (ts:List aa) (ps:List aV) (i:Nat) (p:aV):Decidable (cf ts ps i p):=by unfold cf; infer_instance
noncomputable def br (d:ak):Int:=if a_ d.ag=true then (if dO d then 0 else 90) else 10
theorem cS {d:ak} (h:a_ d.ag=false):br d=10:=by unfold br; rw [h]; rfl
theorem aD {d:ak} (h:a_ d.ag=true) (h2: ¬ dO d):br d=90:=by unfold br; rw [if_pos h,if_neg h2]
theorem cY {d:ak} (h:a_ d.ag=true) (h2:dO d):br d=0:=by unfold br; rw [if_pos h,if_pos h2]
theorem cO {d:ak} (h:br d=0):a_ d.ag=true∧dO d:=by
 unfold br at h
 split at h
 ·split at h
  ·exact ⟨asm,asm⟩
  ·omega
 ·omega
def eV (ts:List aa) (p:aV) (k:Int):Int:=p.gT+(p.jM*iR ts p.cp k+999)/1000
theorem xR {a f:Int} (ha:1≤a∧a≤1000) (hf:0≤f∧f≤400000):0≤a*f∧a*f≤400000000:=by
 have A:0≤a*f:=Int.mul_nonneg I hf.1
 have B:a*f≤1000*f:=Int.mul_le_mul_of_nonneg_right ha.2 hf.1
 omega
def eF (d:ak) (a b:aG):Prop:= -d.a4≤(cM d.ag a b).Lo∧(cM d.ag a b).Hi≤d.a4
instance (d:ak) (a b:aG):Decidable (eF d a b):=by unfold eF; infer_instance
inductive ec (d:ak) (S:Nat→Prop):Nat→Prop
 |b1 {i:Nat} {p:aV}:S i→d.ae[i]? =some p→eF d d.a2 p.cp→ec d S i
 |post {k i:Nat} {q p:aV}:ec d S k→d.ae[k]? =some q→S i→d.ae[i]? =some p→eF d q.cp p.cp→ec d S i
noncomputable instance (d:ak) (S:Nat→Prop) (i:Nat):Decidable (ec d S i):=Classical.propDecidable _
theorem ec.lt {d:ak} {S:Nat→Prop} {i:Nat} (h:ec d S i):i<d.ae.length:=by
 cases h with
 |b1 _ hp _=>exact (aJ.1 hp).1
 |post _ _ _ hp _=>exact (aJ.1 hp).1
theorem ec.mono {d:ak} {S T:Nat→Prop} (hst: ∀ i,i<d.ae.length→S i→T i) {i:Nat} (h:ec d S i):ec d T i:=by
 induction h with
 |b1 hs hp hh=>exact .b1 (hst _ (aJ.1 hp).1 hs) hp hh
 |post _ hq hs hp hh ih=>exact .post ih hq (hst _ (aJ.1 hp).1 hs) hp hh
theorem lG {d:ak} {S T:Nat→Prop} (h: ∀ i,i<d.ae.length→(S i↔T i)) (i:Nat):ec d S i↔ec d T i:=⟨fun c=>c.mono fun i hi=>(h i hi).1,fun c=>c.mono fun i hi=>(h i hi).2⟩
noncomputable def bZ (n:Nat) (p:Nat→Prop):List Int:=((List.range n).filter fun i=> @decide (p i) (Classical.propDecidable _)).map fun (i:Nat)=>(i:Int)
theorem eU {n:Nat} {p:Nat→Prop} {x:Int}:x∈bZ n p↔ ∃ i:Nat,x=(i:Int)∧i<n∧p i:=by
 unfold bZ
 rw [bP]
 constructor
 ·rintro ⟨i,hi,rfl⟩
  have:=List.mem_filter.1 hi
  exact ⟨i,U,List.mem_range.1 this.1,by simpa using this.2⟩
 ·rintro ⟨i,rfl,A,B⟩
  exact ⟨i,List.mem_filter.2 ⟨List.mem_range.2 A,by simpa using B⟩,U⟩
theorem lZ {n:Nat} {p:Nat→Prop} {i:Nat}:(i:Int)∈bZ n p↔i<n∧p i:=by
 rw [eU]
 exact ⟨fun ⟨k,e,h⟩=>(show k=i by omega)▸h,fun h=>⟨i,rfl,h⟩⟩
theorem fm {n:Nat} {p:Nat→Prop} (h:p n):bZ (n+1) p=bZ n p++[(n:Int)]:=by
 unfold bZ; rw [List.range_succ,List.filter_append,List.map_append]; simp [h]
theorem fP {n:Nat} {p:Nat→Prop} (h: ¬ p n):bZ (n+1) p=bZ n p:=by
 unfold bZ; rw [List.range_succ,List.filter_append,List.map_append]; simp [h]
theorem dE {n:Nat} {p:Nat→Prop}:(bZ n p).length≤n:=by
 unfold bZ; rw [List.length_map]
 exact Nat.le_trans (List.length_filter_le _ _) sm
theorem iw {n:Nat} {p q:Nat→Prop} (h: ∀ i,i<n→(p i↔q i)):bZ n p=bZ n q:=by
 induction n with
 |zero=>rfl
 |succ n ih=>
  have ih:=ih fun i hi=>h i I
  by_cases e:p n
  ·rw [fm e,fm ((h n I).1 e),ih]
  ·rw [fP e,fP (fun q=>e ((h n I).2 q)),ih]
theorem gV {n:Nat} {p:Nat→Prop}:(bZ n p).Pairwise (· < ·):=by
 unfold bZ
 rw [List.pairwise_map]
 exact List.Pairwise.imp (fun h=>by omega) (List.Pairwise.filter _ List.pairwise_lt_range)
theorem ji {n:Nat} {p:Nat→Prop}:bZ n p=[]↔ ∀ i,i<n→ ¬ p i:=by
 constructor
 ·intro h i hi hp
  have:(i:Int)∈bZ n p:=lZ.2 ⟨hi,hp⟩
  rw [h] at this; cases this
 ·intro h
  rw [List.eq_nil_iff_forall_not_mem]
  intro x hx
  obtain ⟨i,_,A,B⟩:=eU.1 hx
  exact h i A B
/-- a sorted list is known by what is in it -/
theorem jW {l:List Int} {n:Nat} {p:Nat→Prop} (hs:l.Pairwise (· < ·)) (h: ∀ x,x∈l↔ ∃ i:Nat,x=(i:Int)∧i<n∧p i):l=bZ n p:=by
 have key: ∀ {a b:List Int},a.Pairwise (· < ·)→b.Pairwise (· < ·)→(∀ x,x∈a↔x∈b)→a=b:=by
  intro a
  induction a with
  |nil=>intro b _ _ h; symm; rw [List.eq_nil_iff_forall_not_mem]; intro x hx; exact absurd ((h x).2 hx) sm
  |cons x a ih=>
   intro b ha hb h
   cases b with
   |nil=>exact absurd ((h x).1 sm) sm
   |cons y b=>
    obtain ⟨A,D⟩:=List.pairwise_cons.1 ha
    obtain ⟨B,E⟩:=List.pairwise_cons.1 hb
    have e:x=y:=by
     rcases bE.1 ((h x).1 sm) with e|e
     ·exact e
     ·rcases bE.1 ((h y).2 sm) with C|C
      ·exact C.symm
      ·have:=B x e; have:=A y C; omega
    subst e
    congr 1
    refine ih D E fun z=>⟨fun hz=>?_,fun hz=>?_⟩
    ·rcases bE.1 ((h z).1 (eh _ hz)) with e|e
     ·subst e; have:=A z hz; omega
     ·exact e
    ·rcases bE.1 ((h z).2 (eh _ hz)) with e|e
     ·subst e; have:=B z hz; omega
     ·exact e
 exact key hs gV fun x=>by rw [h,eU]
noncomputable def dI (d:ak) (S:Nat→Prop):List Int:=bZ d.ae.length (ec d S)
def ni (d:ak) (n:bc) (i:Nat):Prop:= ∃ p,d.ae[i]? =some p∧p.Kind=n.Kind∧eV d.ag p n.ao≤n.e8
noncomputable def gZ (d:ak) (n:bc) (S:Nat→Prop):List Int:=bZ d.ae.length fun i=>ec d S i∧ni d n i
def gu (d:ak) (S:Nat→Prop) (j:Nat):Prop:= ∃ n,d.aq[j]? =some n∧gZ d n S=[]
noncomputable def cq (d:ak) (S:Nat→Prop):List Int:=bZ d.aq.length (gu d S)
def cW (S:Nat→Prop) (i:Nat):Nat→Prop:=fun k=>S k∧k≠i
noncomputable def iK (d:ak) (S:Nat→Prop):List Int:=bZ d.ae.length fun i=>S i∧cq d (cW S i)≠[]
def cy (d:ak) (S:Nat→Prop):Prop:=cq d S=[]∧iK d S=[]
noncomputable instance (d:ak) (S:Nat→Prop):Decidable (cy d S):=Classical.propDecidable _
theorem nY {d:ak} {S T:Nat→Prop} (h: ∀ i,i<d.ae.length→(S i↔T i)):dI d S=dI d T:=iw fun i _=>lG h i
theorem lv {d:ak} {n:bc} {S T:Nat→Prop} (h: ∀ i,i<d.ae.length→(S i↔T i)):gZ d n S=gZ d n T:=iw fun i _=>by rw [lG h i]
theorem fg {d:ak} {S T:Nat→Prop} (h: ∀ i,i<d.ae.length→(S i↔T i)):cq d S=cq d T:=iw fun i _=>by unfold gu; simp only [lv h]
theorem mf {d:ak} {S T:Nat→Prop} (h: ∀ i,i<d.ae.length→(S i↔T i)):iK d S=iK d T:=iw fun i hi=>by
 rw [h i hi,fg (S:=cW S i) (T:=cW T i) fun k hk=>by unfold cW; rw [h k hk]]
theorem nU {d:ak} {S T:Nat→Prop} (h: ∀ i,i<d.ae.length→(S i↔T i)):cy d S↔cy d T:=by unfold cy; rw [fg h,mf h]
noncomputable def xN (d:ak) (a k:Int):Int:=if br d=0 then (if (0≤a∧a≤(d.ae.length:Int)-1)∧0≤k∧k≤(d.ag.length:Int)-1 then 0 else 2) else br d
noncomputable def ik (d:ak) (a k:Int):Int:=xN d a k
noncomputable def k7 (d:ak) (a k:Int):Int:=if ik d a k=0 then (match d.ae[a.toNat]? with |some p=>iR d.ag p.cp k|none=>0) else 0
noncomputable def hP (d:ak) (a k:Int):Int:=if ik d a k=0 then (match d.ae[a.toNat]? with |some p=>eV d.ag p k|none=>0) else 0
theorem gK {d:ak} {a k:Int} (h: ¬ br d=0):ik d a k=br d∧k7 d a k=0∧hP d a k=0:=by
 have e:ik d a k=br d:=if_neg h
 exact ⟨e,by unfold k7; rw [if_neg (by rw [e]; exact h)],by unfold hP; rw [if_neg (by rw [e]; exact h)]⟩
theorem gN {d:ak} {a k:Int} (h:br d=0) (h2: ¬ ((0≤a∧a≤(d.ae.length:Int)-1)∧0≤k∧k≤(d.ag.length:Int)-1)):ik d a k=2∧k7 d a k=0∧hP d a k=0:=by
 have e:ik d a k=2:=by unfold ik xN; rw [if_pos h,if_neg h2]
 exact ⟨e,by unfold k7; rw [if_neg (by rw [e]; omega)],by unfold hP; rw [if_neg (by rw [e]; omega)]⟩
theorem gz {d:ak} {a k:Int} {p:aV} (h:br d=0) (h2:(0≤a∧a≤(d.ae.length:Int)-1)∧0≤k∧k≤(d.ag.length:Int)-1) (hp:d.ae[a.toNat]? =some p):ik d a k=0∧k7 d a k=iR d.ag p.cp k∧hP d a k=eV d.ag p k:=by
 have e:ik d a k=0:=by unfold ik xN; rw [if_pos h,if_pos h2]
 exact ⟨e,by unfold k7; rw [if_pos e,hp],by unfold hP; rw [if_pos e,hp]⟩
def iN (l:List Int) (i:Nat):Int:=if i=0 then-1 else (l[i-1]?).getD 0
theorem ma {l:List Int}:iN l 0= -1:=rfl
theorem qt {l:List Int} {i:Nat} {x:Int} (h:l[i]? =some x):iN l (i+1)=x:=by unfold iN; rw [if_neg I,Nat.add_sub_cancel,h]; rfl
theorem r7 {l:List Int} {i:Nat} {x:Int} (hi:0<i) (h:l[i-1]? =some x):iN l i=x:=by unfold iN; rw [if_neg I,h]; rfl
def gM (n:Nat) (l:List Int) (i:Nat) (x:Int):Prop:=iN l i<x∧0≤x∧x≤(n:Int)-1
def iH (n:Nat) (l:List Int) (i:Nat):Prop:= ∀ (j:Nat) x,j<i→l[j]? =some x→gM n l j x
def fk (n:Nat) (l:List Int):Prop:= ∀ (j:Nat) x,l[j]? =some x→gM n l j x
noncomputable instance (n:Nat) (l:List Int):Decidable (fk n l):=Classical.propDecidable _
theorem qw {n:Nat} {l:List Int}:iH n l 0:=fun j x hj=>absurd hj (Nat.not_lt_zero _)
theorem qu {n:Nat} {l:List Int} {i:Nat} {x:Int} (h:iH n l i) (hx:l[i]? =some x) (ho:gM n l i x):iH n l (i+1):=fun j y hj hy=>by
 rcases Nat.lt_or_ge j i with q|q
 ·exact h j y q hy
 ·obtain rfl:j=i:=by omega
  rw [hx] at hy; cases hy; exact ho
theorem ng {n:Nat} {l:List Int} {i:Nat} (h:iH n l i) (hi:l.length≤i):fk n l:=fun j x hx=>h j x (by have:=(aJ.1 hx).1; omega) hx
theorem vC {n:Nat} {l:List Int} {i:Nat} (hi:i≤l.length) (h:iH n l i): -1≤iN l i∧iN l i≤(n:Int):=by
 rcases Nat.eq_zero_or_pos i with e|e
 ·subst e; rw [ma]; omega
 ·have hy:l[i-1]? =some (l[i-1]'I):=dr _
  have:=h (i-1) _ I hy
  unfold gM at this
  rw [r7 e hy]; omega
theorem jv {n:Nat} {l:List Int} (h:fk n l): ∀ x∈l,0≤x∧x<(n:Int):=fun x hx=>by
 obtain ⟨j,hj⟩:=List.getElem?_of_mem hx
 have:=h j x hj
 unfold gM at this; omega
noncomputable def bM (d:ak) (l:List Int):Int:=if br d=0 then (if fk d.ae.length l then 0 else 2) else br d
theorem mP {d:ak} {l:List Int} (h: ¬ br d=0):bM d l=br d:=if_neg h
theorem l8 {d:ak} {l:List Int} (h:br d=0) (h2: ¬ fk d.ae.length l):bM d l=2:=by unfold bM; rw [if_pos h,if_neg h2]
theorem kN {d:ak} {l:List Int} (h:br d=0) (h2:fk d.ae.length l):bM d l=0:=by unfold bM; rw [if_pos h,if_pos h2]
theorem jf {d:ak} {l:List Int} (h:bM d l=0):br d=0∧fk d.ae.length l:=by
 unfold bM at h
 split at h
 ·split at h
  ·exact ⟨asm,asm⟩
  ·omega
 ·rename_i q; exact absurd h q
def hG (l:List Int):Nat→Prop:=fun i=>(i:Int) ∉ l
end
section
abbrev BM:=List (Int×Bool)
def eo (m:BM) (P:Nat→Prop):Prop:=(m.map (·.1)).Nodup∧ ∀ x b,(x,b)∈m↔b=true∧ ∃ i:Nat,x=(i:Int)∧P i
theorem vt:eo [] (fun _=>False):=⟨sm,fun x b=>by simp⟩
theorem j9 {m:BM} {P R:Nat→Prop} (h:eo m P) (he: ∀ i,P i↔R i):eo m R:=⟨h.1,fun x b=>by rw [h.2]; simp only [he]⟩
theorem qQ {m:BM} {P:Nat→Prop} (h:eo m P) {i:Nat}:((i:Int),true)∈m↔P i:=by
 rw [h.2]
 constructor
 ·rintro ⟨_,k,e,hk⟩; obtain rfl:i=k:=by omega
  exact hk
 ·exact fun hp=>⟨U,i,U,hp⟩
theorem fj {m:BM} {P:Nat→Prop} (h:eo m P) {i:Nat}:(List.lookup (i:Int) m).getD false=true↔P i:=by
 rw [← qQ h]
 constructor
 ·intro hl
  cases e:List.lookup (i:Int) m with
  |none=>rw [e] at hl; cases hl
  |some b=>
   rw [e,Option.getD_some] at hl; subst hl
   exact (gR h.1).2 e
 ·intro hm; rw [(gR h.1).1 hm]; rfl
theorem u0 {m:BM} {P:Nat→Prop} (h:eo m P) {i:Nat} (hn: ¬ P i):eo (fq m (i:Int) true) (fun k=>P k∨k=i):=by
 have e:fq m (i:Int) true=m++[((i:Int),true)]:=by
  have:m.lookup (i:Int)=none:=fB.2 fun p hp q=>by
   obtain ⟨x,b⟩:=p
   obtain ⟨_,k,e,hk⟩:=(h.2 x b).1 hp
   simp only at q
   obtain rfl:i=k:=by omega
   exact hn hk
  unfold fq; rw [this]; rfl
 rw [e]
 refine ⟨?_,fun x b=>?_⟩
 ·rw [List.map_append,List.nodup_append]
  refine ⟨h.1,sm,fun a ha c hc=>?_⟩
  simp only [List.map_cons,List.map_nil,cu] at hc
  obtain ⟨⟨y,b⟩,hy,rfl⟩:=bP.1 ha
  obtain ⟨_,k,e,hk⟩:=(h.2 y b).1 hy
  subst hc
  intro q
  simp only at q
  obtain rfl:i=k:=by omega
  exact hn hk
 ·rw [dV,h.2,cu,Prod.mk.injEq]
  constructor
  ·rintro (⟨rfl,k,rfl,hk⟩|⟨rfl,rfl⟩)
   ·exact ⟨U,k,U,.inl hk⟩
   ·exact ⟨U,i,U,.inr U⟩
  ·rintro ⟨rfl,k,rfl,hk|rfl⟩
   ·exact .inl ⟨U,k,U,hk⟩
   ·exact .inr ⟨U,U⟩
theorem v8 {m:BM} {P:Nat→Prop} (h:eo m P) {i:Nat}:eo (dJ m (i:Int)) (fun k=>P k∧k≠i):=by
 have e:(dJ m (i:Int)).map (·.1)=(m.map (·.1)).filter fun k=> !decide (k=(i:Int)):=by
  unfold dJ; rw [List.filter_map]; rfl
 refine ⟨by rw [e]; exact h.1.filter _,fun x b=>?_⟩
 unfold dJ
 rw [List.mem_filter,h.2]
 simp only [Bool.not_eq_true',decide_eq_false_iff_not]
 constructor
 ·rintro ⟨⟨rfl,k,rfl,hk⟩,A⟩; exact ⟨rfl,k,rfl,hk,fun q=>A (by rw [q])⟩
 ·rintro ⟨rfl,k,rfl,hk,A⟩; exact ⟨⟨rfl,k,rfl,hk⟩,fun q=>A I⟩
theorem va {m:BM} {P:Nat→Prop} (h:eo m P) {n:Nat} (hn: ∀ i,P i→i<n):m.length≤n:=by
 have A: ∀ x∈m.map (·.1),x∈(List.range n).map fun (i:Nat)=>(i:Int):=fun x hx=>by
  obtain ⟨⟨y,b⟩,hy,rfl⟩:=bP.1 hx
  obtain ⟨_,i,e,hi⟩:=(h.2 y b).1 hy
  exact bP.2 ⟨i,List.mem_range.2 (hn i hi),e.symm⟩
 have:=List.Nodup.length_le_of_subset h.1 A
 simpa using this
theorem p_ {m:BM} {P:Nat→Prop} (h:eo m P) {i:Nat} (hi:P i):(dJ m (i:Int)).length+1=m.length:=by
 have hm:=(qQ h).2 hi
 have hn:=h.1
 clear h
 unfold dJ
 induction m with
 |nil=>cases hm
 |cons p m ih=>
  obtain ⟨x,b⟩:=p
  rw [List.map_cons,List.nodup_cons] at hn
  by_cases e:x=(i:Int)
  ·subst e
   have:m.filter (fun p=> !decide (p.1=(i:Int)))=m:=by
    rw [List.filter_eq_self]
    intro q hq
    simp only [Bool.not_eq_true',decide_eq_false_iff_not]
    exact fun e=>hn.1 (bP.2 ⟨q,hq,e⟩)
   simp [this]
  ·rcases bE.1 hm with q|q
   ·simp only [Prod.mk.injEq] at q; exact absurd q.1.symm e
   ·have:=ih q hn.2
    simp only [List.filter_cons,e,decide_false,Bool.not_false,if_true,List.length_cons]
    omega
def eD (d:ak) (P:Nat→Prop) (s:aG) (i:Nat):Prop:=P i∧ ∃ p,d.ae[i]? =some p∧eF d s p.cp
noncomputable def iQ (d:ak) (P:Nat→Prop) (s:aG):List Int:=bZ d.ae.length (eD d P s)
def er (d:ak) (x:Int):aG:=((d.ae[x.toNat]?).map (·.cp)).getD d.a2
theorem nJ {d:ak} {i:Nat} {p:aV} (h:d.ae[i]? =some p):er d (i:Int)=p.cp:=by unfold er; rw [Int.toNat_natCast,h]; rfl
structure lE (d:ak) (S L:Nat→Prop) (todo:List aG) (l:List Int):Prop where
 left: ∀ i:Nat,L i↔(S i∧i<d.ae.length)∧(i:Int) ∉ l
 calls: ∀ x∈l,∃ i:Nat,x=(i:Int)∧ec d S i
 nodup:l.Nodup
 src: ∀ s∈todo,s=d.a2∨ ∃ (i:Nat) (p:aV),ec d S i∧d.ae[i]? =some p∧p.cp=s
 b1:d.a2∈todo∨ ∀ (i:Nat) (p:aV),L i→d.ae[i]? =some p→ ¬ eF d d.a2 p.cp
 wK: ∀ (k:Nat) (q:aV),(k:Int)∈l→d.ae[k]? =some q→q.cp∈todo∨ ∀ (i:Nat) (p:aV),L i→d.ae[i]? =some p→ ¬ eF d q.cp p.cp
theorem p6 {d:ak} {S L:Nat→Prop} (h: ∀ i,L i↔S i∧i<d.ae.length):lE d S L [d.a2] []:=
 ⟨fun i=>by rw [h]; simp,fun x hx=>by simp at hx,sm,fun s hs=> .inl (by simpa using hs),.inl sm,fun k q hk=>by simp at hk⟩
theorem sR {d:ak} {S L L':Nat→Prop} {s:aG} {rest:List aG} {l:List Int} (h:lE d S L (s::rest) l) (hl: ∀ i:Nat,L' i↔L i∧(i:Int) ∉ iQ d L s):lE d S L' (rest++(iQ d L s).map (er d)) (l++iQ d L s):=by
 have B: ∀ x∈iQ d L s,∃ i:Nat,x=(i:Int)∧ec d S i:=by
  intro x hx
  obtain ⟨i,rfl,D,hL,p,hp,hh⟩:=eU.1 hx
  refine ⟨i,U,?_⟩
  have hS:=((h.left i).1 hL).1.1
  rcases h.src s sm with e|⟨k,q,hk,hq,e⟩
  ·subst e; exact .b1 hS hp hh
  ·subst e; exact .post hk hq hS hp hh
 have C: ∀ (k:Nat) (q:aV),(k:Int)∈iQ d L s→d.ae[k]? =some q→q.cp∈(iQ d L s).map (er d):=fun k q hk hq=>bP.2 ⟨(k:Int),hk,nJ hq⟩
 have A: ∀ (i:Nat) (p:aV),L' i→d.ae[i]? =some p→ ¬ eF d s p.cp:=fun i p hi hp hh=>by
  obtain ⟨D,E⟩:=(hl i).1 hi
  exact E (lZ.2 ⟨(aJ.1 hp).1,D,p,hp,hh⟩)
 refine ⟨fun i=>?_,fun x hx=>?_,?_,fun z hz=>?_,?_,fun k q hk hq=>?_⟩
 ·rw [hl,h.left,dV]
  constructor
  ·rintro ⟨⟨D,E⟩,F⟩; exact ⟨D,fun q=>q.elim E F⟩
  ·rintro ⟨D,E⟩; exact ⟨⟨D,fun q=>E (.inl q)⟩,fun q=>E (.inr q)⟩
 ·rcases dV.1 hx with hx|hx
  ·exact h.calls x hx
  ·exact B x hx
 ·rw [List.nodup_append]
  refine ⟨h.nodup,gV.imp (fun h=>by omega),fun a ha b hb e=>?_⟩
  subst e
  obtain ⟨i,rfl,_,hL,_⟩:=eU.1 hb
  exact ((h.left i).1 hL).2 ha
 ·rcases dV.1 hz with hz|hz
  ·exact h.src z (eh _ hz)
  ·obtain ⟨x,hx,rfl⟩:=bP.1 hz
   obtain ⟨i,rfl,hc⟩:=B x hx
   have hp:d.ae[i]? =some (d.ae[i]'hc.lt):=dr _
   exact .inr ⟨i,_,hc,hp,(nJ hp).symm⟩
 ·rcases h.b1 with q|q
  ·rcases bE.1 q with e|q
   ·right; rw [e]; exact A
   ·exact .inl (List.mem_append_left _ q)
  ·exact .inr fun i p hi=>q i p ((hl i).1 hi).1
 ·rcases dV.1 hk with hk|hk
  ·rcases h.wK k q hk hq with e|e
   ·rcases bE.1 e with e|e
    ·right; rw [e]; exact A
    ·exact .inl (List.mem_append_left _ e)
   ·exact .inr fun i p hi=>e i p ((hl i).1 hi).1
  ·exact .inl (List.mem_append_right _ (C k q hk hq))
theorem sn {d:ak} {S L:Nat→Prop} {l s:List Int} (h:lE d S L [] l) (hp:s.Perm l) (hs:s.Pairwise (· ≤ ·)):s=dI d S:=by
 refine jW ?_ fun x=>?_
 ·have hn:s.Nodup:=hp.nodup_iff.2 h.nodup
  exact (hs.and hn).imp fun h=>by have:=h.1; have:=h.2; omega
 ·rw [hp.mem_iff]
  constructor
  ·intro hx
   obtain ⟨i,rfl,hc⟩:=h.calls x hx
   exact ⟨i,U,hc.lt,hc⟩
  ·rintro ⟨i,rfl,hi,hc⟩
   clear hi
   induction hc with
   | @b1 i p hS hp hh=>
    rcases Classical.em ((i:Int)∈l) with q|q
    ·exact q
    ·rcases h.b1 with e|e
     ·cases e
     ·exact absurd hh (e i p ((h.left i).2 ⟨⟨hS,(aJ.1 hp).1⟩,q⟩) hp)
   | @post k i q p hk hq hS hp hh ih=>
    rcases Classical.em ((i:Int)∈l) with e|e
    ·exact e
    ·rcases h.wK k q ih hq with u|u
     ·cases u
     ·exact absurd hh (u i p ((h.left i).2 ⟨⟨hS,(aJ.1 hp).1⟩,e⟩) hp)
theorem o_ {d:ak} {S L:Nat→Prop} {todo:List aG} {l:List Int} (h:lE d S L todo l):l.length≤d.ae.length:=by
 have A: ∀ x∈l,x∈(List.range d.ae.length).map fun (i:Nat)=>(i:Int):=fun x hx=>by
  obtain ⟨i,rfl,hc⟩:=h.calls x hx
  exact bP.2 ⟨i,List.mem_range.2 hc.lt,U⟩
 have:=(List.nodup_iff_count.1 h.nodup)
 have hl:=List.Nodup.length_le_of_subset h.nodup A
 simpa using hl
theorem oK {m:BM} {S:Nat→Prop} {i:Nat} (h:eo m (fun k=>S k∧k<i)) (hb:S i):eo (fq m (i:Int) true) (fun k=>S k∧k<i+1):=
 j9 (u0 h (fun q=>by omega)) fun k=>by
  constructor
  ·rintro (⟨a,b⟩|rfl)
   ·exact ⟨a,I⟩
   ·exact ⟨hb,I⟩
  ·rintro ⟨a,b⟩
   by_cases e:k=i
   ·exact .inr e
   ·exact .inl ⟨a,I⟩
theorem rn {m:BM} {S:Nat→Prop} {i:Nat} (h:eo m (fun k=>S k∧k<i)) (hb: ¬ S i):eo m (fun k=>S k∧k<i+1):=
 j9 h fun k=>by
  constructor
  ·rintro ⟨a,b⟩; exact ⟨a,I⟩
  ·rintro ⟨a,b⟩
   by_cases e:k=i
   ·subst e; exact absurd a hb
   ·exact ⟨a,I⟩
theorem ux {k:List Int} {j:Nat} {x y:Int} (hx:k[j]? =some x):y∈k.take (j+1)↔y∈k.take j∨y=x:=by
 rw [List.take_add_one,hx,dV]
 simp
theorem tF {m:BM} {L:Nat→Prop} {k:List Int} {j:Nat} {x:Int} {i:Nat} (h:eo m (fun q=>L q∧(q:Int) ∉ k.take j)) (hx:k[j]? =some x) (hi:x=(i:Int)):eo (dJ m x) (fun q=>L q∧(q:Int) ∉ k.take (j+1)):=by
 subst hi
 refine j9 (v8 h) fun q=>?_
 rw [ux hx]
 constructor
 ·rintro ⟨⟨a,b⟩,c⟩; exact ⟨a,fun e=>e.elim b (fun e=>c I)⟩
 ·rintro ⟨a,b⟩; exact ⟨⟨a,fun e=>b (.inl e)⟩,fun e=>b (.inr (by rw [e]))⟩
theorem pU {k:List Int} {j:Nat} {x:Int} (hn:k.Nodup) (hx:k[j]? =some x):x ∉ k.take j:=by
 intro h
 obtain ⟨q,hq⟩:=List.getElem?_of_mem h
 have E:=aJ.1 hq
 obtain ⟨C,F⟩:=E
 rw [List.length_take] at C
 rw [List.getElem?_take,if_pos I] at hq
 obtain ⟨A,B⟩:=aJ.1 hx
 obtain ⟨G,D⟩:=aJ.1 hq
 have:=(da.1 hn) q j I A I
 exact this (D.trans B.symm)
theorem py {m:BM} {L:Nat→Prop} {k:List Int} {j:Nat} {x:Int} {i:Nat} (h:eo m (fun q=>L q∧(q:Int) ∉ k.take j)) (hn:k.Nodup) (hx:k[j]? =some x) (hi:x=(i:Int)) (hL:L i):(dJ m x).length+1=m.length:=by
 subst hi
 exact p_ h ⟨hL,pU hn hx⟩
theorem pQ {d:ak} {L:Nat→Prop} {s:aG}:(iQ d L s).Nodup:=gV.imp fun h=>by omega
theorem tu {d:ak} {x:Int} {p:aV} (h:d.ae[x.toNat]? =some p):er d x=p.cp:=by unfold er; rw [h]; rfl
theorem m4 {d:ak} {k:List Int} {j:Nat} {x:Int} {p:aV} (hx:k[j]? =some x) (hp:d.ae[x.toNat]? =some p):(k.take (j+1)).map (er d)=(k.take j).map (er d)++[p.cp]:=by
 rw [List.take_add_one,hx,List.map_append]
 simp [tu hp]
theorem lx {d:ak} {a b:aG} (h1:(cM d.ag a b).Lo≤(cM d.ag a b).Hi) (h2:0≤d.a4):g0 [(cM d.ag a b).Lo,(cM d.ag a b).Hi]≤d.a4↔eF d a b:=by
 unfold eF
 show max (max (max (max 0 _) (-_)) _) (-_)≤_↔_
 omega
theorem fJ {d:ak} {a b:aG} (e:b=a) (h:a.gO.Lo=a.gO.Hi) (h2:0≤d.a4):eF d a b:=by
 subst e
 unfold eF cM j6
 rw [if_neg I,show max b.ao b.ao-min b.ao b.ao=0 by omega]
 simp only [Int.toNat_zero,b_,eW,eZ,fY]
 omega
theorem sV {d:ak} (hok:dO d) {S L:Nat→Prop} {td:List aG} {l:List Int} (h:lE d S L td l) {s:aG} (hs:s∈td):bS d.ag s:=by
 rcases h.src s hs with e|⟨i,p,_,hp,e⟩
 ·subst e; exact hok.b1
 ·subst e; exact (hok.post i p hp).2.2.1
end
section
open Go.RowKit
/-- where a row lies, and its capacity -/
abbrev RA:=OA×Nat
/-- what is asked of memory by all elements -/
def ga {M A:Type} (f:M→A→List ah):List M→List A→List ah
 |m::ms,a::asl=>f m a++ga f ms asl
 |_,_=>[]
theorem g_ {M A:Type} {f:M→A→List ah}: ∀ {ms:List M} {asl:List A} {k:Nat} {m:M} {a:A} {X:ah},ms[k]? =some m→asl[k]? =some a→X∈f m a→X∈ga f ms asl
 |[],_,k,m,a,X,h,_,_=>by simp at h
 |_::_,[],k,m,a,X,_,h,_=>by simp at h
 |x::ms,y::asl,0,m,a,X,h,h2,hX=>by
  simp at h h2; subst h h2
  exact List.mem_append_left _ hX
 |x::ms,y::asl,k+1,m,a,X,h,h2,hX=>List.mem_append_right _ (g_ (ms:=ms) (asl:=asl) (k:=k) (by simpa using h) (by simpa using h2) hX)
theorem mF {M A:Type} {f:M→A→List ah}: ∀ {ms:List M} {asl:List A} {X:ah},X∈ga f ms asl→ ∃ (k:Nat) (m:M) (a:A),ms[k]? =some m∧asl[k]? =some a∧X∈f m a
 |[],_,X,h=>by cases h
 |_::_,[],X,h=>by cases h
 |x::ms,y::asl,X,h=>by
  rcases dV.1 h with h|h
  ·exact ⟨0,x,y,U,U,h⟩
  ·obtain ⟨k,m,a,B,C,D⟩:=mF h
   exact ⟨k+1,m,a,by simpa using B,by simpa using C,D⟩
theorem ly {M A:Type} {f:M→A→List ah}: ∀ {ms:List M} {asl:List A} {ns:List M} {bs:List A},ms.length=asl.length→ga f (ms++ns) (asl++bs)=ga f ms asl++ga f ns bs
 |[],[],ns,bs,_=>rfl
 |[],_::_,ns,bs,h=>by simp at h
 |_::_,[],ns,bs,h=>by simp at h
 |x::ms,y::asl,ns,bs,h=>by
  simp only [List.cons_append,ga,List.append_assoc]
  rw [ly (by simpa using h)]
theorem qU {M A β:Type} {f:M→A→β} {ms:List M} {asl:List A} {k:Nat} {m:M} {a:A} (h:ms[k]? =some m) (h2:asl[k]? =some a):(List.zipWith f ms asl)[k]? =some (f m a):=by
 rw [List.getElem?_zipWith,h,h2]
theorem rf {C L:List ah} {A:ah} (i:Nat) (hC:C[i]? =some (m7 L).ro) (hm:A∈L):j3 C A.holds:=fun w hw=>hw _ (aI hC) A hm
theorem f_ {M A:Type} {f g:M→A→List ah} {ms:List M} {asl:List A} {C:List ah} (i:Nat) (hC:C[i]? =some (ei (ga g ms asl))) (h: ∀ m a w,(∀ X∈g m a,X.holds w)→ ∀ X∈f m a,X.holds w):j3 C (m7 (ga f ms asl)).holds:=fun w hw X hX=>by
 have hb:=hw _ (aI hC)
 obtain ⟨k,m,a,B,D,E⟩:=mF hX
 exact h m a w (fun Y hY=>hb.1 Y (g_ B D hY)) X E
section
variable {E:c_} {ops:Array Oper} {Q:bJ} {rest:List Oper} {D:List Deferred} {L:List (Nat×Value)} {C:List ah}
variable {d:Nat} {ty:TypeId} {ps:String} {af:Array Edge} {g:Option (Nat×Bool)}
end
theorem St.tie {S:BS} {w0 w:World} {C:List ah} {A:ah} {L L':List ah} (h:St S w0 (A::ei L::C) w) (e:L++[A]=L'):St S w0 (ei L'::C) w:=by
 subst e
 have B:St S w0 (ei L::A::C) w:=h.perm (List.Perm.swap _ _ _)
 have D:St S w0 (L++(A::C)) w:=B.l2
 have E:St S w0 ((L++[A])++C) w:=by simpa using D
 exact E.sB
theorem St.zY {S:BS} {w0 w:World} {C:List ah} (h:St S w0 C w):St S w0 (ei []::C) w:=St.sB (C1:=[]) h
section
variable {E:c_} {Q:bJ} {D:List Deferred} {L:List (Nat×Value)} {C:List ah}
theorem tD {c:Code} (h:WJ E c Q D L (ei []::C)):WJ E c Q D L C:=fun a w hf hs=>h a w hf hs.zY
theorem yp {K:Act→World→Prop} {C1:List ah} {A:ah} {X X':List ah} (i j:Nat) (hn:decide (j::i::(List.range C.length).filter fun k=>k != i&&k != j).Nodup=true) (hC:kl C (j::i::(List.range C.length).filter fun k=>k != i&&k != j)=A::ei X::C1) (e:X++[A]=X')
 (h:KJ E K D L (ei X'::C1)):KJ E K D L C:=fun a w hf hs=>h a w hf ((St.kl _ hn hC hs).tie e)
end
end
section
open Go.RowKit
/-- a slice of one's own whose first elements have been passed -/
def oq (a:OA) (c:Nat) (e sz:Nat) (es:List (List Value)):ah where
 cH b:= ∃ ad,a=some ad∧b=ad.block
 wf b:= ∃ ad,a=some ad∧b=ad.block
 holds w:= ∃ (a0:OA) (c0:Nat) (pre:List (List Value)),(own a0 c0 e sz (pre++es)).holds w∧c+pre.length=c0∧(0<c→a=a0.map (·.add (pre.length*sz)))∧a.map (·.block)=a0.map (·.block)
 wr:=true
 fE _ h:=h
 whole _ _ h:=h
 lt w h b hb:=by
  obtain ⟨ad,rfl,rfl⟩:=hb
  obtain ⟨a0,c0,pre,h1,_,_,h2⟩:=h
  cases a0 with
  |none=>simp at h2
  |some ad0=>
   simp only [Option.map_some,Option.some.injEq] at h2
   rw [h2]; exact (own (some ad0) c0 e sz (pre++es)).lt w h1 _ ⟨_,rfl,rfl⟩
 h_ w w' hk h:=by
  obtain ⟨a0,c0,pre,h1,h2,h3,h4⟩:=h
  refine ⟨a0,c0,pre,(own a0 c0 e sz (pre++es)).h_ w w' (fun b hb=>?_) h1,h2,h3,h4⟩
  obtain ⟨ad0,rfl,rfl⟩:=hb
  cases a with
  |none=>simp at h4
  |some ad=>
   simp only [Option.map_some,Option.some.injEq] at h4
   exact hk _ ⟨ad,rfl,h4.symm⟩
theorem tj {w:World} {a:OA} {c e sz:Nat} {es:List (List Value)} (h:(own a c e sz es).holds w):(oq a c e sz es).holds w:=
 ⟨a,c,[],h,rfl,fun _=>by cases a<;>simp [Addr.add],rfl⟩
theorem pZ {w:World} {a:OA} {c e sz:Nat} {es:List (List Value)} (h:(oq a c e sz es).holds w):es.length≤c:=by
 obtain ⟨B,C,pre,A,D,_,_⟩:=h
 have:=rE A
 rw [List.length_append] at this; omega
theorem wG {w:World} {a:OA} {c e sz:Nat} {es:List (List Value)} (h:(oq a c e sz es).holds w):(rd a es.length sz es).holds w:=by
 have C:=pZ h
 obtain ⟨G,H,pre,D,AA,E,_⟩:=h
 obtain ⟨F,A,B⟩:=qK D
 refine ⟨U,fun x hx=>A x (List.mem_append_right _ hx),fun hp=>?_⟩
 have hs:0<sz:=Nat.pos_of_mul_pos_left hp
 have hn:0<es.length:=Nat.pos_of_mul_pos_right hp
 obtain ⟨ad,hA,hc⟩:=B (Nat.mul_pos (by rw [List.length_append]; omega) hs)
 refine ⟨ad.add (pre.length*sz),by rw [E I,hA]; rfl,fun i x j v hx hv=>?_⟩
 have:=hc (pre.length+i) x j v (by rw [List.getElem?_append_right I,Nat.add_sub_cancel_left]; exact hx) hv
 rw [iJ,show pre.length*sz+(i*sz+j)=(pre.length+i)*sz+j by rw [Nat.add_mul,Nat.add_assoc]]
 exact this
theorem oH {C:List ah} {a:OA} {c e sz n:Nat} {es:List (List Value)} (i:Nat) (hC:C[i]? =some (oq a c e sz es)) (hn:es.length=n):j3 C (rd a n sz es).holds:=fun w hw=>by subst hn; exact wG (hw _ (aI hC))
/-- the first one is passed -/
theorem u_ {w:World} {a:OA} {c e sz:Nat} {x:List Value} {es:List (List Value)} (h:(oq a c e sz (x::es)).holds w):(oq (jC a c 1 sz) (c-1) e sz es).holds w:=by
 have A:=pZ h
 obtain ⟨C,D,pre,E,G,F,B⟩:=h
 simp only [List.length_cons] at A
 refine ⟨C,D,pre++[x],by rw [List.append_assoc]; exact E,by rw [List.length_append]; simp; omega,fun hc=>?_,?_⟩
 ·unfold jC
  rw [if_neg I,F I,Option.map_map,List.length_append]
  congr 1
  funext ad
  simp [Function.comp,iJ,Nat.add_mul]
 ·unfold jC
  split
  ·exact B
  ·rw [← B,Option.map_map]
   cases a<;>simp [Function.comp,Addr.add]
   split<;>rfl
theorem yB {a:OA} {c e sz:Nat} {es:List (List Value)}:(∀ w,(own a c e sz es).holds w→(oq a c e sz es).holds w)∧(∀ b,(oq a c e sz es).cH b→(own a c e sz es).cH b)∧ ∀ b,(oq a c e sz es).wf b→(own a c e sz es).wf b:=
 ⟨fun w h=>tj h,fun b h=>h,fun b h=>h⟩
theorem vE {a:OA} {c e sz:Nat} {x:List Value} {es:List (List Value)}:(∀ w,(oq a c e sz (x::es)).holds w→(oq (jC a c 1 sz) (c-1) e sz es).holds w)∧(∀ b,(oq (jC a c 1 sz) (c-1) e sz es).cH b→(oq a c e sz (x::es)).cH b)∧ ∀ b,(oq (jC a c 1 sz) (c-1) e sz es).wf b→(oq a c e sz (x::es)).wf b:=by
 have key: ∀ b,(∃ ad,jC a c 1 sz=some ad∧b=ad.block)→ ∃ ad,a=some ad∧b=ad.block:=by
  rintro b ⟨ad,h,rfl⟩
  unfold jC at h
  split at h
  ·exact ⟨ad,h,U⟩
  ·cases a with
   |none=>cases h
   |some a1=>
    simp only [Option.map_some,Option.some.injEq] at h
    refine ⟨a1,U,?_⟩
    rw [← h]; unfold Addr.add; split<;>rfl
 exact ⟨fun w h=>u_ h,key,key⟩
theorem yW {E:c_} {code:Code} {Q:bJ} {D:dH} {L:bT} {C C':List ah} {A B:ah} (i:Nat) (hC:C[i]? =some A) (hh:(∀ w,A.holds w→B.holds w)∧(∀ b,B.cH b→A.cH b)∧ ∀ b,B.wf b→A.wf b) (hC':C.set i B=C') (h:WJ E code Q D L C'):WJ E code Q D L C:=fun a w hf hs=>
 h a w hf (hC'▸hs.imp i hC hh.1 hh.2.1 hh.2.2)
section
variable {P:Program}
/-- append in place, behind an element that is not the first of the block -/
theorem mJ (w:World) (t ty e:TypeId) (i:TypeInfo) (ht:P.underlying t=some (.slice e)) (hi:P.info? e=some i) (g o sLen sCap:Nat) (cur:Array Value) (hg:w.heap[g]? =some (.cells cur e (0,0)))
 (a:Addr) (m c:Nat) (news:List Value) (hl:news.length=m*i.size) (hnews: ∀ j u,news[j]? =some u→w.cell? (a.add j)=some u) (h1: ∀ u∈news,u.oneCell'=true) (hroom:sLen+m≤sCap) (hfit:o+sLen*i.size+news.length≤cur.size):
 (Builtin.append_ #[t,t] ty #[.slice (some ⟨g,o,none⟩) sLen sCap,.slice (some a) m c]).run P w=
  .ok (.slice (some ⟨g,o,none⟩) (sLen+m) sCap) (w.setRow g (cur.toList.take (o+sLen*i.size)++news++cur.toList.drop (o+sLen*i.size+news.length)).toArray):=by
 have hf:=run_firstCells_some (P:=P) w i.size m a m c news hl hnews
 have A:=run_storeCells_at P g (o+sLen*i.size) e news 0 cur w hg (by simpa using hfit) h1
 simp only [Nat.add_zero] at A
 simp [Builtin.append_,run_underlying ht,sizeOf,typeInfo,hi,Builtin.lenOf,hroom,hf,Addr.add_lit,A]
end
section
variable {E:c_} {ops:Array Oper} {Q:bJ} {rest:List Oper} {D:List Deferred} {L:List (Nat×Value)} {C:List ah}
variable {d:Nat} {ty:TypeId} {ps:String} {af:Array Edge} {g:Option (Nat×Bool)}
theorem sf {s x:Operand} {t e sz by_ n m m' c c':Nat} {z:Value} {a A:OA} {es es' es2:List (List Value)} (i:Nat) (hg:e6 ops L g=true) (hs:ev L s=some (.slice a n c)) (hx:ev L x=some (.slice A m c')) (ht:tA E.P t=some (e,sz,by_,z)) (hsz:Nat.blt 0 sz=true)
 (hC:C[i]? =some (oq a c e sz es)) (hn:n=es.length) (hR:j3 C (rd A m sz es').holds) (h1: ∀ v∈es'.flatten,v.oneCell'=true) (hm0:0<m) (hb:(n+m)*by_≤140737488355328) (hb2:n+m≤maxLen) (hes:es++es'=es2) (hm':es2.length=m') (hd:Nat.blt d E.n=true)
 (k: ∀ (a':OA) (c2:Nat),RJ E ops Q rest D ((d,.slice a' m' c2)::L) (C.set i (oq a' c2 e sz es2))):
 RJ E ops Q (⟨some d,.call {callee:= .builtin .append,args:= #[s,x],argTypes:= #[t,t]},ty,ps,af,g⟩::rest) D L C:=by
 intro act w AB f
 have hd':d<E.n:=by rw [← Nat.blt_eq]; exact hd
 have hsz':0<sz:=by rw [← Nat.blt_eq]; exact hsz
 obtain ⟨inf,hu,hi,hz,T,h4,h5⟩:=qn ht
 unfold kK
 rw [if_pos (cx AB hg)]
 subst hn hes hm'
 have W:(oq a c e sz es).holds w:=f.holds _ (aI hC)
 have BT:=pZ W
 have R:=wG W
 obtain ⟨G,Y,BE⟩:=f.has hR
 obtain ⟨a0,c0,pre,X,A4,A3,p⟩:=id W
 obtain ⟨J,S⟩:=id X
 have M: ∀ x∈es,x.length=sz:=fun x hx=>J x (List.mem_append_right _ hx)
 have K: ∀ x∈es++es',x.length=sz:=fun x hx=>by
  rcases dV.1 hx with h|h
  ·exact M x h
  ·exact Y x h
 obtain ⟨ad,hA,hc⟩:=BE (Nat.mul_pos hm0 hsz')
 subst hA
 have B:es'.flatten.length=m*inf.size:=by rw [bW Y,G,T]
 have H:es.flatten.length=es.length*inf.size:=by rw [bW M,T]
 have F: ∀ j u,es'.flatten[j]? =some u→w.cell? (ad.add j)=some u:=fun j v hj=>by
  have:=n_ (w:=w) (ad:=ad) es' 0 Y (fun i e j v hi hj=>by simpa using hc i e j v hi hj) j v hj
  simpa using this
 have main: ∃ a' c2 w',(Builtin.append_ #[t,t] ty #[.slice a es.length c,.slice (some ad) m c']).run E.P w= .ok (.slice a' (es.length+m) c2) w'∧(oq a' c2 e sz (es++es')).holds w'∧w.grownBy w' (a.map (·.block))∧(∀ y,(∃ q,a'=some q∧y=q.block)→a.map (·.block)=some y∨w.heap.size≤y):=by
  by_cases Z:es.length+m≤c
  ·-- in place
   have A5:0<c:=by omega
   rcases S.2 with ⟨h6,h7⟩|⟨gg,cap,cur,hv,BR,AQ,BU,AA,A7,l⟩
   ·injection h6 with _ _ h8
    omega
   ·injection hv with BF BV BG
    subst BF BG
    have ha:a=some ⟨gg,pre.length*sz,none⟩:=by
     rw [A3 A5]; simp [Addr.add_lit]
    subst ha
    have AC:pre.length*sz+es.length*inf.size+es'.flatten.length≤cur.size:=by
     rw [B,T,A7,← Nat.add_mul,← Nat.add_mul]
     exact Nat.mul_le_mul_right _ I
    have hr:=mJ (P:=E.P) w t ty e inf hu hi gg (pre.length*sz) es.length c cur AQ ad m c' es'.flatten B F h1 Z AC
    have BD:(pre++es).flatten.length=pre.length*sz+es.length*inf.size:=by rw [bW J,List.length_append,Nat.add_mul,T]
    refine ⟨_,_,_,hr,⟨some ⟨gg,0,none⟩,c0,pre,⟨fun x hx=>?_,?_,.inr ⟨gg,c0,_,U,Nat.zero_le _,setRow_heap w gg cur _ e _ AQ,?_,AA,?_,?_⟩⟩,A4,fun _=>by simp [Addr.add_lit],U⟩,⟨U,U,U,sm,fun k _ hk=>setRow_other w gg k _ (fun e=>hk (by simp [e]))⟩,?_⟩
    ·rcases dV.1 hx with h|h
     ·exact J x (List.mem_append_left _ h)
     ·exact K x h
    ·rw [bW (sz:=sz) (fun x hx=>by
      rcases dV.1 hx with h|h
      ·exact J x (List.mem_append_left _ h)
      ·exact K x h)]
    ·rw [List.length_append,List.length_append,G]; omega
    ·simp only [List.size_toArray,List.length_append,List.length_take,List.length_drop,Array.length_toList]
     omega
    ·have e1:(pre++(es++es')).length*sz=(pre++es).flatten.length+es'.flatten.length:=by
      rw [BD,B,T,List.length_append,List.length_append,G,Nat.add_mul,Nat.add_mul,Nat.add_assoc]
     have e2:cur.toList.take (pre.length*sz+es.length*inf.size)=(pre++es).flatten:=by
      rw [← l,List.length_append,Nat.add_mul,T]
     rw [e1,← List.length_append]
     show (cur.toList.take (pre.length*sz+es.length*inf.size)++es'.flatten++_).take _=_
     rw [e2,List.take_left,← List.append_assoc,List.flatten_append (L₁:=pre++es)]
    ·rintro y ⟨q,hq,rfl⟩
     left
     cases hq; rfl
  ·-- a new row
   have V: ∀ (xs:List Value),xs=es.flatten→(w.drew.alloc (.cells (xs.toArray++es'.flatten.toArray++Builtin.zeroCells z.cells (grownCap w (es.length+m) c e-(es.length+m))) e)).ownsRow 0 e sz (.slice (some ⟨w.heap.size,0,none⟩) (es.length+m) (grownCap w (es.length+m) c e)) (es.length+m) (es++es').flatten:=by
    intro xs o
    subst o
    have BB:=grownCap_ge w (es.length+m) c e
    have AA:grownCap w (es.length+m) c e≤maxLen:=grownCap_le_maxLen w (es.length+m) c e hb2
    have O:(es++es').flatten.length=(es.length+m)*sz:=by rw [bW K,List.length_append,G]
    refine ⟨O,.inr ⟨w.heap.size,_,_,U,Nat.zero_le _,heap_alloc_new w.drew _,BB,AA,?_,?_⟩⟩
    ·simp only [Array.size_append,List.size_toArray,size_zeroCells,h5,H,B,T,← Nat.add_mul]
     congr 1
     omega
    ·simp only [Array.toList_append,List.append_assoc]
     rw [← O,List.flatten_append,← List.append_assoc]
     exact List.take_left
   have done: ∀ (xs:List Value),xs=es.flatten→(Builtin.append_ #[t,t] ty #[.slice a es.length c,.slice (some ad) m c']).run E.P w= .ok (.slice (some ⟨w.heap.size,0,none⟩) (es.length+m) (grownCap w (es.length+m) c e)) (w.drew.alloc (.cells (xs.toArray++es'.flatten.toArray++Builtin.zeroCells z.cells (grownCap w (es.length+m) c e-(es.length+m))) e))→
    ∃ a' c2 w',(Builtin.append_ #[t,t] ty #[.slice a es.length c,.slice (some ad) m c']).run E.P w= .ok (.slice a' (es.length+m) c2) w'∧(oq a' c2 e sz (es++es')).holds w'∧w.grownBy w' (a.map (·.block))∧(∀ y,(∃ q,a'=some q∧y=q.block)→a.map (·.block)=some y∨w.heap.size≤y):=by
    intro xs o A1
    refine ⟨_,_,_,A1,tj ⟨K,?_⟩,⟨U,U,U,sm,fun k hk _=>heap_alloc_old w.drew _ hk⟩,?_⟩
    ·rw [show (es++es').length=es.length+m by rw [List.length_append,G]]
     exact V xs o
    ·rintro y ⟨q,hq,rfl⟩
     cases hq; exact .inr (Nat.le_refl _)
   have N:(es.length+m)*inf.bytes≤140737488355328:=by rw [h4]; exact hb
   have hb2':es.length+m≤9223372036854775807:=by simp only [maxLen] at hb2; omega
   cases a with
   |none=>
    have A8:es=[]:=by
     cases es with
     |nil=>rfl
     |cons x es=>
      obtain ⟨q,hq,_⟩:=R.2.2 (Nat.mul_pos sm hsz')
      cases hq
    subst A8
    have r:c=0:=by
     cases a0 with
     |none=>
      rcases S.2 with ⟨h6,h7⟩|⟨gg,cap,cur,hv,_⟩
      ·injection h6 with _ _ h8; omega
      ·cases hv
     |some q=>simp at p
    subst r
    have hr:=Go.run_append_nil (P:=E.P) w t ty e inf z hu hi hz ad m c' es'.flatten B F hm0 (by simp only [List.length_nil,Nat.zero_add] at hb2'; omega) (by simp only [List.length_nil,Nat.zero_add] at N; omega)
    refine done [] U ?_
    simpa using hr
   |some a1=>
    have holds: ∀ j u,es.flatten[j]? =some u→w.cell? (a1.add j)=some u:=fun j u hj=>by
     have A0:0<es.length*sz:=by
      have:=(aJ.1 hj).1
      rw [bW M] at this; omega
     obtain ⟨q,hq,A6⟩:=R.2.2 A0
     cases hq
     have:=n_ (w:=w) (ad:=a1) es 0 M (fun i e j v hi hj=>by simpa using A6 i e j v hi hj) j u hj
     simpa using this
    have hr:=run_append_grow (P:=E.P) w t ty e inf z hu hi hz a1 es.length c es.flatten H holds ad m c' es'.flatten B F I I (growslice_fits I N)
    exact done _ U hr
 obtain ⟨a',c2,w',q1,q2,q3,q5⟩:=main
 have BC:(es++es').length=es.length+m:=by rw [List.length_append,G]
 refine eb sm (w':=w') (v:= .slice a' (es++es').length c2) ?_ ?_
 ·rw [BC]; simp [execOp,resolve,invoke,builtin,AB.ev hs,AB.ev hx,q1]
 ·refine k a' c2 _ _ (AB.put hd' _) ?_
  exact f.move i hC (row:=a.map (·.block)) (fun b hb=>by
   cases a with
   |none=>cases hb
   |some q=>exact ⟨q,rfl,by simpa using hb.symm⟩) rfl q3 (fun y hy=>q5 y hy) q2
end
end
section
open Go.RowKit
theorem so {P:Program} {f:FuncId} {args:List Value} {Bs:List ah} {A:ah} {α:Type} {V:α→Value} {p:α→Prop} {A':α→ah} (h:uS P f args [m7 Bs] A V p A'):uS P f args Bs A V p A':=
 ⟨h.go,fun w hA hB hs=>h.run w hA (fun B hb=>by rw [cu.1 hb]; exact hB) fun B hb b E D=>by
  rw [cu.1 hb] at D ⊢
  obtain ⟨X,hX,C⟩:=D
  exact ⟨(hs X hX b E C).1,fun q=>q⟩⟩
section
variable {P:Program} {t:TypeId} {x y:Operand}
theorem qb {s i:Nat} {j:Int} {yk:IntKind} (hj:j=(i:Int)) (hi:i≤64):dW P .shr t x y (.int .i64 (s:Int)) (.int yk j) (.int .i64 ((s/2^i:Nat):Int)):=fun w=>by
 subst hj
 have B: ¬ ((i:Int)<0):=by omega
 have C:min i 64=i:=by omega
 have e:Int.fdiv (s:Int) (2^i)=((s/2^i:Nat):Int):=by
  rw [Int.fdiv_eq_ediv_of_nonneg _ (Int.pow_nonneg I)]
  rw [Int.natCast_ediv]; simp
 have A:Op.shift .shr .i64 (s:Int) yk (i:Int)=(pure (.int .i64 ((s/2^i:Nat):Int)):Sem Value):=by
  unfold Op.shift
  rw [if_neg B]
  show (pure (.int .i64 (Int.fdiv (s:Int) (2^(min (i:Int).toNat 64)))):Sem Value)=_
  rw [Int.toNat_natCast,C,e]
 simp only [eqGuard_shr,binOp_shr,A]
 rfl
theorem oc {i:Nat} {j:Int} {yk:IntKind} (hj:j=(i:Int)) (hi:i≤62):dW P .shl t x y (.int .i64 1) (.int yk j) (.int .i64 ((2^i:Nat):Int)):=fun w=>by
 subst hj
 have B: ¬ ((i:Int)<0):=by omega
 have C:min i 64=i:=by omega
 have hp:(2^i:Nat)≤4611686018427387904:=Nat.pow_le_pow_right (n:=2) I hi
 have hw:IntKind.i64.wrap ((2:Int)^i)=((2^i:Nat):Int):=by
  have:((2^i:Nat):Int)=(2:Int)^i:=by simp
  rw [← this]
  generalize (2^i:Nat)=q at hp
  exact gh ⟨I,I⟩
 have A:Op.shift .shl .i64 1 yk (i:Int)=(pure (.int .i64 ((2^i:Nat):Int)):Sem Value):=by
  unfold Op.shift
  rw [if_neg B]
  show (pure (.int .i64 (IntKind.i64.wrap (1*2^(min (i:Int).toNat 64)))):Sem Value)=_
  rw [Int.toNat_natCast,C,Int.one_mul,hw]
 simp only [eqGuard_shl,binOp_shl,A]
 rfl
theorem uX {m:Nat} (hm:m<2^63):((BitVec.ofInt 64 (m:Int)) &&& (BitVec.ofInt 64 1)).toNat=m % 2:=by
 have A:BitVec.ofInt 64 (m:Int)=BitVec.ofNat 64 m:=by simp
 have B:BitVec.ofInt 64 1=BitVec.ofNat 64 1:=by rfl
 rw [A,B,BitVec.toNat_and,BitVec.toNat_ofNat,BitVec.toNat_ofNat,Nat.mod_eq_of_lt I,show 1 % 2^64=1 by rfl,Nat.and_one_is_mod]
theorem qy {m:Nat} {a:Int} (ha:a=(m:Int)) (hm:m<2^63):dW P .and t x y (.int .i64 a) (.int .i64 1) (.int .i64 ((m % 2:Nat):Int)):=fun w=>by
 subst ha
 have h:=uX hm
 have hw:IntKind.i64.wrap (((m % 2:Nat)):Int)=((m % 2:Nat):Int):=gh ⟨I,I⟩
 have e:Op.intBits .and .i64 (m:Int) 1=(pure (.int .i64 ((m % 2:Nat):Int)):Sem Value):=by
  show (pure (.int .i64 (IntKind.i64.wrap (((BitVec.ofInt 64 (m:Int)) &&& (BitVec.ofInt 64 1)).toNat:Int))):Sem Value)=_
  rw [h,hw]
 simp [eqGuard_and,binOp_and,e]
/-- a bit less -/
def hU (s i:Nat):Nat:=if s.testBit i then s-2^i else s
theorem xn: ∀ s:Fin 256,∀ i:Fin 8,((BitVec.ofInt 64 (s.val:Int)) &&& ~~~ (BitVec.ofInt 64 ((2^i.val:Nat):Int))).toNat=hU s.val i.val:=by decide+kernel
theorem oG {s i:Nat} {a b:Int} (ha:a=(s:Int)) (hb:b=((2^i:Nat):Int)) (hs:s<256) (hi:i<8):dW P .andNot t x y (.int .i64 a) (.int .i64 b) (.int .i64 (hU s i:Int)):=fun w=>by
 subst ha hb
 have h:=xn ⟨s,hs⟩ ⟨i,hi⟩
 simp only at h
 have hc:hU s i≤s:=by
  unfold hU
  split
  ·exact Nat.sub_le _ _
  ·exact Nat.le_refl _
 have hw:IntKind.i64.wrap (hU s i:Int)=(hU s i:Int):=gh ⟨I,I⟩
 have e:Op.intBits .andNot .i64 (s:Int) ((2^i:Nat):Int)=(pure (.int .i64 (hU s i:Int)):Sem Value):=by
  show (pure (.int .i64 (IntKind.i64.wrap (((BitVec.ofInt 64 (s:Int)) &&& ~~~ (BitVec.ofInt 64 ((2^i:Nat):Int))).toNat:Int))):Sem Value)=_
  rw [h,hw]
 simp only [eqGuard_andNot,binOp_andNot,e]
 rfl
theorem rj: ∀ s:Fin 256,∀ i k:Fin 8,(hU s.val i.val).testBit k.val=(s.val.testBit k.val&&decide (k.val≠i.val)):=by decide+kernel
theorem uD {e:TypeId} {a:OA} {n c:Nat} (ht:P.underlying t=some (.slice e)):dW P .eql t x y (.slice a n c) (.slice none 0 0) (.bool (decide (a=none))):=fun w=>by
 have A:(Op.equal t (.slice a n c) (.slice none 0 0)).run P w= .ok (decide (a=none)) w:=by
  unfold Op.equal
  show (Op.equalIn (9999+1) t (.slice a n c) (.slice none 0 0)).run P w=_
  unfold Op.equalIn
  cases a<;>simp [run_underlying ht]
 have B:eqGuard .eql t x y (.slice a n c) (.slice none 0 0)=pure ():=rfl
 rw [B]
 show (Sem.run P (do let b ← Op.equal t (.slice a n c) (.slice none 0 0); pure (vB b)) w)=_
 simp [A]
end
section
variable {E:c_} {ops:Array Oper} {Q:bJ} {rest:List Oper} {D:List Deferred} {L:List (Nat×Value)} {C:List ah}
variable {dst:Option Tmp} {d:Nat} {ty:TypeId} {ps:String} {af:Array Edge} {g:Option (Nat×Bool)}
theorem vf {x y z:Operand} {ts:Array TypeId} {a b c:Int} {k:IntKind} (hg:e6 ops L g=true) (hx:ev L x=some (.int k a)) (hy:ev L y=some (.int k b)) (hz:ev L z=some (.int k c)):
 SD E ops ⟨dst,.call {callee:= .builtin .max,args:= #[x,y,z],argTypes:=ts},ty,ps,af,g⟩ D L C (.int k (max (max a b) c)):=
 cn hg sm fun q w hf _=>by
  have A:(if a<b then b else a)=max a b:=by omega
  have B:(if max a b<c then c else max a b)=max (max a b) c:=by omega
  simp [execOp,resolve,invoke,builtin,Builtin.max_,Builtin.max2,hf.ev hx,hf.ev hy,hf.ev hz,A,B]
/-- a row that lies nowhere is empty -/
theorem oV {a:OA} {n sz:Nat} {es:List (List Value)} (hR:j3 C (rd a n sz es).holds) (ha:a=none) (hz:0<sz) (k:es=[]→RJ E ops Q rest D L C):RJ E ops Q rest D L C:=fun act w hf hs=>by
 refine k ?_ act w hf hs
 obtain ⟨F,G,B⟩:=hs.has hR
 rcases Nat.eq_zero_or_pos (n*sz) with h|h
 ·have:n=0:=by
   rcases Nat.mul_eq_zero.1 h with h|h
   ·exact h
   ·omega
  exact e9 I
 ·obtain ⟨ad,A,_⟩:=B h
  rw [ha] at A; cases A
theorem xB {a:OA} {c e sz:Nat} {es:List (List Value)} (i:Nat) (hC:C[i]? =some (own a c e sz es)) (k:es.length≤c→RJ E ops Q rest D L C):RJ E ops Q rest D L C:=fun act w hf hs=>
 k (rE (hs.holds _ (aI hC))) act w hf hs
theorem n7 {A:ah} (i:Nat) (h:C[i]? =some A.ro):j3 C A.holds:=fun w hw=>by
 have B:=hw A.ro (aI h)
 exact B
/-- the end of a row is set to zero: it is no more of it -/
theorem vb {x:Operand} {t e sz by_ k n c c':Nat} {z:Value} {a:OA} {es:List (List Value)} (i:Nat) (hg:e6 ops L g=true) (hx:ev L x=some (.slice (jC a c k sz) (n-k) c')) (ht:tA E.P t=some (e,sz,by_,z)) (hz1: ∀ v∈z.cells.toList,v.oneCell'=true)
 (hC:C[i]? =some (own a c e sz es)) (hn:n=es.length) (hk:k≤n) (K:RJ E ops Q rest D L (C.set i (own a c e sz (es.take k)))):
 RJ E ops Q (⟨none,.call {callee:= .builtin .clear,args:= #[x],argTypes:= #[t]},ty,ps,af,g⟩::rest) D L C:=by
 intro act w A F
 obtain ⟨inf,hu,hi,f,h3,h4,s⟩:=qn ht
 unfold kK
 rw [if_pos (cx A hg)]
 subst hn
 obtain ⟨W,N⟩:(own a c e sz es).holds w:=F.holds _ (aI hC)
 have B: ∀ y∈es.take k,y.length=sz:=fun y hy=>W y (List.mem_of_mem_take hy)
 have V:(es.take k).flatten=es.flatten.take (k*sz):=by
  have h:=List.take_append_drop k es
  have l:es.flatten=(es.take k).flatten++(es.drop k).flatten:=by rw [← List.flatten_append,h]
  have m:(es.take k).flatten.length=k*sz:=by rw [bW B,List.length_take]; congr 1; omega
  rw [l,← m,List.take_left]
 by_cases r:es.length-k=0
 ·have AA:es.take k=es:=List.take_of_length_le I
  refine eb sm (w':=w) (v:= .tuple #[]) ?_ ?_
  ·rw [r] at hx
   cases hs:jC a c k sz with
   |none=>rw [hs] at hx; simp [execOp,resolve,invoke,builtin,Builtin.clear_,A.ev hx,run_underlying hu]
   |some q=>rw [hs] at hx; simp [execOp,resolve,invoke,builtin,Builtin.clear_,A.ev hx,run_underlying hu]
  ·rw [AA] at K
   exact K _ _ A (by
    have:C.set i (own a c e sz es)=C:=by
     apply List.ext_getElem?
     intro q
     rw [List.getElem?_set]
     by_cases j:i=q
     ·subst j; rw [if_pos rfl,if_pos (aJ.1 hC).1,hC]
     ·rw [if_neg j]
    rw [this]; exact F)
 ·rcases N.2 with ⟨l,m⟩|⟨gg,cap,cur,hv,AC,M,Y,T,J,G⟩
  ·omega
  ·injection hv with Z AQ d
   subst Z d
   have R:jC (some (⟨gg,0,none⟩:Addr)) c k sz=some ⟨gg,k*sz,none⟩:=by
    unfold jC; rw [if_neg I]; simp [Addr.add_lit]
   rw [R] at hx
   have H:(Builtin.zeroCells z.cells (es.length-k)).toList.length=(es.length-k)*sz:=by
    rw [Array.length_toList,size_zeroCells,s]
   have p:k*sz+(es.length-k)*sz=es.length*sz:=by rw [← Nat.add_mul]; congr 1; omega
   have o:es.length*sz≤cur.size:=by rw [J]; exact Nat.mul_le_mul_right _ Y
   have h1': ∀ v∈(Builtin.zeroCells z.cells (es.length-k)).toList,v.oneCell'=true:=fun v hv=>by
    refine hz1 v ?_
    simp [Builtin.zeroCells] at hv
    obtain ⟨q,hq,hv⟩:=hv
    have O:0<z.cells.size:=by
     rcases Nat.eq_zero_or_pos z.cells.size with AB|AB
     ·rw [AB] at hq; simp at hq
     ·exact AB
    have X:q % z.cells.size<z.cells.size:=Nat.mod_lt _ O
    rw [getElem!_pos z.cells _ X] at hv
    rw [← hv]; simp
   have hst':=run_storeCells_at E.P gg (k*sz) e (Builtin.zeroCells z.cells (es.length-k)).toList 0 cur w M (by rw [H]; omega) h1'
   simp only [Nat.add_zero] at hst'
   obtain ⟨q,hq⟩: ∃ q,es.length-k=q+1:=⟨es.length-k-1,I⟩
   refine eb sm (w':=w.setRow gg (cur.toList.take (k*sz)++(Builtin.zeroCells z.cells (es.length-k)).toList++cur.toList.drop (k*sz+(Builtin.zeroCells z.cells (es.length-k)).toList.length)).toArray) (v:= .tuple #[]) ?_ ?_
   ·rw [hq] at hx hst' ⊢
    simp [execOp,resolve,invoke,builtin,Builtin.clear_,A.ev hx,run_underlying hu,zeroValue,typeInfo,hi,f,hst']
   ·refine K _ _ A ?_
    refine F.move i hC (row:=some gg) (fun b hb=>by cases hb; exact ⟨_,rfl,rfl⟩) rfl ⟨rfl,rfl,rfl,sm,fun k' _ hk'=>setRow_other w gg k' _ (fun e=>hk' (by simp [e]))⟩ (fun y hy=>by
     obtain ⟨ad,AB,rfl⟩:=hy
     cases AB; exact .inl rfl) ?_
    refine ⟨B,?_,.inr ⟨gg,c,_,U,Nat.zero_le _,setRow_heap w gg cur _ e _ M,?_,T,?_,?_⟩⟩
    ·exact bW B
    ·rw [List.length_take]; omega
    ·simp only [List.size_toArray,List.length_append,List.length_take,List.length_drop,Array.length_toList,H]
     have:=J
     simp only [Array.length_toList] at H
     omega
    ·have u:(es.take k).length*sz=k*sz:=by rw [List.length_take]; congr 1; omega
     have S:(cur.toList.take (k*sz)).length=k*sz:=by rw [List.length_take,Array.length_toList]; omega
     rw [u,V,← G,List.take_take,Nat.min_eq_left I]
     show List.take (k*sz) (_++_++_)=_
     rw [List.append_assoc,List.take_left' S]
end
end
section
open Go.RowKit
def sC (s:bB):List Value:=[vS s.a s.n s.c]
theorem sO: ∀ s,(sC s).length=1:=fun s=>rfl
theorem w6 (l:List bB): ∀ v∈(l.map sC).flatten,v.oneCell'=true:=hO (fun s=>rfl) l
def m0 (l:List Int) (a:RA):bB:=⟨a.1,l.length,a.2⟩
def jF (l:List Int) (a:RA):List Value:=[vS a.1 l.length a.2]
def ku (l:List Int) (a:RA):List ah:=[rd a.1 l.length 1 (l.map iC)]
def mQ (l:List Int) (a:RA):List ah:=[own a.1 a.2 3 1 (l.map iC)]
theorem qf {ls:List (List Int)} {az:List RA}:(List.zipWith m0 ls az).map sC=List.zipWith jF ls az:=by
 rw [List.map_zipWith]; rfl
theorem iU: ∀ (m:List Int) (a:RA) (w:World),(∀ X∈mQ m a,X.holds w)→ ∀ X∈ku m a,X.holds w:=fun m a w h X hX=>by
 simp only [ku,cu] at hX
 subst hX
 have:=qK (h _ (cu.2 rfl))
 simpa using this
theorem kH {l:List (List Int)} {bz:List RA}:(ei (ga mQ l bz)).wr=true:=by
 show (ga mQ l bz).all (·.wr)=true
 rw [bY]
 intro X hX
 obtain ⟨k,m,a,_,_,h⟩:=mF hX
 simp only [mQ,cu] at h
 subst h; rfl
theorem fQ {ls:List (List Int)} {az:List RA} (h:az.length=ls.length):(List.zipWith jF ls az).length=ls.length:=by simp [h]
/-- the times of posts -/
def dA (d:ak) (p:aV) (n:Nat):List Int:=(List.range n).map fun (k:Nat)=>eV d.ag p (k:Int)
def en (d:ak) (i:Nat):List (List Int):=(d.ae.take i).map fun p=>dA d p d.ag.length
def bj (d:ak):List (List Int):=en d d.ae.length
theorem lI {d:ak} {p:aV} {n:Nat}:dA d p (n+1)=dA d p n++[eV d.ag p (n:Int)]:=by simp [dA,List.range_succ]
theorem fI {d:ak} {p:aV} {n:Nat}:(dA d p n).length=n:=by simp [dA]
theorem lp {d:ak} {i:Nat} {p:aV} (h:d.ae[i]? =some p):en d (i+1)=en d i++[dA d p d.ag.length]:=by unfold en; rw [List.take_add_one,h,List.map_append]; rfl
theorem gC {d:ak} {i:Nat} (h:i≤d.ae.length):(en d i).length=i:=by unfold en; rw [List.length_map,List.length_take]; omega
theorem dD {d:ak}:(bj d).length=d.ae.length:=gC (Nat.le_refl _)
theorem nG {d:ak} {i:Nat} {p:aV} {m:List Int} (hp:d.ae[i]? =some p) (hm:(bj d)[i]? =some m):m=dA d p d.ag.length:=by
 unfold bj en at hm
 rw [List.take_length,eT,hp] at hm
 exact (Option.some.inj hm).symm
theorem gp {d:ak} {p:aV} {n k:Nat} {t:Int} (h:(dA d p n)[k]? =some t):t=eV d.ag p (k:Int):=by
 unfold dA at h
 rw [eT] at h
 have hd:k<n:=by
  rcases Nat.lt_or_ge k n with q|q
  ·exact q
  ·rw [List.getElem?_eq_none (by simpa using q)] at h; cases h
 rw [List.getElem?_range hd] at h
 exact (Option.some.inj h).symm
theorem rV {d:ak} {i:Nat} {p:aV} {tz:List RA} {a:RA} (hp:d.ae[i]? =some p) (hl:tz.length=i):List.zipWith m0 (en d (i+1)) (tz++[a])=List.zipWith m0 (en d i) tz++[m0 (dA d p d.ag.length) a]:=by
 have hi:=(aJ.1 hp).1
 rw [lp hp,List.zipWith_append (by rw [gC I,hl])]
 rfl
theorem rQ {d:ak} {i:Nat} {p:aV} {tz:List RA} {a:RA} (hp:d.ae[i]? =some p) (hl:tz.length=i):ga mQ (en d i) tz++[own a.1 a.2 3 1 ((dA d p d.ag.length).map iC)]=ga mQ (en d (i+1)) (tz++[a]):=by
 have hi:=(aJ.1 hp).1
 rw [lp hp,ly (by rw [gC I,hl])]
 simp [ga,mQ]
structure cJ (d:ak):Prop where
 k3:d.ag.length≤1000000
 side: ∀ x∈d.ag,0≤x.cT∧x.cT≤255
 kb:d.ae.length≤1000000
 pk: ∀ p∈d.ae,0≤p.Kind∧p.Kind≤255
 kG:d.aq.length≤1000000
 nk: ∀ n∈d.aq,0≤n.Kind∧n.Kind≤255
structure fV (d:ak):Prop where
 k3:d.ag.length≤9223372036854775807
 side: ∀ x∈d.ag,0≤x.cT∧x.cT≤255
 kb:d.ae.length≤9223372036854775807
 pk: ∀ p∈d.ae,0≤p.Kind∧p.Kind≤255
 kG:d.aq.length≤9223372036854775807
 nk: ∀ n∈d.aq,0≤n.Kind∧n.Kind≤255
def fH (d:ak):Prop:=20<(d.ag.length:Int)∨12<(d.ae.length:Int)∨15<(d.aq.length:Int)
instance (d:ak):Decidable (fH d):=by unfold fH; infer_instance
theorem fV.small {d:ak} (h:fV d) (hg: ¬ fH d):cJ d:=by
 unfold fH at hg
 exact ⟨I,h.side,I,h.pk,I,h.nk⟩
def kP (d:ak):Prop:= ¬ fH d∧br d=0
noncomputable instance (d:ak):Decidable (kP d):=by unfold kP; infer_instance
def gi (d:ak) (i:Nat):Prop:= ∀ (j:Nat) p,j<i→d.ae[j]? =some p→cf d.ag d.ae j p
theorem l9 {d:ak}:gi d 0:=fun j p hj=>absurd hj (Nat.not_lt_zero _)
theorem jU {d:ak} {i:Nat} {p:aV} (h:gi d i) (hp:d.ae[i]? =some p) (ho:cf d.ag d.ae i p):gi d (i+1):=fun j y hj hy=>by
 rcases Nat.lt_or_ge j i with q|q
 ·exact h j y q hy
 ·obtain rfl:j=i:=by omega
  rw [hp] at hy; cases hy; exact ho
theorem uu {d:ak} {i:Nat} (hi:i≤d.ae.length) (h:gi d i): -1≤fb d.ae i∧fb d.ae i≤9999:=by
 rcases Nat.eq_zero_or_pos i with e|e
 ·rw [gP e]; omega
 ·have hy:d.ae[i-1]? =some (d.ae[i-1]'I):=dr _
  have:=(h (i-1) _ I hy).1
  rw [cb e hy]; omega
theorem bI {d:ak} {i:Nat} (h1:d.ae.length≤8∧d.aq.length≤10) (h2:bS d.ag d.a2) (h3:0≤d.a4∧d.a4≤400000) (h4:gi d i) (hi:d.ae.length≤i) (h5: ∀ n∈d.aq,bx d.ag n):dO d:=
 ⟨h1,h2,h3,fun j p hp=>h4 j p (by have:=(aJ.1 hp).1; omega) hp,h5⟩
theorem cc {d:ak}:(d.aq.any fun n=> !decide (bx d.ag n))=false↔ ∀ n∈d.aq,bx d.ag n:=by
 rw [List.any_eq_false]
 simp
theorem gj {s i:Nat}:(((s/2^i % 2:Nat):Int)=1)↔s.testBit i=true:=by
 rw [Nat.testBit_eq_decide_div_mod_eq,decide_eq_true_eq]; omega
def bH (s:Nat):Nat→Prop:=fun i=>s.testBit i=true
def de (n:Nat) (l:List Int):Nat:=l.foldl (fun s x=>hU s x.toNat) (2^n-1)
theorem p9 {s i:Nat}:hU s i≤s:=by
 unfold hU
 split
 ·exact Nat.sub_le _ _
 ·exact Nat.le_refl _
theorem we {n:Nat}: ∀ (l:List Int) (s:Nat),l.foldl (fun s x=>hU s x.toNat) s≤s
 |[],s=>Nat.le_refl _
 |x::l,s=>Nat.le_trans (we (n:=n) l _) p9
theorem iu {n:Nat} (h:n≤8):1≤2^n∧2^n≤256:=⟨Nat.one_le_two_pow,Nat.pow_le_pow_right (n:=2) I h⟩
theorem hE {n:Nat} {l:List Int} (h:n≤8):de n l<256:=by
 have A:=we (n:=n) l (2^n-1)
 have B:=iu h
 unfold de; omega
theorem sY {n:Nat} {l:List Int} {i:Nat} {x:Int} (h:l[i]? =some x):de n (l.take (i+1))=hU (de n (l.take i)) x.toNat:=by
 unfold de; rw [List.take_add_one,h,List.foldl_append]; rfl
theorem qX {n:Nat} (hn:n≤8): ∀ (l:List Int),(∀ x∈l,0≤x∧x<8)→ ∀ s,s<256→ ∀ k,k<n→((l.foldl (fun s x=>hU s x.toNat) s).testBit k=true↔s.testBit k=true∧(k:Int) ∉ l)
 |[],_,s,_,k,_=>by simp
 |x::l,hl,s,hs,k,hk=>by
  have hx:=hl x sm
  have B:hU s x.toNat<256:=Nat.lt_of_le_of_lt p9 hs
  have A:=rj ⟨s,hs⟩ ⟨x.toNat,I⟩ ⟨k,I⟩
  simp only at A
  rw [List.foldl_cons,qX hn l (fun y hy=>hl y (eh _ hy)) _ B k hk,A,bU,decide_eq_true_eq,bE,not_or]
  constructor
  ·rintro ⟨⟨a,b⟩,c⟩; exact ⟨a,I,c⟩
  ·rintro ⟨a,b,c⟩; exact ⟨⟨a,I⟩,c⟩
theorem gq {n:Nat} (hn:n≤8) {l:List Int} (hl: ∀ x∈l,0≤x∧x<8) {k:Nat} (hk:k<n):bH (de n l) k↔(k:Int) ∉ l:=by
 have h:=iu hn
 unfold bH de
 rw [qX hn l hl _ I k hk]
 have:(2^n-1).testBit k=true:=by rw [Nat.testBit_two_pow_sub_one,decide_eq_true_eq]; exact hk
 simp [this]
theorem AR {s i:Nat} (hs:s<256) (hi:i<8) {k:Nat} (hk:k<8):bH (hU s i) k↔cW (bH s) i k:=by
 have h:=rj ⟨s,hs⟩ ⟨i,hi⟩ ⟨k,hk⟩
 simp only at h
 unfold bH cW
 rw [h,bU,decide_eq_true_eq]
end
section
def hH (d:ak) (n:bc) (x:Int):Prop:=ni d n x.toNat
noncomputable instance (d:ak) (n:bc) (x:Int):Decidable (hH d n x):=Classical.propDecidable _
theorem jq {d:ak} {n:bc} {x:Int} {p:aV} (hp:d.ae[x.toNat]? =some p):hH d n x↔p.Kind=n.Kind∧eV d.ag p n.ao≤n.e8:=by
 unfold hH ni
 constructor
 ·rintro ⟨q,hq,h⟩; rw [hp] at hq; cases hq; exact h
 ·exact fun h=>⟨p,hp,h⟩
theorem kv {d:ak} {n:bc} {S:Nat→Prop}:(dI d S).filter (fun x=>decide (hH d n x))=gZ d n S:=by
 refine jW (List.Pairwise.filter _ gV) fun x=>?_
 rw [List.mem_filter]
 unfold dI
 rw [eU,decide_eq_true_eq]
 constructor
 ·rintro ⟨⟨i,rfl,A,B⟩,C⟩
  exact ⟨i,U,A,B,by unfold hH at C; rwa [Int.toNat_natCast] at C⟩
 ·rintro ⟨i,rfl,A,B,C⟩
  exact ⟨⟨i,U,A,B⟩,by unfold hH; rwa [Int.toNat_natCast]⟩
theorem mI {d:ak} {S:Nat→Prop}: ∀ x∈dI d S,0≤x∧x<(d.ae.length:Int):=fun x hx=>by
 obtain ⟨i,rfl,h,_⟩:=eU.1 hx
 omega
theorem mK {d:ak} {S:Nat→Prop}:(dI d S).length≤d.ae.length:=dE
theorem mW {d:ak} {S:Nat→Prop} (h: ¬ ((cq d S).length:Int)=0):false=decide (cy d S):=(aQ fun q=>h (by rw [q.1]; rfl)).symm
theorem mu {d:ak} {S:Nat→Prop} (h:((cq d S).length:Int)=0):decide (((iK d S).length:Int)=0)=decide (cy d S):=dQ.2 ⟨fun q=>⟨e9 I,e9 I⟩,fun q=>by rw [q.2]; rfl⟩
structure lf (p:Int→Bool) (l q:List Int) (i j:Nat):Prop where
 len:q.length=l.length
 le:j≤l.length
 ij:i<j
 head:q.take i=(l.take j).filter fun u=> !p u
 tail: ∀ k,j≤k→q[k]? =l[k]?
theorem qx {p:Int→Bool}: ∀ {l:List Int} {i:Nat},dz p l=(i:Int)→ ∃ y,l[i]? =some y∧p y=true∧(l.take i).any p=false:=by
 intro l i h
 unfold dz at h
 split at h
 ·rename_i ha
  have e:l.findIdx p=i:=by omega
  have C:l.findIdx p<l.length:=List.findIdx_lt_length_of_exists (by simpa [List.any_eq_true] using ha)
  subst e
  refine ⟨l[l.findIdx p],dr C,List.findIdx_getElem,?_⟩
  rw [List.any_eq_false]
  intro x hx
  obtain ⟨k,hk⟩:=List.getElem?_of_mem hx
  obtain ⟨B,A⟩:=aJ.1 hk
  rw [List.length_take] at B
  rw [List.getElem_take] at A
  have:=List.not_of_lt_findIdx (p:=p) (xs:=l) (i:=k) I
  rw [← A]; simpa using this
 ·omega
theorem te {p:Int→Bool} {l:List Int} (h:dz p l= -1):l=l.filter fun u=> !p u:=by
 symm
 rw [List.filter_eq_self]
 intro x hx
 unfold dz at h
 split at h
 ·omega
 ·rename_i ha
  have:p x=false:=by
   cases e:p x with
   |false=>rfl
   |true=>exact absurd (List.any_eq_true.2 ⟨x,hx,e⟩) ha
  rw [this]; rfl
theorem se {p:Int→Bool} {l:List Int} (h: ¬ dz p l= -1):(0≤dz p l∧dz p l<(l.length:Int))∧lf p l l (dz p l).toNat ((dz p l).toNat+1):=by
 have D:0≤dz p l:=by unfold dz at h ⊢; split at h<;>rename_i q<;>simp [q] at h ⊢
 obtain ⟨y,A,E,B⟩:=qx (p:=p) (l:=l) (i:=(dz p l).toNat) I
 have F:=(aJ.1 A).1
 refine ⟨⟨D,I⟩,U,I,I,?_,fun k _=>rfl⟩
 rw [List.take_add_one,A,List.filter_append]
 have C:(l.take (dz p l).toNat).filter (fun u=> !p u)=l.take (dz p l).toNat:=by
  rw [List.filter_eq_self]
  intro x hx
  rw [List.any_eq_false] at B
  have:=B x hx
  simpa using this
 rw [C]
 simp [E]
variable {p:Int→Bool} {l q:List Int} {i j:Nat} {y:Int}
theorem lf.mem (h:lf p l q i j) (hy:q[j]? =some y):y∈l:=by
 rw [h.tail j (Nat.le_refl _)] at hy
 exact aI hy
theorem lf.h_ (h:lf p l q i j) (hl:q.length=l.length) (hij:i<q.length) (hy:q[j]? =some y) (hp:p y=false):lf p l (q.set i y) (i+1) (j+1):=by
 have A:=h.tail j (Nat.le_refl _)
 rw [hy] at A
 have hj:=(aJ.1 A.symm).1
 have:=h.ij
 refine ⟨by rw [List.length_set]; exact hl,I,I,?_,fun k hk=>?_⟩
 ·rw [List.take_add_one,List.getElem?_set_self hij,List.take_add_one,← A,List.filter_append,← h.head,List.take_set_of_le (Nat.le_refl _)]
  simp [hp]
 ·rw [List.getElem?_set_ne I]
  exact h.tail k I
theorem lf.skip (h:lf p l q i j) (hl:q.length=l.length) (hy:q[j]? =some y) (hp:p y=true):lf p l q i (j+1):=by
 have A:=h.tail j (Nat.le_refl _)
 rw [hy] at A
 have hj:=(aJ.1 A.symm).1
 have:=h.ij
 refine ⟨hl,I,I,?_,fun k hk=>h.tail k I⟩
 rw [List.take_add_one,← A,List.filter_append,← h.head]
 simp [hp]
theorem lf.done (h:lf p l q i j) (hj:l.length≤j):q.take i=l.filter (fun u=> !p u)∧(l.filter fun u=> !p u).length=i:=by
 have A:=h.head
 rw [List.take_of_length_le hj] at A
 refine ⟨A,?_⟩
 rw [← A,List.length_take]
 have:=h.ij
 have:=h.le
 have:=h.len
 omega
end
section
def fh:Nat→Prop:=fun _=>True
noncomputable def cC (d:ak) (l:List Int):List Int:=if bM d l=0 then dI d (hG l) else []
theorem jT {d:ak} {l:List Int} (h:bM d l=0):cC d l=dI d (hG l):=if_pos h
theorem jR {d:ak} {l:List Int} (h: ¬ bM d l=0):cC d l=[]:=if_neg h
noncomputable def dM (d:ak) (l:List Int):List Int:=if bM d l=0 then cq d (hG l) else []
theorem kS {d:ak} {l:List Int} (h:bM d l=0):dM d l=cq d (hG l):=if_pos h
theorem k4 {d:ak} {l:List Int} (h: ¬ bM d l=0):dM d l=[]:=if_neg h
noncomputable def fr (d:ak) (nd:Int) (l:List Int):Int:=if bM d l=0 then (if 0≤nd∧nd≤(d.aq.length:Int)-1 then 0 else 2) else bM d l
noncomputable def gF (d:ak) (nd:Int) (l:List Int):List Int:=if fr d nd l=0 then (match d.aq[nd.toNat]? with |some n=>gZ d n (hG l)|none=>[]) else []
theorem hZ {d:ak} {nd:Int} {l:List Int} (h: ¬ fr d nd l=0):gF d nd l=[]:=if_neg h
theorem qD {d:ak} {nd:Int} {l:List Int} (h: ¬ bM d l=0): ¬ fr d nd l=0∧fr d nd l=bM d l:=by
 have e:fr d nd l=bM d l:=if_neg h
 exact ⟨by rw [e]; exact h,e⟩
theorem qs {d:ak} {nd:Int} {l:List Int} (h:bM d l=0) (h2: ¬ (0≤nd∧nd≤(d.aq.length:Int)-1)): ¬ fr d nd l=0∧fr d nd l=2:=by
 have e:fr d nd l=2:=by unfold fr; rw [if_pos h,if_neg h2]
 exact ⟨by rw [e]; omega,e⟩
theorem nf {d:ak} {nd:Int} {l:List Int} {n:bc} (h:bM d l=0) (h2:0≤nd∧nd≤(d.aq.length:Int)-1) (hn:d.aq[nd.toNat]? =some n):fr d nd l=0∧gF d nd l=gZ d n (hG l):=by
 have e:fr d nd l=0:=by unfold fr; rw [if_pos h,if_pos h2]
 exact ⟨e,by unfold gF; rw [if_pos e,hn]⟩
noncomputable def ja (d:ak):Int:=if br d=0 then (if cq d fh=[] then 0 else 6) else br d
noncomputable def je (d:ak):List Int:=if ja d=0 then iK d fh else []
theorem ud {d:ak} (h: ¬ br d=0):ja d=br d∧je d=[]:=by
 have e:ja d=br d:=if_neg h
 exact ⟨e,if_neg (by rw [e]; exact h)⟩
theorem sD {d:ak} (h:br d=0) (h2: ¬ cq d fh=[]):ja d=6∧je d=[]:=by
 have e:ja d=6:=by unfold ja; rw [if_pos h,if_neg h2]
 exact ⟨e,if_neg (by rw [e]; omega)⟩
theorem ki {d:ak} (h:br d=0) (h2:cq d fh=[]):ja d=0∧je d=iK d fh:=by
 have e:ja d=0:=by unfold ja; rw [if_pos h,if_pos h2]
 exact ⟨e,if_pos e⟩
noncomputable def iE (d:ak):List Int:=if br d=0 then bZ d.ae.length fun i=>cy d (cW fh i) else []
theorem m_ {d:ak} (h:br d=0):iE d=bZ d.ae.length fun i=>cy d (cW fh i):=if_pos h
theorem kU {d:ak} (h: ¬ br d=0):iE d=[]:=if_neg h
theorem np {d:ak} (hn:d.ae.length≤8) {j:Nat} (hj:j<d.ae.length):cy d (bH (de d.ae.length [(j:Int)]))↔cy d (cW fh j):=
 nU fun k hk=>by
  rw [gq hn (by intro x hx; simp only [cu] at hx; omega) hk]
  unfold cW fh
  simp; omega
end
section
def l3 (x y:Int):Int:=if x<y then-1 else if y<x then 1 else 0
theorem p8 {x y:Int} (h:x<y):l3 x y= -1:=if_pos h
theorem p7 {x y:Int} (h:y<x):l3 x y=1:=by unfold l3; rw [if_neg I,if_pos h]
theorem qB {x y:Int} (h: ¬ x<y) (h2: ¬ y<x):l3 x y=0:=by unfold l3; rw [if_neg h,if_neg h2]
def iO:List Int→List Int→Int
 |[],[]=>0
 |[],_::_=> -1
 |_::_,[]=>1
 |x::a,y::b=>if l3 x y=0 then iO a b else l3 x y
variable {a b:List Int} {i:Nat} {x y:Int}
theorem lR (h:a[i]? =some x):a.drop i=x::a.drop (i+1):=by
 obtain ⟨A,B⟩:=aJ.1 h
 rw [List.drop_eq_getElem_cons A,B]
theorem tQ (hx:a[i]? =some x) (hy:b[i]? =some y) (h:l3 x y=0):iO (a.drop i) (b.drop i)=iO (a.drop (i+1)) (b.drop (i+1)):=by
 rw [lR hx,lR hy,iO,if_pos h]
theorem oi (hx:a[i]? =some x) (hy:b[i]? =some y) (h: ¬ l3 x y=0):iO (a.drop i) (b.drop i)=l3 x y:=by
 rw [lR hx,lR hy,iO,if_neg h]
theorem lU (ha:i<a.length) (hb:b.length≤i):iO (a.drop i) (b.drop i)=1:=by
 rw [List.drop_eq_nil_of_le hb,List.drop_eq_getElem_cons ha,iO]
theorem jt (ha:a.length≤i) (hb:i<b.length):iO (a.drop i) (b.drop i)= -1:=by
 rw [List.drop_eq_nil_of_le ha,List.drop_eq_getElem_cons hb,iO]
theorem kh (ha:a.length≤i) (hb:b.length≤i):iO (a.drop i) (b.drop i)=0:=by
 rw [List.drop_eq_nil_of_le ha,List.drop_eq_nil_of_le hb,iO]
/-- longer than another one, or as long, and behind it -/
def eM (a b:List Int):Prop:=b.length<a.length∨a.length=b.length∧0<iO a b
instance (a b:List Int):Decidable (eM a b):=by unfold eM; infer_instance
noncomputable def eu (n:Nat) (p:Nat→Bool):Nat→Option (List Int)
 |0=>none
 |z+1=>match eu n p z with
  |none=>if p z=true then some (bZ n (bH z)) else none
  |some b=>if ¬ eM (bZ n (bH z)) b∧p z=true then some (bZ n (bH z)) else some b
section
variable {n z:Nat} {p:Nat→Bool} {bo:Bool} {fl:List Int}
theorem ew (h:eu n p z=cond bo (some fl) none) (hp:p z=false):eu n p (z+1)=cond bo (some fl) none:=by
 cases bo
 ·simp only [cond_false] at h ⊢; rw [eu,h]; simp [hp]
 ·simp only [cond_true] at h ⊢; rw [eu,h]; simp [hp]
theorem ej (h:eu n p z=cond bo (some fl) none) (hb:bo=true) (hw:eM (bZ n (bH z)) fl):eu n p (z+1)=cond bo (some fl) none:=by
 subst hb
 simp only [cond_true] at h ⊢
 rw [eu,h]; simp [hw]
theorem fu (h:eu n p z=cond bo (some fl) none) (hw:bo=true→ ¬ eM (bZ n (bH z)) fl) (hp:p z=true):eu n p (z+1)=cond true (some (bZ n (bH z))) none:=by
 cases bo
 ·simp only [cond_false] at h; rw [eu,h]; simp [hp]
 ·simp only [cond_true] at h; rw [eu,h]; simp [hp,hw rfl]
end
noncomputable def oP (d:ak):Option (List Int):=eu d.ae.length (fun z=>decide (cy d (bH z))) (2^d.ae.length)
noncomputable def qC (d:ak):Int:=if br d=0 then (match oP d with |none=>6|some _=>0) else br d
noncomputable def lK (d:ak):List Int:=if br d=0 then (oP d).getD [] else []
theorem v5 {d:ak} (h: ¬ br d=0):qC d=br d∧lK d=[]:=⟨if_neg h,if_neg h⟩
theorem sX {d:ak} (h:br d=0) (h2:oP d=none):qC d=6∧lK d=[]:=by
 refine ⟨by unfold qC; rw [if_pos h,h2],by unfold lK; rw [if_pos h,h2]; rfl⟩
theorem oQ {d:ak} {l:List Int} (h:br d=0) (h2:oP d=some l):qC d=0∧lK d=l:=by
 refine ⟨by unfold qC; rw [if_pos h,h2],by unfold lK; rw [if_pos h,h2]; rfl⟩
end
section
theorem jr {n:Nat} {p:Nat→Prop} {l:List Int} (hs:l.Pairwise (· < ·)) (hb: ∀ x∈l,0≤x∧x<(n:Int)) (h: ∀ i,i<n→(p i↔(i:Int)∈l)):bZ n p=l:=
 (jW hs fun x=>⟨fun hx=>⟨x.toNat,by have:=hb x hx; omega,by have:=hb x hx; omega,(h _ (by have:=hb x hx; omega)).2 (by rw [Int.toNat_of_nonneg (hb x hx).1]; exact hx)⟩,fun ⟨i,e,A,B⟩=>e▸(h i A).1 B⟩).symm
def g4:List aa:=[⟨1,⟨10000,10200⟩,⟨0,0⟩,⟨0,0⟩,0,0⟩,⟨2,⟨5000,5000⟩,⟨0,0⟩,⟨2000,2000⟩,1,0⟩]
def qF:aV:=⟨2,1,⟨0,⟨9000,9000⟩⟩,20,10⟩
def qv:aV:=⟨5,1,⟨1,⟨1000,1000⟩⟩,30,10⟩
def vv:aV:=⟨6,1,⟨1,⟨4000,4000⟩⟩,10,10⟩
def pq:aG:=⟨0,⟨5000,5000⟩⟩
def gI:List aV:=[qF,qv,vv]
def cm (r s:Int):ak:=⟨g4,gI,[⟨1,1,s⟩],pq,r⟩
theorem v7:a_ g4=true:=by decide
theorem tT {i:Nat} {p:aV} (h:gI[i]? =some p):i=0∧p=qF∨i=1∧p=qv∨i=2∧p=vv:=by
 match i with
 |0=>left; simp [gI] at h; exact ⟨rfl,h.symm⟩
 |1=>right; left; simp [gI] at h; exact ⟨rfl,h.symm⟩
 |2=>right; right; simp [gI] at h; exact ⟨rfl,h.symm⟩
 |n+3=>simp [gI] at h
theorem ko:bS g4 qF.cp∧bS g4 qv.cp∧bS g4 vv.cp∧bS g4 pq:=
 ⟨⟨dc,_,rfl,by simp only [bf]; decide⟩,⟨dc,_,rfl,by simp only [bf]; decide⟩,⟨dc,_,rfl,by simp only [bf]; decide⟩,⟨dc,_,rfl,by simp only [bf]; decide⟩⟩
theorem xa {r s:Int} (hr:0≤r∧r≤400000) (hs:0≤s∧s≤36000):dO (cm r s):=by
 refine ⟨⟨show (3:Nat)≤8 by decide,show (1:Nat)≤10 by decide⟩,ko.2.2.2,hr,fun i p hp=>?_,fun n hn=>?_⟩
 ·rcases tT hp with ⟨rfl,rfl⟩|⟨rfl,rfl⟩|⟨rfl,rfl⟩
  ·exact ⟨by show fb gI 0<2∧_; decide,dc,ko.1,dc,dc⟩
  ·exact ⟨by show fb gI 1<5∧_; decide,dc,ko.2.1,dc,dc⟩
  ·exact ⟨by show fb gI 2<6∧_; decide,dc,ko.2.2.1,dc,dc⟩
 ·have hn:n∈[bc.mk 1 1 s]:=hn
  rw [cu] at hn
  subst hn
  exact ⟨by show (0:Int)≤1∧(1:Int)≤(2:Int)-1; decide,by show (1:Int)≤1∧(1:Int)≤3; decide,hs⟩
theorem j0 {r s:Int}:cJ (cm r s):=by
 refine ⟨show (2:Nat)≤1000000 by decide,fun x hx=>?_,show (3:Nat)≤1000000 by decide,fun p hp=>?_,show (1:Nat)≤1000000 by decide,fun n hn=>?_⟩
 ·have: ∀ x∈g4,0≤x.cT∧x.cT≤255:=by decide
  exact this x hx
 ·have: ∀ x∈gI,0≤x.Kind∧x.Kind≤255:=by decide
  exact this p hp
 ·have hn:n∈[bc.mk 1 1 s]:=hn
  rw [cu] at hn
  subst hn
  exact ⟨by show (0:Int)≤1; decide,by show (1:Int)≤255; decide⟩
theorem pw {r s:Int} (hr:0≤r∧r≤400000) (hs:0≤s∧s≤36000):br (cm r s)=0:=cY v7 (xa hr hs)
theorem wa {a:Int} {p:aV} {r s n t:Int} (hr:0≤r∧r≤400000) (hs:0≤s∧s≤36000) (ha:0≤a∧a≤2) (hp:gI[a.toNat]? =some p) (hn:iR g4 p.cp 1=n) (ht:eV g4 p 1=t):ik (cm r s) a 1=0∧k7 (cm r s) a 1=n∧hP (cm r s) a 1=t:=by
 have h:=gz (d:=cm r s) (a:=a) (k:=1) (pw hr hs) ⟨⟨ha.1,ha.2⟩,dc,by show (1:Int)≤(2:Int)-1; decide⟩ hp
 exact ⟨h.1,h.2.1.trans hn,h.2.2.trans ht⟩
theorem pt {r s:Int} (hr:r=6000∨r=6200) {i k:Nat} {p q:aV} (hp:gI[i]? =some p) (hq:gI[k]? =some q):eF (cm r s) q.cp p.cp:=by
 have key: ∀ p∈gI,∀ q∈gI,-6000≤(cM g4 q.cp p.cp).Lo∧(cM g4 q.cp p.cp).Hi≤6000:=by decide
 have h:=key p (aI hp) q (aI hq)
 show-r≤(cM g4 q.cp p.cp).Lo∧(cM g4 q.cp p.cp).Hi≤r
 omega
def y8 (r:Int) (i:Nat):Prop:=i=0∨r=6200∧i=1
theorem kZ {r s:Int} (hr:r=6000∨r=6200) {i:Nat} {p:aV} (hp:gI[i]? =some p):eF (cm r s) pq p.cp↔y8 r i:=by
 have A:(cM g4 pq qF.cp)=⟨4000,4000⟩:=by decide
 have B:(cM g4 pq qv.cp)=⟨6000,6200⟩:=by decide
 have C:(cM g4 pq vv.cp)=⟨9000,9200⟩:=by decide
 show (-r≤(cM g4 pq p.cp).Lo∧(cM g4 pq p.cp).Hi≤r)↔_
 unfold y8
 rcases tT hp with ⟨rfl,rfl⟩|⟨rfl,rfl⟩|⟨rfl,rfl⟩
 ·rw [A]; rcases hr with rfl|rfl<;>decide
 ·rw [B]; rcases hr with rfl|rfl<;>decide
 ·rw [C]; rcases hr with rfl|rfl<;>decide
def uH (r:Int) (S:Nat→Prop):Prop:=S 0∨r=6200∧S 1
theorem g6 {r s:Int} (hr:r=6000∨r=6200) {S:Nat→Prop} {i:Nat}:ec (cm r s) S i↔i<3∧S i∧uH r S:=by
 constructor
 ·intro h
  induction h with
  | @b1 i p hs hp hh=>
   refine ⟨(aJ.1 hp).1,hs,?_⟩
   rcases (kZ hr hp).1 hh with rfl|⟨e,rfl⟩
   ·exact .inl hs
   ·exact .inr ⟨e,hs⟩
  | @post k i q p hk hq hs hp hh ih=>exact ⟨(aJ.1 hp).1,hs,ih.2.2⟩
 ·rintro ⟨hi,hs,h⟩
  have hp:gI[i]? =some (gI[i]'hi):=dr _
  rcases h with h|⟨e,h⟩
  ·exact .post (q:=qF) (.b1 h U ((kZ (s:=s) hr (i:=0) (p:=qF) U).2 (.inl U))) U hs hp (pt hr hp (k:=0) U)
  ·exact .post (q:=qv) (.b1 h U ((kZ (s:=s) hr (i:=1) (p:=qv) U).2 (.inr ⟨e,U⟩))) U hs hp (pt hr hp (k:=1) U)
theorem qI {r s:Int} (hr:r=6000∨r=6200) (hs:0≤s∧s≤36000) {l:List Int} (h:fk 3 l):bM (cm r s) l=0:=kN (pw I hs) h
theorem jQ {l c:List Int} (h:fk 3 l) (hs:c.Pairwise (· < ·)) (hb: ∀ x∈c,0≤x∧x<3) (hc: ∀ i:Nat,i<3→(((i:Int) ∉ l∧(0:Int) ∉ l)↔(i:Int)∈c)):bM (cm 6000 100) l=0∧cC (cm 6000 100) l=c:=by
 have hm:bM (cm 6000 100) l=0:=qI (.inl rfl) dc h
 refine ⟨hm,?_⟩
 rw [jT hm]
 exact jr hs hb fun i hi=>by
  rw [g6 (.inl rfl),← hc i hi]
  unfold uH hG
  constructor
  ·rintro ⟨_,B,A|⟨A,_⟩⟩
   ·exact ⟨B,A⟩
   ·omega
  ·rintro ⟨B,A⟩; exact ⟨hi,B,.inl A⟩
theorem nv {n:Nat}:fk n []:=fun j x h=>by simp at h
theorem nz {n:Nat} {x:Int} (h:0≤x∧x≤(n:Int)-1):fk n [x]:=fun j y hy=>by
 match j with
 |0=>simp at hy; subst hy; exact ⟨by show (-1:Int)<x; omega,h⟩
 |j+1=>simp at hy
theorem tY:bM (cm 6000 100) []=0∧cC (cm 6000 100) []=[0,1,2]:=jQ nv dc dc dc
theorem wO:bM (cm 6000 100) [0]=0∧cC (cm 6000 100) [0]=[]:=jQ (nz dc) dc dc dc
theorem x3:bM (cm 6000 100) [1]=0∧cC (cm 6000 100) [1]=[0,2]:=jQ (nz dc) dc dc dc
theorem mh {r:Int} {i:Nat} (hi:i<3):ni (cm r 100) ⟨1,1,100⟩ i:=by
 have key: ∀ p∈gI,p.Kind=1∧eV g4 p 1≤100:=by decide
 have hp:gI[i]? =some (gI[i]'hi):=dr _
 have:=key _ (aI hp)
 exact ⟨_,hp,this.1,this.2⟩
theorem ug {r s:Int} {j:Nat} {n:bc} (h:(cm r s).aq[j]? =some n):j=0∧n=⟨1,1,s⟩:=by
 match j with
 |0=>simp [cm] at h; exact ⟨rfl,h.symm⟩
 |j+1=>simp [cm] at h
theorem g7 {r:Int} (hr:r=6000∨r=6200) {S:Nat→Prop}:cq (cm r 100) S=[]↔uH r S:=by
 unfold cq
 rw [ji]
 constructor
 ·intro h
  have A:=h 0 (show 0<1 by decide)
  apply Classical.byContradiction
  intro hn
  refine A ⟨⟨1,1,100⟩,U,?_⟩
  unfold gZ
  rw [ji]
  rintro i hi ⟨hc,_⟩
  exact hn ((g6 hr).1 hc).2.2
 ·rintro hs j _ ⟨n,hn,hm⟩
  obtain ⟨rfl,rfl⟩:=ug hn
  unfold gZ at hm
  rw [ji] at hm
  rcases hs with h|⟨e,h⟩
  ·exact hm 0 (show 0<3 by decide) ⟨(g6 hr).2 ⟨dc,h,.inl h⟩,mh dc⟩
  ·exact hm 1 (show 1<3 by decide) ⟨(g6 hr).2 ⟨dc,h,.inr ⟨e,h⟩⟩,mh dc⟩
theorem ld:fr (cm 6000 100) 0 []=0∧gF (cm 6000 100) 0 []=[0,1,2]:=by
 have hm:bM (cm 6000 100) []=0:=tY.1
 have h:=nf (nd:=0) hm ⟨dc,by show (0:Int)≤(1:Int)-1; decide⟩ (n:=⟨1,1,100⟩) rfl
 refine ⟨h.1,h.2.trans (jr dc dc fun i hi=>?_)⟩
 have hi:i<3:=hi
 rw [g6 (.inl rfl)]
 have:i=0∨i=1∨i=2:=by omega
 constructor
 ·intro _; rcases this with rfl|rfl|rfl<;>decide
 ·intro _; exact ⟨⟨hi,by simp [hG],.inl (by simp [hG])⟩,mh hi⟩
theorem oU {r:Int} (hr:r=6000∨r=6200):cq (cm r 100) fh=[]:=(g7 hr).2 (.inl trivial)
theorem mO:ja (cm 6000 100)=0∧je (cm 6000 100)=[0]:=by
 have h:=ki (d:=cm 6000 100) (pw dc dc) (oU (.inl rfl))
 refine ⟨h.1,h.2.trans (jr dc dc fun i hi=>?_)⟩
 rw [Ne,g7 (.inl rfl)]
 unfold uH cW fh
 simp only [true_and,cu]
 omega
theorem jX {S:Nat→Prop}:cy (cm 6200 100) S↔S 0∧S 1:=by
 unfold cy iK
 rw [g7 (.inr rfl),ji]
 constructor
 ·rintro ⟨A,C⟩
  have key: ∀ i,i<3→S i→uH 6200 (cW S i):=fun i hi hs=>by
   apply Classical.byContradiction
   intro hn
   exact C i hi ⟨hs,fun e=>hn ((g7 (.inr U)).1 e)⟩
  rcases A with h|⟨_,h⟩
  ·rcases key 0 dc h with q|⟨_,q⟩
   ·exact absurd U q.2
   ·exact ⟨h,q.1⟩
  ·rcases key 1 dc h with q|⟨_,q⟩
   ·exact ⟨q.1,h⟩
   ·exact absurd U q.2
 ·rintro ⟨B,A⟩
  refine ⟨.inl B,?_⟩
  rintro i _ ⟨_,hn⟩
  refine hn ((g7 (.inr U)).2 ?_)
  by_cases e:i=0
  ·exact .inr ⟨U,A,I⟩
  ·exact .inl ⟨B,fun q=>e q.symm⟩
theorem k_:br (cm 6200 100)=0∧iE (cm 6200 100)=[2]:=by
 have h:br (cm 6200 100)=0:=pw dc dc
 refine ⟨h,(m_ h).trans (jr dc dc fun i hi=>?_)⟩
 have hi:i<3:=hi
 rw [jX]
 unfold cW fh
 simp only [true_and,cu]
 omega
theorem nR:qC (cm 6200 100)=0∧lK (cm 6200 100)=[0,1]:=by
 have h:br (cm 6200 100)=0:=pw dc dc
 refine oQ h ?_
 have hp:(fun z=>decide (cy (cm 6200 100) (bH z)))=fun z=>z.testBit 0&&z.testBit 1:=funext fun z=>by
  by_cases q:z.testBit 0=true∧z.testBit 1=true
  ·rw [q.1,q.2]; exact dm (jX.2 q)
  ·rw [aQ fun e=>q (jX.1 e)]
   cases e0:z.testBit 0<;>cases e1:z.testBit 1<;>first|rfl|exact absurd ⟨e0,e1⟩ q
 unfold oP
 rw [hp]
 show eu 3 _ 8=_
 have B:eu 3 (fun z=>z.testBit 0&&z.testBit 1) 0=cond false (some ([]:List Int)) none:=rfl
 have C:=ew (ew (ew B dc) dc) dc
 have D:=fu C (fun q=>Bool.noConfusion q) dc
 have A:bZ 3 (bH 3)=[0,1]:=jr dc dc (by unfold bH; decide)
 have G:bZ 3 (bH 7)=[0,1,2]:=jr dc dc (by unfold bH; decide)
 have E:=ew (ew (ew D dc) dc) dc
 have F:=ej E rfl (by show eM (bZ 3 (bH 7)) (bZ 3 (bH 3)); rw [A,G]; exact .inl dc)
 rw [show (some [0,1]:Option (List Int))=cond true (some (bZ 3 (bH (0+1+1+1)))) none from by show _=some (bZ 3 (bH 3)); rw [A]]
 exact F
theorem iW {d:ak} {l:List Int}:(cC d l).length≤d.ae.length:=by
 unfold cC; split
 ·exact dE
 ·exact Nat.zero_le _
theorem l7 {d:ak} {l:List Int}:(dM d l).length≤d.aq.length:=by
 unfold dM; split
 ·exact dE
 ·exact Nat.zero_le _
abbrev qO (a n t:Int):Prop:=(ik (cm 6000 100) a 1=0∧k7 (cm 6000 100) a 1=n)∧ik (cm 6000 100) a 1=0∧hP (cm 6000 100) a 1=t
theorem wJ {a:Int} {p:aV} {n t:Int} (ha:0≤a∧a≤2) (hp:gI[a.toNat]? =some p) (hn:iR g4 p.cp 1=n) (ht:eV g4 p 1=t):qO a n t:=
 have h:=wa (r:=6000) (s:=100) dc dc ha hp hn ht
 ⟨⟨h.1,h.2.1⟩,h.1,h.2.2⟩
theorem wP:qO 0 6200 82:=wJ (p:=qF) dc rfl dc dc
theorem xc:qO 1 4000 70:=wJ (p:=qv) dc rfl dc dc
end
section
theorem rp {α:Type} {l:List α} {P:Nat→α→Prop} {i:Nat} {x:α} (h: ∀ (j:Nat) y,j<i→l[j]? =some y→P j y) (hx:l[i]? =some x) (hp:P i x): ∀ (j:Nat) y,j<i+1→l[j]? =some y→P j y:=fun j y hj hy=>by
 rcases Nat.lt_or_ge j i with q|q
 ·exact h j y q hy
 ·obtain rfl:j=i:=by omega
  rw [hx] at hy; cases hy; exact hp
theorem d_ {α:Type} {l:List α} {P:α→Prop} {i:Nat} (hi:l.length≤i) (h: ∀ (j:Nat) y,j<i→l[j]? =some y→P y): ∀ y∈l,P y:=fun y hy=>by
 obtain ⟨j,hj⟩:=List.getElem?_of_mem hy
 exact h j y (by have:=(aJ.1 hj).1; omega) hj
end
section
theorem mM {d:ak} {l:List Int} (h:bM d l=0):dM d l=bZ d.aq.length (gu d (hG l)):=kS h
theorem lB {d:ak} {l:List Int} (h:bM d l=0):cC d l=bZ d.ae.length (ec d (hG l)):=jT h
theorem su {i:Nat}:hG [] i↔fh i:=by simp [hG,fh]
theorem nB {d:ak} (h:br d=0):bM d []=0∧dM d []=cq d fh:=by
 have hm:=kN h (nv (n:=d.ae.length))
 exact ⟨hm,(kS hm).trans (fg fun i _=>su)⟩
end
section
def jh (a b:al):Prop:=b.Lo≤a.Lo∧a.Hi≤b.Hi
section
variable {ts us:List aa} {f k i:Nat} {x:aa}
theorem dT.two (h:dT ts.length ts.length ts us) (hx:ts[i]? =some x): ∃ y,us[i]? =some y∧jh y.di x.di∧y.cT=x.cT:=by
 have hi:=(aJ.1 hx).1
 have hl:=h.len
 have hy:us[i]? =some (us[i]'I):=dr I
 have A:=h.at_ i x _ hx hy
 rw [if_pos hi,if_pos hi] at A
 exact ⟨_,hy,⟨A.2.1.1,A.2.1.2.2⟩,A.1.2.1⟩
theorem dT.yH (h:dT ts.length ts.length ts us) (hs: ∀ x∈ts,0≤x.cT∧x.cT≤255): ∀ y∈us,0≤y.cT∧y.cT≤255:=fun y hy=>by
 obtain ⟨j,hj⟩:=List.mem_iff_getElem?.1 hy
 have hl:=h.len
 have A:=(aJ.1 hj).1
 have hx:ts[j]? =some (ts[j]'I):=dr I
 rw [(h.at_ j _ y hx hj).1.2.1]
 exact hs _ (aI hx)
theorem kI (h:dT ts.length ts.length ts us): ∀ k:Nat,jh (b_ us f k) (b_ ts f k)
 |0=>⟨Int.le_refl _,Int.le_refl _⟩
 |k+1=>by
  have ih:=kI h k
  simp only [b_]
  cases hx:ts[f+k]? with
  |none=>
   have hl:=h.len
   have:us[f+k]? =none:=List.getElem?_eq_none (by have:=List.getElem?_eq_none_iff.1 hx; omega)
   rw [this]; exact ih
  |some x=>
   obtain ⟨y,hy,hl,_⟩:=h.two hx
   rw [hy]
   simp only [jh,eZ] at *
   omega
theorem oZ (h:dT ts.length ts.length ts us) {s:aG} (hs:bS ts s):bS us s:=by
 obtain ⟨A,x,hx,B⟩:=hs
 obtain ⟨y,hy,hl,_⟩:=h.two hx
 refine ⟨by rw [h.len]; exact A,y,hy,?_⟩
 simp only [bf,jh] at *
 omega
theorem pD (h:dT ts.length ts.length ts us) {s:aG} {m:Int}:gL us s m≤gL ts s m:=by
 unfold gL
 split
 ·have:=kI h (f:=m.toNat) (s.ao-m).toNat
  simp only [jh] at this
  omega
 ·have:=kI h (f:=s.ao.toNat) (m-s.ao).toNat
  simp only [jh] at this
  omega
theorem rA (h:dT ts.length ts.length ts us) {s:aG} {m:Int}:iR us s m≤iR ts s m:=by
 have A:=pD h (s:=s) (m:=m)
 have B:=pD h (s:=s) (m:=m+1)
 unfold iR
 omega
theorem o4 (h:dT ts.length ts.length ts us) {p:aV} {m:Int} (hp:0≤p.jM):eV us p m≤eV ts p m:=by
 have A:=Int.mul_le_mul_of_nonneg_left (rA h (s:=p.cp) (m:=m)) hp
 unfold eV
 omega
theorem vu (h:dT ts.length ts.length ts us) {a b:aG}:jh (j6 us a b) (j6 ts a b):=by
 unfold j6
 exact kI h _
theorem sG (h:dT ts.length ts.length ts us) {a b:aG}:jh (cM us a b) (cM ts a b):=by
 have A:=vu h (a:=a) (b:=b)
 unfold cM
 split
 ·simp only [jh,eZ,fY] at *; omega
 ·simp only [jh,eZ,fY] at *; omega
end
def jP (d:ak) (us:List aa):ak:=⟨us,d.ae,d.aq,d.a2,d.a4⟩
section
variable {d:ak} {us:List aa} {S:Nat→Prop} {i j:Nat} {l:List Int}
theorem ta (h:dT d.ag.length d.ag.length d.ag us) (hr:cJ d):fV (jP d us):=by
 have A:=hr.k3
 have B:=hr.kb
 have C:=hr.kG
 have D:=h.len
 exact ⟨by show us.length≤_; omega,h.yH hr.side,by show d.ae.length≤_; omega,hr.pk,by show d.aq.length≤_; omega,hr.nk⟩
theorem ju (h:dT d.ag.length d.ag.length d.ag us) (hd:br d=0):br (jP d us)=0:=by
 obtain ⟨C,A⟩:=cO hd
 have hl:=h.len
 refine cY (h.zd (cP C) C) ⟨A.len,oZ h A.b1,A.dC,fun i p hp=>?_,fun n hn=>?_⟩
 ·have B:=A.post i p hp
  unfold cf at B ⊢
  exact ⟨B.1,B.2.1,oZ h B.2.2.1,B.2.2.2⟩
 ·have B:=A.eQ n hn
  unfold bx at B ⊢
  exact ⟨by show 0≤n.ao∧n.ao≤(us.length:Int)-1; omega,B.2⟩
theorem qz (h:dT d.ag.length d.ag.length d.ag us) (hd:kP d):kP (jP d us):=⟨fun q=>hd.1 (by
 have hl:=h.len
 unfold fH at *
 simp only [jP] at q
 omega),ju h hd.2⟩
theorem mj (h:dT d.ag.length d.ag.length d.ag us) {a b:aG} (hh:eF d a b):eF (jP d us) a b:=by
 have A:=sG h (a:=a) (b:=b)
 unfold eF at *
 simp only [jh] at A
 show-d.a4≤(cM us a b).Lo∧(cM us a b).Hi≤d.a4
 omega
theorem mx (h:dT d.ag.length d.ag.length d.ag us) (c:ec d S i):ec (jP d us) S i:=by
 induction c with
 |b1 hs hp hh=>exact .b1 hs hp (mj h hh)
 |post _ hq hs hp hh ih=>exact .post ih hq hs hp (mj h hh)
theorem rR (h:dT d.ag.length d.ag.length d.ag us) (hd:br d=0) {n:bc} (hf:ni d n i):ni (jP d us) n i:=by
 obtain ⟨C,A⟩:=cO hd
 obtain ⟨p,hp,hk,ht⟩:=hf
 have B:=A.post i p hp
 unfold cf at B
 exact ⟨p,hp,hk,Int.le_trans (o4 h I) ht⟩
theorem rT (h:dT d.ag.length d.ag.length d.ag us) (hd:br d=0) (hl:gu (jP d us) S j):gu d S j:=by
 obtain ⟨n,hn,he⟩:=hl
 refine ⟨n,hn,?_⟩
 unfold gZ at *
 rw [ji] at he ⊢
 exact fun i hi hc=>he i hi ⟨mx h hc.1,rR h hd hc.2⟩
theorem fX (h:dT d.ag.length d.ag.length d.ag us) (hd:br d=0):bM d []=0∧bM (jP d us) []=0:=⟨(nB hd).1,(nB (ju h hd)).1⟩
theorem qq (h:dT d.ag.length d.ag.length d.ag us) (hd:br d=0): ∀ k∈dM (jP d us) [],k∈dM d []:=fun k hk=>by
 rw [mM (fX h hd).2] at hk
 rw [mM (fX h hd).1]
 obtain ⟨j,rfl,A,B⟩:=eU.1 hk
 exact lZ.2 ⟨A,rT h hd B⟩
theorem pz (h:dT d.ag.length d.ag.length d.ag us) (hd:br d=0): ∀ k∈cC d [],k∈cC (jP d us) []:=fun k hk=>by
 rw [lB (fX h hd).1] at hk
 rw [lB (fX h hd).2]
 obtain ⟨j,rfl,A,B⟩:=eU.1 hk
 exact lZ.2 ⟨A,mx h B⟩
/-- how far, and how long, on both -/
theorem tr (h:dT d.ag.length d.ag.length d.ag us) (hd:br d=0) {a k:Int} (h2:(0≤a∧a≤(d.ae.length:Int)-1)∧0≤k∧k≤(d.ag.length:Int)-1):
 (ik d a k=0∧ik (jP d us) a k=0)∧k7 (jP d us) a k≤k7 d a k∧hP (jP d us) a k≤hP d a k:=by
 obtain ⟨E,C⟩:=cO hd
 have hl:=h.len
 have hp:d.ae[a.toNat]? =some (d.ae[a.toNat]'I):=dr _
 have A:=gz hd h2 hp
 have B:=gz (d:=jP d us) (ju h hd) (a:=a) (k:=k) ⟨h2.1,by show 0≤k∧k≤(us.length:Int)-1; omega⟩ hp
 have D:=C.post _ _ hp
 unfold cf at D
 refine ⟨⟨A.1,B.1⟩,?_,?_⟩
 ·rw [A.2.1,B.2.1]; exact rA h
 ·rw [A.2.2,B.2.2]; exact o4 h I
end
end
section
open Go.RowKit
set_option linter.unusedSectionVars false
theorem g9 {P:Program} {kt:Nat} (hk:P.underlying kt=some (.int .i64)):oS P kt (Value.int .i64):=by
 refine ⟨fun e x w=>sx hk e,fun x w es A=>?_,fun x=>by simp [Instr.sameBits],fun x y h=>by injection h⟩
 have key: ∀ (es:List MapEntry) (i:Nat),(∀ e∈es,∃ k:Int,e.key= .int .i64 k)→(Instr.findNow (.int .i64) (.int .i64 x) es i=some none∧ ∀ e∈es,e.key≠ .int .i64 x)∨ ∃ j e,Instr.findNow (.int .i64) (.int .i64 x) es i=some (some (i+j,e.val))∧es[j]? =some e∧e.key= .int .i64 x:=by
  intro es
  induction es with
  |nil=>intro i _; exact .inl ⟨rfl,sm⟩
  |cons e es ih=>
   intro i A
   obtain ⟨k,B⟩:=A e sm
   by_cases h:x=k
   ·subst h
    exact .inr ⟨0,e,by simp [Instr.findNow,Instr.sameNow,B],U,B⟩
   ·have hb:(x==k)=false:=by simpa using h
    rcases ih (i+1) (fun y hy=>A y (by simp [hy])) with ⟨C,D⟩|⟨j,e',C,D,E⟩
    ·refine .inl ⟨by simp [Instr.findNow,Instr.sameNow,B,hb,C],fun y hy=>?_⟩
     rcases bE.1 hy with rfl|hy
     ·rw [B]; intro q; injection q with _ q; exact h q.symm
     ·exact D y hy
    ·refine .inr ⟨j+1,e',?_,by simpa using D,E⟩
     simp only [Instr.findNow,Instr.sameNow,B,hb,if_true,C]
     simp; omega
 rcases key es 0 A with ⟨C,D⟩|⟨j,e,C,D,E⟩
 ·exact .inl ⟨MapKept.run_findKey hk C,D⟩
 ·exact .inr ⟨j,e,MapKept.run_findKey hk (by simpa using C),D,E⟩
theorem St.vQ {S:BS} {w0 w w':World} {C:List ah} {A N:ah} (h:St S w0 C w) (i:Nat) (hA:C[i]? =some A) (k:bX no w w') (hN:N.holds w') (hf: ∀ b,N.cH b→w.heap.size≤b∨A.cH b∧ ¬ A.wf b∧ ¬ N.wf b):St S w0 (N::C) w':=by
 have h':=h.same k
 have G:=aI hA
 have hi:=(aJ.1 hA).1
 have B:C[i]=A:=(aJ.1 hA).2
 refine ⟨h'.keeps,fun X hX=>?_,List.Pairwise.cons (fun X hX b hb hb'=>?_) h'.sep,fun X hX b hb=>?_,fun X hX b hb=>?_⟩
 ·rcases bE.1 hX with rfl|hX
  ·exact hN
  ·exact h'.holds X hX
 ·rcases hf b hb with E|⟨E,AA,H⟩
  ·have:=X.lt w (h.holds X hX) b hb'; omega
  ·refine ⟨H,?_⟩
   obtain ⟨j,hj,D⟩:=List.mem_iff_getElem.1 hX
   by_cases e:j=i
   ·subst e; rw [← D,B]; exact AA
   ·rcases Nat.lt_or_gt_of_ne e with F|F
    ·have:=da.1 h.sep j i hj hi F b (by rw [D]; exact hb') (by rw [B]; exact E)
     rw [← D]; exact this.1
    ·have:=da.1 h.sep i j hi hj F b (by rw [B]; exact E) (by rw [D]; exact hb')
     rw [← D]; exact this.2
 ·rcases bE.1 hX with rfl|hX
  ·rcases hf b (X.fE b hb) with E|⟨_,_,H⟩
   ·exact .inl (Nat.le_trans h.keeps.size E)
   ·exact absurd hb H
  ·exact h'.own X hX b hb
 ·rcases bE.1 hX with rfl|hX
  ·rcases hf b hb with E|⟨E,_,_⟩
   ·exact .inl (Nat.le_trans h.keeps.size E)
   ·exact h.seen A G b E
  ·exact h'.seen X hX b hb
section
variable {K:Type} [DecidableEq K] {kV:K→Value}
/-- an iterator over a map that is read alone -/
def qM (kV:K→Value) (r b:Nat) (m left:List (K×Value)) (cur:Option (K×Value)):ah where
 cH k:=k=r∨k=b
 wf k:=k=r
 holds w:=r≠b∧ ∃ (es:Array MapEntry) (c since:Nat) (seen:Array Nat) (st:Nat),w.heap[b]? =some (.map es c)∧ef kV es c m∧w.heap[r]? =some (.mapIter (some b) since seen st)∧(∀ e∈es.toList,e.born<since)∧since≤st∧since≤c∧
  (leftOf es seen).toList.map (fun (e:MapEntry)=>(e.key,e.val))=left.map (fun p=>(kV p.1,p.2))∧
  ∀ p,cur=some p→ ∃ (e:MapEntry) (seen0:Array Nat),e∈es.toList∧seen=seen0.push e.born∧st=c∧e.key=kV p.1∧e.val=p.2
 wr:=false
 fE _ h:= .inl h
 whole h:=by cases h
 lt w h k hk:=by
  obtain ⟨_,es,c,since,seen,st,h1,_,h2,_⟩:=h
  rcases hk with rfl|rfl
  ·exact cU h2
  ·exact cU h1
 h_ w w' hk h:=by
  obtain ⟨hne,es,c,since,seen,st,h1,h2,h3,h4⟩:=h
  exact ⟨hne,es,c,since,seen,st,(hk b (.inr rfl)).trans h1,h2,(hk r (.inl rfl)).trans h3,h4⟩
theorem kJ {r b:Nat} {m left:List (K×Value)} {cur:Option (K×Value)}:(∀ w,(qM kV r b m left cur).holds w→(qM kV r b m left none).holds w)∧(∀ k,(qM kV r b m left none).cH k→(qM kV r b m left cur).cH k)∧ ∀ k,(qM kV r b m left none).wf k→(qM kV r b m left cur).wf k:=
 ⟨fun w h=>by
  obtain ⟨A,es,c,since,seen,st,B,C,D,E,F,h5',G,_⟩:=h
  exact ⟨A,es,c,since,seen,st,B,C,D,E,F,h5',G,fun p hp=>by cases hp⟩,fun _ h=>h,fun _ h=>h⟩
section
variable {E:c_} {ops:Array Oper} {Q:bJ} {rest:List Oper} {D:List Deferred} {L:List (Nat×Value)} {C:List ah}
variable {dst:Option Tmp} {d:Nat} {ty:TypeId} {ps:String} {af:Array Edge} {g:Option (Nat×Bool)}
theorem my {t kt et:TypeId} {xm:Operand} {b:Nat} {m:List (K×Value)} {A:ah} (i:Nat) (hg:e6 ops L g=true) (hm:ev L xm=some (.map (some b))) (ht:E.P.underlying t=some (.map kt et)) (hA:C[i]? =some A) (hAf:A.cH b∧ ¬ A.wf b) (hC:j3 C (lY kV b m).holds) (hd:Nat.blt d E.n=true)
 (k: ∀ r,RJ E ops Q rest D ((d,.pointer (some ⟨r,0,none⟩))::L) (qM kV r b m m none::C)):RJ E ops Q (⟨some d,.range t xm,ty,ps,af,g⟩::rest) D L C:=by
 intro a w B hs
 have hd':d<E.n:=by rw [← Nat.blt_eq]; exact hd
 unfold kK
 rw [if_pos (cx B hg)]
 obtain ⟨es,c,he,hi⟩:=hs.has hC
 have G:b<w.heap.size:=cU he
 have F:(getObj b).run E.P w= .ok (.map es c) w:=MapKept.run_getObj_map he
 refine eb (v:= .pointer (some ⟨w.heap.size,0,none⟩)) (w':=w.alloc (.mapIter (some b) c #[] c)) sm ?_ ?_
 ·simp [execOp,Instr.range,B.ev hm,run_underlying ht,F,newObj,Sem.run]
 ·refine k _ _ _ (B.put hd' _) (hs.vQ i hA (bX.alloc no w _) ⟨I,es,c,c,#[],c,?_,hi,heap_alloc_new w _,hi.x_,Nat.le_refl _,Nat.le_refl _,?_,fun p hp=>by cases hp⟩ (fun q hq=>?_))
  ·rw [Below.heap_alloc w _ b G]; exact he
  ·have:leftOf es #[]=es:=by unfold leftOf; exact Array.filter_eq_self.2 sm
   rw [this]; exact hi.list
  ·rcases hq with rfl|rfl
   ·exact .inl (Nat.le_refl _)
   ·refine .inr ⟨hAf.1,hAf.2,fun (e:q=w.heap.size)=>by omega⟩
theorem sg (hinj: ∀ x y,kV x=kV y→x=y) {xi:Operand} {r b:Nat} {m left:List (K×Value)} {cur:Option (K×Value)} (i:Nat) (hg:e6 ops L g=true) (hm:ev L xi=some (.pointer (some ⟨r,0,none⟩))) (hC:C[i]? =some (qM kV r b m left cur)) (hd:Nat.blt d E.n=true)
 (k0:left=[]→RJ E ops Q rest D ((d,.tuple [.bool false].toArray)::L) C)
 (k1: ∀ x v,(x,v)∈left→(left.map (·.1)).Nodup→RJ E ops Q rest D ((d,.tuple [.bool true,kV x,v].toArray)::L) (C.set i (qM kV r b m (dJ left x) (some (x,v))))):
 RJ E ops Q (⟨some d,.next xi false,ty,ps,af,g⟩::rest) D L C:=by
 intro a w G hs
 have hd':d<E.n:=by rw [← Nat.blt_eq]; exact hd
 unfold kK
 rw [if_pos (cx G hg)]
 obtain ⟨R,es,c,since,seen,st,X,hi,Y,J,V,M,A,_⟩:=hs.holds _ (aI hC)
 rcases run_next_at (P:=E.P) w ty r b since st seen es c Y X J V with ⟨Z,hr⟩|⟨e,he,N,H,hr⟩
 ·refine eb (v:= .tuple #[.bool false]) (w':=w) sm ?_ ?_
  ·simp [execOp,G.ev hm,hr]
  ·refine k0 ?_ _ _ (G.put hd' _) hs
   have:(leftOf es seen).toList=[]:=by rw [← List.length_eq_zero_iff,Array.length_toList]; exact Z
   rw [this] at A
   exact List.map_eq_nil_iff.1 A.symm
 ·have O:(e.key,e.val)∈left.map (fun p=>(kV p.1,p.2)):=by rw [← A]; exact bP.2 ⟨e,he,rfl⟩
  obtain ⟨p,hp,S⟩:=bP.1 O
  obtain ⟨x,v⟩:=p
  simp only [Prod.mk.injEq] at S
  obtain ⟨hk,hv⟩:=S
  refine eb (v:= .tuple #[.bool true,e.key,e.val]) (w':=ChangeMaps.setBlock N r (.mapIter (some b) since (seen.push e.born) c)) sm ?_ ?_
  ·simp [execOp,G.ev hm,hr]
  ·rw [← hk,← hv]
   have AA:=qJ hinj hi A
   have F:e∈es.toList:=by unfold leftOf at he; rw [Array.toList_filter] at he; exact (List.mem_filter.1 he).1
   have f:c=c:=rfl
   have B:N.heap=w.heap:=by rcases H with rfl|rfl<;>rfl
   refine k1 x v hp AA _ _ (G.put hd' _) (hs.mv i hC ⟨⟨R,es,c,since,seen.push e.born,c,?_,hi,?_,J,M,M,?_,fun q hq=>?_⟩,?_,fun q hq=> .inl hq,fun q hq=> .inl hq⟩)
   ·show (N.heap.setIfInBounds r _)[b]? =_
    rw [Array.getElem?_setIfInBounds_ne R,B]; exact X
   ·show (N.heap.setIfInBounds r _)[r]? =_
    rw [Array.getElem?_setIfInBounds_self_of_lt (by rw [B]; exact cU Y)]
   ·have T:leftOf es (seen.push e.born)=(leftOf es seen).filter (fun z=> !(z.born==e.born)):=by
     unfold leftOf
     rw [Array.filter_filter]
     congr 1
     funext z
     simp only [Array.contains_push,Bool.not_or]
     rw [Bool.and_comm]
    rw [T,Array.toList_filter]
    have key: ∀ (l:List MapEntry) (ll:List (K×Value)),(∀ z∈l,z∈es.toList)→l.map (fun (e:MapEntry)=>(e.key,e.val))=ll.map (fun p=>(kV p.1,p.2))→
     (l.filter (fun z=> !(z.born==e.born))).map (fun (e:MapEntry)=>(e.key,e.val))=(dJ ll x).map (fun p=>(kV p.1,p.2)):=by
     intro l
     induction l with
     |nil=>intro ll _ h; cases ll with
      |nil=>rfl
      |cons p ll=>simp at h
     |cons z l ih=>
      intro ll hz h
      cases ll with
      |nil=>simp at h
      |cons p ll=>
       simp only [List.map_cons,List.cons.injEq,Prod.mk.injEq] at h
       have ih':=ih ll (fun y hy=>hz y (by simp [hy])) h.2
       have AB:(z.born=e.born)↔(p.1=x):=by
        constructor
        ·intro hb
         have:z=e:=uR hi.born (hz z sm) F hb
         rw [this] at h
         have:=h.1.1.symm.trans hk.symm
         exact hinj _ _ this
        ·intro hx
         have W:z.key=e.key:=by rw [h.1.1,hx,hk]
         rw [th hinj hi (hz z sm) F W]
       unfold dJ at ih' ⊢
       by_cases hx:p.1=x
       ·rw [List.filter_cons_of_neg (by simp [AB.2 hx]),List.filter_cons_of_neg (by simp [hx])]; exact ih'
       ·rw [List.filter_cons_of_pos (by simpa using fun hb=>hx (AB.1 hb)),List.filter_cons_of_pos (by simpa using hx)]
        simp only [List.map_cons,h.1.1,h.1.2,ih']
    exact key _ _ (fun z hz=>by unfold leftOf at hz; rw [Array.toList_filter] at hz; exact (List.mem_filter.1 hz).1) A
   ·cases hq
    exact ⟨e,seen,F,U,U,hk.symm,hv.symm⟩
   ·refine ⟨?_,?_,?_,?_,fun q hq hn=>?_⟩
    ·rcases H with rfl|rfl<;>rfl
    ·rcases H with rfl|rfl<;>rfl
    ·rcases H with rfl|rfl<;>rfl
    ·show w.heap.size≤(N.heap.setIfInBounds r _).size
     simp [B]
    ·show (N.heap.setIfInBounds r _)[q]? =_
     rw [Array.getElem?_setIfInBounds_ne (fun e=>hn e.symm),B]
theorem lD {xi:Operand} {r b:Nat} {m left:List (K×Value)} {x:K} {v:Value} (i:Nat) (hg:e6 ops L g=true) (hm:ev L xi=some (.pointer (some ⟨r,0,none⟩))) (hC:C[i]? =some (qM kV r b m left (some (x,v)))):
 SD E ops ⟨dst,.entry xi,ty,ps,af,g⟩ D L C (.tuple [kV x,v].toArray):=
 cn hg sm fun a w F hs=>by
  obtain ⟨N,es,c,since,seen,st,J,hi,M,H,O,AA,G,B⟩:=hs.holds _ (aI hC)
  obtain ⟨e,A,he,rfl,rfl,hk,hv⟩:=B _ rfl
  have:=run_entry_at (P:=E.P) w r b since A es st e M J he hi.born
  simp [execOp,F.ev hm,this,hk,hv]
theorem lk (hinj: ∀ x y,kV x=kV y→x=y) {β:Type} {f:β→Value} {xi:Operand} {r b:Nat} {m:List (K×Value)} {ll:List (K×β)} {cur:Option (K×Value)} (i:Nat) (hg:e6 ops L g=true) (hm:ev L xi=some (.pointer (some ⟨r,0,none⟩))) (hC:C[i]? =some (qM kV r b m (dv f ll) cur)) (hd:Nat.blt d E.n=true)
 (k0:ll=[]→RJ E ops Q rest D ((d,.tuple [.bool false].toArray)::L) C)
 (k1: ∀ x y,(x,y)∈ll→(ll.map (·.1)).Nodup→RJ E ops Q rest D ((d,.tuple [.bool true,kV x,f y].toArray)::L) (C.set i (qM kV r b m (dv f (dJ ll x)) (some (x,f y))))):
 RJ E ops Q (⟨some d,.next xi false,ty,ps,af,g⟩::rest) D L C:=by
 refine sg hinj i hg hm hC hd (fun h=>k0 (List.map_eq_nil_iff.1 h)) (fun x v B hn=>?_)
 obtain ⟨p,hp,A⟩:=bP.1 B
 simp only [Prod.mk.injEq] at A
 obtain ⟨rfl,rfl⟩:=A
 have:=k1 p.1 p.2 hp (by simpa [dv,Function.comp_def] using hn)
 rwa [l_] at this
end
end
end
section
open Go.RowKit
def yX (b:Bool):List Value:=[.bool b]
@[simp] theorem u7 (b:Bool):(yX b).length=1:=rfl
end
section
theorem TN.sub {E:c_} {ops:Array Oper} {Q:bJ} {D:dH} {C' C1 C:List ah} {tb rem:List Nat}: ∀ {n:Nat} {L L':bT},cE L L'→TN E ops D C' C1 (fun L C=>KJ E (Q .normal) D L C) tb n rem L' C→TN E ops D C' C1 (fun L C=>KJ E (Q .normal) D L C) tb n rem L C:=by
 intro n
 cases n with
 |zero=>intro L L' hs h; exact lu hs (fun _ h=>h) h
 |succ n=>intro L L' hs h i hi o ho K hK; exact wz hs (fun _ h=>h) (h i hi o ho K hK)
theorem vy {E:c_} {ops:Array Oper} {Q:bJ} {D:dH} {C' C1 C:List ah} {bs:List Bool} {os:List Oper} {L:bT} {tb rem:List Nat} {n:Nat} {t:Nat} {b:Bool} (h:L.lookup t=some (.bool b))
 (h1:b=true→iP E ops D C' C1 (fun L'=>TN E ops D C' C1 (fun L C=>KJ E (Q .normal) D L C) tb n rem L' C) bs os ((t,.bool true)::L)) (h2:b=false→iP E ops D C' C1 (fun L'=>TN E ops D C' C1 (fun L C=>KJ E (Q .normal) D L C) tb n rem L' C) bs os ((t,.bool false)::L)):
 iP E ops D C' C1 (fun L'=>TN E ops D C' C1 (fun L C=>KJ E (Q .normal) D L C) tb n rem L' C) bs os L:=by
 have A: ∀ v:Bool,b=v→cE L ((t,.bool v)::L):=fun v hv=>cE.cons (hv▸h) (fun _ _ h=>h)
 cases b
 ·exact iP.mono (fun _ _=>TN.sub) (A _ U) (h2 U)
 ·exact iP.mono (fun _ _=>TN.sub) (A _ U) (h1 U)
/-- what is not asked for any more goes -/
theorem yN {E:c_} {c:Code} {Q:bJ} {D:dH} {L:bT} {C C':List ah} (is:List Nat) (hn:decide is.Nodup=true) (hC:kl C is=C') (h:WJ E c Q D L C'):WJ E c Q D L C:=fun a w hf hs=>h a w hf (St.kl is hn hC hs)
theorem zm {E:c_} {ops:Array Oper} {Q:bJ} {D:List Deferred} {L:List (Nat×Value)} {C1 C2 C:List ah} {t n:Nat} {b:Bool} {bs:List Bool} {os:List Oper} {tb rem:List Nat} (h:L.lookup t=some (.bool b)) (h2:b=false→iP E ops D C2 C1 (fun L2=>TN E ops D C2 C1 (fun L C=>KJ E (Q .normal) D L C) tb n rem L2 C) bs os ((t,.bool false)::L)) (h1:b=true→iP E ops D C2 C1 (fun L2=>TN E ops D C2 C1 (fun L C=>KJ E (Q .normal) D L C) tb n rem L2 C) bs os ((t,.bool true)::L)):iP E ops D C2 C1 (fun L2=>TN E ops D C2 C1 (fun L C=>KJ E (Q .normal) D L C) tb n rem L2 C) bs os L:=vy h h1 h2
end
section
open Go.RowKit
theorem fp (n lo hi:Int):
 dx Tryz.prog 24 [(vI n),(vI lo),(vI hi)] [] (vB (decide (lo≤n∧n≤hi))):=by
 refine bD kr Tryz.func24 U U fun D Q hQ hN=>?_
 try dsimp only
 refine WS fun _ B=>aY 1 U<|RK B<|WS fun _ A=>rP 4 [] mn ?_
 refine ct (t:=10) U (aS fun C=>?_) (aR fun C=>?_)
 ·refine rP 5 [] mn ?_
  refine RK A<|an<|Q1 hQ U U U ?_
  exact cB (dQ.2 I)
 refine rP 5 [] mn ?_
 refine RK A<|an<|Q1 hQ U U U ?_
 exact cB (aQ I).symm
theorem gW (s:al) (lo hi:Int):
 dx Tryz.prog 25 [(vA (al.cells s)),(vI lo),(vI hi)] [] (vB (decide (s.Lo≤s.Hi∧lo≤s.Lo∧s.Hi≤hi))):=by
 refine bD kr Tryz.func25 U U fun E Q hQ hN=>?_
 try dsimp only
 refine WS fun _ B=>fN U fun D=>aY 1 U<|RK B<|WS fun _ A=>gS 5 [] (mc 0 U mn) U<|rS (CL (fp s.Lo lo s.Hi) (aw) U)<|rP 1 [] mn ?_
 refine cK (t:=13) U (aR fun C=>?_) (aS fun C=>?_)
 ·refine rP 6 [] mn ?_
  refine RK A<|an<|Q1 hQ U U U ?_
  exact cB (aQ I).symm
 refine rP 6 [] (mc 0 U mn) ?_
 refine RK A<|an<|Q1 hQ U U U ?_
 exact cB (dQ.2 I)
theorem vd (t:List aa) (tA:OA) (tC:Nat):
 dx Tryz.prog 43 [(vA (ar.cells (ar.mk (bB.mk tA t.length tC))))] [(rd tA t.length 9 (t.map aa.cells))] (vB (decide (20<(t.length:Int)))):=by
 refine bD kr Tryz.func43 U U fun D Q hQ hN=>?_
 try dsimp only
 refine WS fun _ A=>fN U fun C=>aY 1 U<|RK A<|WS fun _ B=>rP 5 [] (mc 0 U mn) ?_
 refine RK B<|an ?_
 exact Q1 hQ U U U U
theorem rr (l:List Int) (lA:OA) (lC:Nat) (f:Value) (p:Int→Bool) (X:ah) (hf: ∀ x0,x0∈l→uU Tryz.prog f [.int .i64 x0] [X] (.bool (p x0))) (hlen:l.length≤1000000):
 dx Tryz.prog 81 [(vS lA l.length lC),f] [(rd lA l.length 1 (l.map iC)),X] (vI (dz p l)):=by
 refine bD kr Tryz.func81 U U fun R Q hQ hN=>?_
 try dsimp only
 refine WS fun _ G=>aY 1 U<|RK G<|ai fun _ H=>WS fun _ AA=>rP 3 [] mn ?_
 refine RK AA<|ay ?_
 have B:(0≤l.length)∧((l.take 0).any p=false):=by simp
 refine bu (ι:={z:Nat // (z≤l.length)∧((l.take z).any p=false)}) [0,1,7] [0,1] U U (fun z=>[(8,(vI (z.1:Int)))]) (fun z=>[]) (fun _=>rfl) (fun _=>rfl) (fun z=>l.length-z.1) ⟨0,B⟩ (a3 U) (aL [0,1]) ?_
 clear B
 rintro ⟨i,⟨N,A⟩⟩ J4 F
 try dsimp only
 refine WS fun _ J=>rP 1 [] mn ?_
 refine RK J<|ai fun _ K=>bq U (aR fun P=>?_) (aS fun P=>?_)
 ·refine bk<|ab<|ab<|ax<|KK H<|WS fun _ E=>rP 1 [] mn ?_
  refine RK E<|an<|Q1 hQ U U U ?_
  exact cI (jO I A).symm
 refine WK K<|ai fun _ L=>ay<|WS fun _ M=>aY 2 U<|RK M<|WS fun _ C=>rP 3 [] mn ?_
 obtain ⟨x,hx⟩:=bh l i I
 have O:=bG iC hx
 refine rS (IA i U (aO 0 U) cL dc I I)<|rS (g5 i 0 (vI x) U cz (aO 0 U) O U dc U)<|rS (SX (jd U U U (hf x (aI hx)) (bg [1])) U U)<|RK C<|cG U (fun hp=>?_) (fun hp=>?_)
 ·refine WS fun _ D=>rP 2 [] mn ?_
  refine RK D<|an<|Q1 hQ U U U ?_
  exact cI (mV hx hp A).symm
 refine cg<|aF<|KK L<|aj<|rP 2 [] mn ?_
 refine aB ?_
 refine aU (F ⟨(i+1),⟨I,oo hx A hp⟩⟩ _ _ _ U os (a3 U) (aL [0,1]))
theorem mE (l:List Int) (lA:OA) (lC:Nat) (f:Value) (p:Int→Bool) (X:ah) (hf: ∀ x0,x0∈l→uU Tryz.prog f [.int .i64 x0] [X] (.bool (p x0))) (hlen:l.length≤1000000):
 dx Tryz.prog 61 [(vS lA l.length lC),f] [(rd lA l.length 1 (l.map iC)),X] (vB (l.any p)):=by
 refine bD kr Tryz.func61 U U fun C Q hQ hN=>?_
 try dsimp only
 refine WS fun _ A=>aY 1 U<|RK A<|WS fun _ B=>aY 2 U<|rS (CL (rr l lA lC f p X (by exact hf) hlen) (bg [0,1]) U)<|rP 2 [] mn ?_
 refine RK B<|an<|Q1 hQ U U U ?_
 exact cB nE
theorem sL (n lo hi:Int) (g1 g2:Nat):
 dx Tryz.prog 72 [(vI n),(vP g1),(vP g2)] [(cv g1 3 [(vI lo)]),(cv g2 3 [(vI hi)])] (vB (decide (n<lo∨hi<n))):=by
 refine bD kr Tryz.func72 U U fun D Q hQ hN=>?_
 try dsimp only
 refine WS fun _ B=>aY 1 U<|RK B<|WS fun _ A=>rP 4 [] (mr 0 U mn) ?_
 refine ct (t:=8) U (aS fun C=>?_) (aR fun C=>?_)
 ·refine rP 5 [] mn ?_
  refine RK A<|an<|Q1 hQ U U U ?_
  exact cB (dm I).symm
 refine rP 5 [] (mr 1 U mn) ?_
 refine RK A<|an<|Q1 hQ U U U ?_
 exact cB (dQ.2 I)
theorem fz (lo hi:Int) (l:List Int) (lA:OA) (lC:Nat) (hlen:l.length≤1000000):
 dx Tryz.prog 48 [(vI lo),(vI hi),(vS lA l.length lC)] [(rd lA l.length 1 (l.map iC))] (vB (nD lo hi l)):=by
 refine bD kr Tryz.func48 U U fun F Q hQ hN=>?_
 try dsimp only
 refine WS fun _ D=>sT U U fun A=>sT U U fun B=>aY 1 U<|RK D<|WS fun _ E=>rP 1 [] mn ?_
 refine rS (FU U) ?_
 refine rS (CL (mE l lA lC (Value.func (.func 72) [].toArray [(vP A),(vP B)].toArray) (fun C=>(decide (C<lo∨hi<C))) (m7 [(cv A 3 [(vI lo)]),(cv B 3 [(vI hi)])]) (by intro C _; exact jY (fi:=[]) (ca:=[(vP A),(vP B)]) (iy (sL C lo hi A B) (bg [0,1]))) hlen) (eB 2 U U<|av (jw (bg [1,0]))<|aw) U) ?_
 refine rP 2 [] mn ?_
 refine RK E<|an ?_
 exact Q1 hQ U U U U
theorem kj (s:al) (lo hi:Int):
 dx Tryz.prog 49 [(vA (al.cells s)),(vI lo),(vI hi)] [] (vB (decide (s.Lo≤s.Hi∧lo≤s.Lo∧s.Hi≤hi))):=by
 refine bD kr Tryz.func49 U U fun F Q hQ hN=>?_
 try dsimp only
 refine WS fun _ B=>fN U fun E=>aY 1 U<|RK B<|WS fun _ A=>rP 6 [] (mc 0 U mn) ?_
 refine df (xs:=[.tmp 10,.tmp 12]) (cs:=[(vI s.Lo),(vI s.Hi)]) U cL gY U U U U (by simp [Value.cells]) U U fun C=>?_
 refine rS (CL (dx.eq (fz lo hi ([s.Lo,s.Hi]) (some ⟨C,0,none⟩) 2 (by (simp; done))) lh) (av (aK 0 U U (by simp [ba]) U)<|aw) U) ?_
 refine rP 1 [] mn ?_
 refine cK (t:=15) U (aR fun D=>?_) (aS fun D=>?_)
 ·refine rP 7 [] mn ?_
  refine RK A<|an<|Q1 hQ U U U ?_
  exact cB (aQ I).symm
 refine rP 7 [] (mc 1 U mn) ?_
 refine RK A<|an<|Q1 hQ U U U ?_
 exact cB (dQ.2 I)
theorem v_ (ts:List aa) (tsA:OA) (tsC:Nat) (hlen:ts.length≤1000000):
 dx Tryz.prog 44 [(vA (ar.cells (ar.mk (bB.mk tsA ts.length tsC))))] [(rd tsA ts.length 9 (ts.map aa.cells))] (vB (a_ ts)):=by
 refine bD kr Tryz.func44 U U fun w0 Q hQ hN=>?_
 try dsimp only
 refine WS fun _ BQ=>fN U fun b2=>aY 1 U<|RK BQ<|ai fun _ BR=>WS fun _ BT=>gS 3 [] (mc 0 U mn) U<|rS (CL (fp (ts.length:Int) 1 12) (aw) U)<|rP 1 [] mn ?_
 refine RK BT<|cG U (aX fun h5=>?_) (aW fun h5=>?_)
 ·refine WS fun _ BU=>rP 1 [] mn ?_
  refine RK BU<|an<|Q1 hQ U U U ?_
  exact cB (gQ I).symm
 refine WK BR<|ai fun _ BV=>WS fun _ BW=>rP 1 [] mn ?_
 refine RK BW<|ay ?_
 have E:(0≤ts.length)∧(bV (-1) ts=bV (db ts 0) (ts.drop 0))∧(-1≤db ts 0):=by (refine ⟨I,rfl,by simp [db]⟩)
 refine bu (ι:={z:Nat // (z≤ts.length)∧(bV (-1) ts=bV (db ts z) (ts.drop z))∧(-1≤db ts z)}) [1] [0,1] U U (fun z=>[(3,(vI (z.1:Int)))]) (fun z=>[]) (fun _=>rfl) (fun _=>rfl) (fun z=>ts.length-z.1) ⟨0,E⟩ (a3 U) (aL [0,1]) ?_
 clear E
 rintro ⟨i,⟨BX,A,BY⟩⟩ J9 D
 try dsimp only
 have hz:i=0→db ts i= -1:=oN
 refine ai fun _ K=>WS fun _ L=>rP 5 [] (mc 0 U mn) ?_
 refine RK L<|bq U (aR fun v=>?_) (aS fun v=>?_)
 ·refine bk<|ab<|ab<|ax<|KK BV<|WS fun _ u=>rP 1 [] mn ?_
  refine RK u<|an<|Q1 hQ U U U ?_
  exact cB (lz A I I).symm
 refine WK K<|ai fun _ C=>ay<|WS fun _ M=>rP 3 [] (mc 0 U mn) ?_
 obtain ⟨x,hx⟩:=bh ts i I
 have BZ:=bG aa.cells hx
 refine rS (IA i U (aO 1 U) kg dc I I)<|rS (mY i 0 (aa.cells x) U cz (aO 1 U) BZ U dc U U)<|AL U xW fun Bu=>gG U zb U<|RK M<|ai fun _ F=>ai fun _ B=>eA dw 38 kr<|kX 2 [] (mc 0 U mn) U<|dS (CL (fp x.Id 0 9999) (aw) U)<|dP 2 [] mn ?_
 refine dU (t:=26) U (aX fun w=>?_) (aW fun w=>?_)
 ·refine gf 11 U<|gf 22 U<|cR<|RK B<|aT U<|WS fun _ N=>rP 1 [] mn ?_
  refine RK N<|an<|Q1 hQ U U U ?_
  exact cB (bR A hx (by simp only [aM,bf]; omega)).symm
 refine dP 3 [] mn ?_
 refine lV (t:=29) U (aR fun AC=>?_) (aS fun AC=>?_)
 ·refine gf 8 U<|gf 6 U<|dS (LP (al.cells x.di) 0 U cz U U U)<|dS (CL (gW x.di 1 30000) (aw) U)<|dP 3 [] mn ?_
  refine dU (t:=48) U (aX fun BD=>?_) (aW fun BD=>?_)
  ·refine gf 11 U<|cR<|RK B<|aT U<|WS fun _ e=>rP 1 [] mn ?_
   refine RK e<|an<|Q1 hQ U U U ?_
   exact cB (bR A hx (by simp only [aM,bf]; omega)).symm
  refine gf 1 U<|dS (LP (al.cells x.dj) 0 U cz U U U)<|dS (CL (gW x.dj 0 5000) (aw) U)<|dP 3 [] mn ?_
  refine dU (t:=54) U (aX fun BE=>?_) (aW fun BE=>?_)
  ·refine gf 5 U<|cR<|RK B<|aT U<|WS fun _ f=>rP 1 [] mn ?_
   refine RK f<|an<|Q1 hQ U U U ?_
   exact cB (bR A hx (by simp only [aM,bf]; omega)).symm
  refine kX 2 [] (mc 0 U mn) U<|dS (CL (fp x.ia 0 5000) (aw) U)<|dP 2 [] mn ?_
  refine cR<|RK B<|cG U (aX fun BF=>?_) (aW fun BF=>?_)
  ·refine WS fun _ g=>rP 1 [] mn ?_
   refine RK g<|an<|Q1 hQ U U U ?_
   exact cB (bR A hx (by simp only [aM,bf]; omega)).symm
  refine WK F<|WS fun _ h=>gS 2 [] (mc 0 U mn) U<|RK h<|ay<|WS fun _ j=>rS (BI U kf)<|rP 1 [] mn ?_
  refine RK j<|cG U (aS fun BG=>?_) (aR fun BG=>?_)
  ·refine WS fun _ AB=>rP 5 [] (mc 0 U mn) ?_
   refine ct (t:=68) U (aX fun BH=>?_) (aW fun BH=>?_)
   ·refine aY 5 U<|RK AB<|aT U<|WS fun _ k=>rP 1 [] mn ?_
    refine RK k<|an<|Q1 hQ U U U ?_
    exact cB (bR A hx (by simp only [aM,bf]; omega)).symm
   refine rP 5 [] (mc 0 U mn) ?_
   refine RK AB<|bq U (aW fun BJ=>?_) (aX fun BJ=>?_)
   ·refine cg<|aF<|aF<|KK C<|aj<|rP 3 [] mn ?_
    refine aB ?_
    refine aU (D ⟨(i+1),⟨I,du A hx (by simp only [aM,bf]; omega),by rw [cZ hx]; omega⟩⟩ _ _ _ U os (a3 U) (aL [1,2]))
   refine WS fun _ l=>rP 1 [] mn ?_
   refine RK l<|an<|Q1 hQ U U U ?_
   exact cB (bR A hx (by simp only [aM,bf]; omega)).symm
  refine ai fun _ J=>WS fun _ m=>rS (BI U kf)<|rP 1 [] mn ?_
  refine RK m<|cG U (aS fun BK=>?_) (aR fun BK=>?_)
  ·refine WK J<|bq U (aR fun BL=>?_) (aS fun BL=>?_)
   ·refine WS fun _ p=>rP 1 [] mn ?_
    refine RK p<|an<|Q1 hQ U U U ?_
    exact cB (gQ I).symm
   refine WS fun _ n=>aY 1 U<|rS (LP (al.cells x.bK) 0 U cz U U U)<|rS (CL (gW x.bK 500 20000) (aw) U)<|rP 1 [] mn ?_
   refine RK n<|bq U (aW fun BN=>?_) (aX fun BN=>?_)
   ·refine cg<|aF<|aF<|KK C<|aj<|rP 3 [] mn ?_
    refine aB ?_
    refine aU (D ⟨(i+1),⟨I,du A hx (by simp only [aM,bf]; omega),by rw [cZ hx]; omega⟩⟩ _ _ _ U os (a3 U) (aL [1,2]))
   refine WS fun _ o=>rP 1 [] mn ?_
   refine RK o<|an<|Q1 hQ U U U ?_
   exact cB (bR A hx (by simp only [aM,bf]; omega)).symm
  refine aj<|rS (BI U kf)<|rP 1 [] mn ?_
  refine RK J<|bq U (aR fun BO=>?_) (aS fun BO=>?_)
  ·refine WS fun _ s=>rP 1 [] mn ?_
   refine RK s<|an<|Q1 hQ U U U ?_
   exact cB (bR A hx (by simp only [aM,bf]; omega)).symm
  refine WS fun _ q=>aY 1 U<|rS (LP (al.cells x.bK) 0 U cz U U U)<|rS (CL (gW x.bK 500 20000) (aw) U)<|rP 1 [] mn ?_
  refine RK q<|bq U (aW fun BP=>?_) (aX fun BP=>?_)
  ·refine cg<|aF<|aF<|KK C<|aj<|rP 3 [] mn ?_
   refine aB ?_
   refine aU (D ⟨(i+1),⟨I,du A hx (by simp only [aM,bf]; omega),by rw [cZ hx]; omega⟩⟩ _ _ _ U os (a3 U) (aL [1,2]))
  refine WS fun _ r=>rP 1 [] mn ?_
  refine RK r<|an<|Q1 hQ U U U ?_
  exact cB (bR A hx (by simp only [aM,bf]; omega)).symm
 refine dP 6 [0,1] (mc 0 U (mc 1 U mn)) ?_
 obtain ⟨y,hy⟩:=bh ts (i-1) I
 have Bs:=bG aa.cells hy
 refine dS (IA (i-1) U (aO 2 U) kg dc I I)<|dS (pB ((i-1)*9) U (aO 2 U) (Nat.mul_pos I dc) fZ U) ?_
 have Bw:=qA I hy
 refine dS (g5 (i-1) 0 (vI y.Id) U cz (aO 2 U) Bs U dc U)<|dP 4 [] mn ?_
 refine dU (t:=42) U (aS fun AQ=>?_) (aR fun AQ=>?_)
 ·refine gf 17 U<|cR<|RK B<|aT U<|WS fun _ O=>rP 1 [] mn ?_
  refine RK O<|an<|Q1 hQ U U U ?_
  exact cB (bR A hx (by simp only [aM,bf]; omega)).symm
 refine gf 1 U<|dS (LP (al.cells x.di) 0 U cz U U U)<|dS (CL (gW x.di 1 30000) (aw) U)<|dP 3 [] mn ?_
 refine dU (t:=48) U (aX fun A0=>?_) (aW fun A0=>?_)
 ·refine gf 11 U<|cR<|RK B<|aT U<|WS fun _ P=>rP 1 [] mn ?_
  refine RK P<|an<|Q1 hQ U U U ?_
  exact cB (bR A hx (by simp only [aM,bf]; omega)).symm
 refine gf 1 U<|dS (LP (al.cells x.dj) 0 U cz U U U)<|dS (CL (gW x.dj 0 5000) (aw) U)<|dP 3 [] mn ?_
 refine dU (t:=54) U (aX fun A1=>?_) (aW fun A1=>?_)
 ·refine gf 5 U<|cR<|RK B<|aT U<|WS fun _ R=>rP 1 [] mn ?_
  refine RK R<|an<|Q1 hQ U U U ?_
  exact cB (bR A hx (by simp only [aM,bf]; omega)).symm
 refine kX 2 [] (mc 0 U mn) U<|dS (CL (fp x.ia 0 5000) (aw) U)<|dP 2 [] mn ?_
 refine cR<|RK B<|cG U (aX fun A2=>?_) (aW fun A2=>?_)
 ·refine WS fun _ S=>rP 1 [] mn ?_
  refine RK S<|an<|Q1 hQ U U U ?_
  exact cB (bR A hx (by simp only [aM,bf]; omega)).symm
 refine WK F<|WS fun _ T=>gS 2 [] (mc 0 U mn) U<|RK T<|ay<|WS fun _ AA=>rS (BI U kf)<|rP 1 [] mn ?_
 refine RK AA<|cG U (aS fun A3=>?_) (aR fun A3=>?_)
 ·refine WS fun _ G=>rP 5 [] (mc 0 U mn) ?_
  refine ct (t:=68) U (aX fun A4=>?_) (aW fun A4=>?_)
  ·refine aY 5 U<|RK G<|aT U<|WS fun _ V=>rP 1 [] mn ?_
   refine RK V<|an<|Q1 hQ U U U ?_
   exact cB (bR A hx (by simp only [aM,bf]; omega)).symm
  refine rP 5 [] (mc 0 U mn) ?_
  refine RK G<|bq U (aW fun A5=>?_) (aX fun A5=>?_)
  ·refine cg<|aF<|aF<|KK C<|aj<|rP 3 [] mn ?_
   refine aB ?_
   refine aU (D ⟨(i+1),⟨I,du A hx (by simp only [aM,bf]; omega),by rw [cZ hx]; omega⟩⟩ _ _ _ U os (a3 U) (aL [1,2]))
  refine WS fun _ W=>rP 1 [] mn ?_
  refine RK W<|an<|Q1 hQ U U U ?_
  exact cB (bR A hx (by simp only [aM,bf]; omega)).symm
 refine ai fun _ H=>WS fun _ X=>rS (BI U kf)<|rP 1 [] mn ?_
 refine RK X<|cG U (aS fun A6=>?_) (aR fun A6=>?_)
 ·refine WK H<|bq U (aR fun A7=>?_) (aS fun A7=>?_)
  ·refine WS fun _ a=>rP 1 [] mn ?_
   refine RK a<|an<|Q1 hQ U U U ?_
   exact cB (gQ I).symm
  refine WS fun _ Y=>aY 1 U<|rS (LP (al.cells x.bK) 0 U cz U U U)<|rS (CL (gW x.bK 500 20000) (aw) U)<|rP 1 [] mn ?_
  refine RK Y<|bq U (aW fun A8=>?_) (aX fun A8=>?_)
  ·refine cg<|aF<|aF<|KK C<|aj<|rP 3 [] mn ?_
   refine aB ?_
   refine aU (D ⟨(i+1),⟨I,du A hx (by simp only [aM,bf]; omega),by rw [cZ hx]; omega⟩⟩ _ _ _ U os (a3 U) (aL [1,2]))
  refine WS fun _ Z=>rP 1 [] mn ?_
  refine RK Z<|an<|Q1 hQ U U U ?_
  exact cB (bR A hx (by simp only [aM,bf]; omega)).symm
 refine aj<|rS (BI U kf)<|rP 1 [] mn ?_
 refine RK H<|bq U (aR fun BB=>?_) (aS fun BB=>?_)
 ·refine WS fun _ d=>rP 1 [] mn ?_
  refine RK d<|an<|Q1 hQ U U U ?_
  exact cB (bR A hx (by simp only [aM,bf]; omega)).symm
 refine WS fun _ b=>aY 1 U<|rS (LP (al.cells x.bK) 0 U cz U U U)<|rS (CL (gW x.bK 500 20000) (aw) U)<|rP 1 [] mn ?_
 refine RK b<|bq U (aW fun BC=>?_) (aX fun BC=>?_)
 ·refine cg<|aF<|aF<|KK C<|aj<|rP 3 [] mn ?_
  refine aB ?_
  refine aU (D ⟨(i+1),⟨I,du A hx (by simp only [aM,bf]; omega),by rw [cZ hx]; omega⟩⟩ _ _ _ U os (a3 U) (aL [1,2]))
 refine WS fun _ c=>rP 1 [] mn ?_
 refine RK c<|an<|Q1 hQ U U U ?_
 exact cB (bR A hx (by simp only [aM,bf]; omega)).symm
theorem oE (ts:List aa) (tsA:OA) (tsC:Nat) (hlen:ts.length≤1000000) (hside: ∀ x∈ts,0≤x.cT∧x.cT≤255):
 dx Tryz.prog 56 [(vA (ar.cells (ar.mk (bB.mk tsA ts.length tsC))))] [(rd tsA ts.length 9 (ts.map aa.cells))] (vI (if a_ ts=true then 0 else 10)):=by
 refine bD kr Tryz.func56 U U fun w0 Q hQ hN=>?_
 try dsimp only
 refine WS fun _ v=>fN U fun b2=>aY 1 U<|RK v<|rL U<|ai fun _ w=>WS fun _ y=>rP 3 [] (mc 0 U mn) ?_
 refine df (xs:=[.tmp 11]) (cs:=[(vI (ts.length:Int))]) U cL gY U U U U (by simp [Value.cells]) U U fun b5=>?_
 refine rS (CL (dx.eq (fz 1 12 ([(ts.length:Int)]) (some ⟨b5,0,none⟩) 1 (by (simp; done))) cA) (av (aK 0 U U (by simp [ba]) U)<|aw) U) ?_
 refine rP 1 [] mn ?_
 refine RK y<|cG U (aX fun h6=>?_) (aW fun h6=>?_)
 ·refine WS fun _ AC=>rP 1 [] mn ?_
  refine RK AC<|an<|Q1 hQ U U U ?_
  exact cI (if_neg (by rw [gQ I]; decide)).symm
 refine WK w<|WS fun _ AQ=>aY 1 U<|RK AQ<|WS fun _ A0=>aY 1 U<|RK A0<|ai fun _ J=>rC<|KK J<|ai fun _ B=>WS fun _ K=>rP 4 [] (mc 1 U mn) ?_
 refine RK K<|ay ?_
 have D:(0≤ts.length)∧(bV (-1) ts=bV (db ts 0) (ts.drop 0))∧(-1≤db ts 0)∧(db ts 0≤9999):=by (refine ⟨I,rfl,by simp [db],by simp [db]⟩)
 refine bu (ι:={z:Nat // (z≤ts.length)∧(bV (-1) ts=bV (db ts z) (ts.drop z))∧(-1≤db ts z)∧(db ts z≤9999)}) [1,4,16,17] [1,2] U U (fun z=>[(3,(vI (db ts z.1))),(18,(vI (z.1:Int)))]) (fun z=>[]) (fun _=>rfl) (fun _=>rfl) (fun z=>ts.length-z.1) ⟨0,D⟩ (a3 U) (aL [1,2]) ?_
 clear D
 rintro ⟨i,⟨A1,A,A2,A3⟩⟩ J13 E
 try dsimp only
 refine WS fun _ L=>rP 1 [] mn ?_
 refine RK L<|ai fun _ M=>bq U (aR fun k=>?_) (aS fun k=>?_)
 ·refine bk<|ab<|ab<|ax<|KK B<|WS fun _ O=>rP 2 [] mn ?_
  refine RK O<|an<|Q1 hQ U U U ?_
  exact cI (if_pos (lz A I I)).symm
 refine WK M<|ai fun _ F=>ay<|WS fun _ N=>?_
 obtain ⟨x,hx⟩:=bh ts i I
 have A4:=bG aa.cells hx
 refine rS (IA i U (aO 1 U) kg dc I I) ?_
 have A8:=hside x (aI hx)
 refine rS (mY i 0 (aa.cells x) U cz (aO 1 U) A4 U dc U U)<|AL U xW fun A5=>gG U zb U<|RK N ?_
 refine rl (ι:=Unit) [1,3,4,6,16,17,18] [0,1,2] U U (fun z=>[(7,(vB (decide (x.cT=0∧x.bK.Lo=0∧x.bK.Hi=0))))]) (fun z=>[]) (fun _=>rfl) (fun _=>rfl) ?_ fun K20 G=>?_
 ·intro _
  try dsimp only
  refine rl (ι:=Unit) [1,3,4,6,7,16,17,18] [0,1,2] U U (fun z=>[(8,(vB (decide ((1≤x.cT∧x.cT≤2)∧x.bK.Lo≤x.bK.Hi∧500≤x.bK.Lo∧x.bK.Hi≤20000))))]) (fun z=>[]) (fun _=>rfl) (fun _=>rfl) ?_ fun K21 H=>?_
  ·intro _
   try dsimp only
   refine ai fun _ AB=>WS fun _ C=>rP 4 [] (mc 0 U mn) ?_
   refine df (xs:=[.tmp 44]) (cs:=[(vI x.Id)]) U cL gY U U U U (by simp [Value.cells]) U U fun h=>?_
   refine rS (CL (dx.eq (fz ((db ts i)+1) 9999 ([x.Id]) (some ⟨h,0,none⟩) 1 (by (simp; done))) cA) (av (aK 0 U U (by simp [ba]) U)<|aw) U) ?_
   refine rP 2 [] mn ?_
   refine ct (t:=48) U (aX fun o=>?_) (aW fun o=>?_)
   ·refine aY 26 U<|RK C<|aT U<|WS fun _ P=>aY 1 U<|RK P<|bk<|ab<|eH U<|ab<|ab<|ax<|KK B<|WS fun _ R=>rP 2 [] mn ?_
    refine RK R<|an<|Q1 hQ U U U ?_
    exact cI (if_neg (by rw [bR A hx (by simp only [aM,bf]; omega)]; decide)).symm
   refine aY 1 U<|rS (LP (al.cells x.di) 1 U cz U U U)<|rS (CL (kj x.di 1 30000) (aw) U)<|rP 3 [] mn ?_
   refine ct (t:=54) U (aX fun p=>?_) (aW fun p=>?_)
   ·refine aY 20 U<|RK C<|aT U<|WS fun _ S=>aY 1 U<|RK S<|bk<|ab<|eH U<|ab<|ab<|ax<|KK B<|WS fun _ T=>rP 2 [] mn ?_
    refine RK T<|an<|Q1 hQ U U U ?_
    exact cI (if_neg (by rw [bR A hx (by simp only [aM,bf]; omega)]; decide)).symm
   refine aY 1 U<|rS (LP (al.cells x.dj) 1 U cz U U U)<|rS (CL (kj x.dj 0 5000) (aw) U)<|rP 3 [] mn ?_
   refine ct (t:=60) U (aX fun q=>?_) (aW fun q=>?_)
   ·refine aY 14 U<|RK C<|aT U<|WS fun _ AA=>aY 1 U<|RK AA<|bk<|ab<|eH U<|ab<|ab<|ax<|KK B<|WS fun _ V=>rP 2 [] mn ?_
    refine RK V<|an<|Q1 hQ U U U ?_
    exact cI (if_neg (by rw [bR A hx (by simp only [aM,bf]; omega)]; decide)).symm
   refine rP 2 [] (mc 1 U mn) ?_
   refine df (xs:=[.tmp 62]) (cs:=[(vI x.ia)]) U cL gY U U U U (by simp [Value.cells]) U U fun j=>?_
   refine rS (CL (dx.eq (fz 0 5000 ([x.ia]) (some ⟨j,0,none⟩) 1 (by (simp; done))) cA) (av (aK 0 U U (by simp [ba]) U)<|aw) U) ?_
   refine rP 3 [] mn ?_
   refine ct (t:=67) U (aX fun r=>?_) (aW fun r=>?_)
   ·refine aY 7 U<|RK C<|aT U<|WS fun _ W=>aY 1 U<|RK W<|bk<|ab<|eH U<|ab<|ab<|ax<|KK B<|WS fun _ X=>rP 2 [] mn ?_
    refine RK X<|an<|Q1 hQ U U U ?_
    exact cI (if_neg (by rw [bR A hx (by simp only [aM,bf]; omega)]; decide)).symm
   refine rP 3 [] mn ?_
   refine cK (t:=70) U (aW fun s=>?_) (aX fun s=>?_)
   ·refine aY 4 U<|RK C<|bp U<|WK AB<|aj<|gS 3 [] (mc 2 U mn) U<|aB<|aF<|KK F<|aj<|rP 2 [] mn ?_
    refine aB ?_
    have f:(vI (db ts (i+1)))=(vI x.Id):=by rw [cZ hx]
    refine aU (E ⟨(i+1),⟨I,du A hx (by simp only [aM,bf]; omega),by rw [cZ hx]; omega,by rw [cZ hx]; omega⟩⟩ _ _ _ U os (bL 4<|aN U f<|a3 U) (aL [3,4]))
   refine rP 4 [] mn ?_
   refine RK C<|bq U (aW fun u=>?_) (aX fun u=>?_)
   ·refine WK AB<|aj<|gS 3 [] (mc 2 U mn) U<|aB<|aF<|KK F<|aj<|rP 2 [] mn ?_
    refine aB ?_
    have e:(vI (db ts (i+1)))=(vI x.Id):=by rw [cZ hx]
    refine aU (E ⟨(i+1),⟨I,du A hx (by simp only [aM,bf]; omega),by rw [cZ hx]; omega,by rw [cZ hx]; omega⟩⟩ _ _ _ U os (bL 4<|aN U e<|a3 U) (aL [3,4]))
   refine WS fun _ Y=>aY 1 U<|RK Y<|bk<|ab<|eH U<|ab<|ab<|ax<|KK B<|WS fun _ Z=>rP 2 [] mn ?_
   refine RK Z<|an<|Q1 hQ U U U ?_
   exact cI (if_neg (by rw [bR A hx (by simp only [aM,bf]; omega)]; decide)).symm
  refine aj<|rP 2 [] (mc 0 U mn) ?_
  refine rS (SX (eK (m:=x.cT) U U rW mZ (dq (by first|assumption|omega))) U U)<|df (xs:=[.tmp 33]) (cs:=[(vI x.cT)]) U cL gY U U U U (by simp [Value.cells]) U U fun g=>?_
  refine rS (CL (dx.eq (fz 1 2 ([x.cT]) (some ⟨g,0,none⟩) 1 (by (simp; done))) cA) (av (aK 0 U U (by simp [ba]) U)<|aw) U) ?_
  refine rP 1 [] mn ?_
  refine cK (t:=36) U (aR fun n=>?_) (aS fun n=>?_)
  ·refine rP 5 [] mn ?_
   refine aB ?_
   have d:(decide ((1≤x.cT∧x.cT≤2)∧x.bK.Lo≤x.bK.Hi∧500≤x.bK.Lo∧x.bK.Hi≤20000))=false:=aQ I
   refine aU (lu (bL 8<|j7 U d<|cE.nil _) (aL [1,2,3]) (H ()))
  refine aY 1 U<|rS (LP (al.cells x.bK) 1 U cz U U U)<|rS (CL (kj x.bK 500 20000) (aw) U)<|rP 2 [] mn ?_
  refine aB ?_
  have c:(decide ((1≤x.cT∧x.cT≤2)∧x.bK.Lo≤x.bK.Hi∧500≤x.bK.Lo∧x.bK.Hi≤20000))=(decide (x.bK.Lo≤x.bK.Hi∧500≤x.bK.Lo∧x.bK.Hi≤20000)):=dQ.2 I
  refine aU (lu (bL 8<|j7 U c<|cE.nil _) (aL [1,2,3]) (H ()))
 refine aj<|gS 2 [] (mc 0 U mn) U<|rS (BI U kf)<|rP 1 [] mn ?_
 refine cK (t:=25) U (aR fun l=>?_) (aS fun l=>?_)
 ·refine rP 6 [] mn ?_
  refine aB ?_
  have b:(decide (x.cT=0∧x.bK.Lo=0∧x.bK.Hi=0))=false:=aQ I
  refine aU (lu (bL 7<|j7 U b<|cE.nil _) (aL [0,1,2]) (G ()))
 refine aY 1 U<|rS (LP (al.cells x.bK) 0 U cz U U U)<|rS (SX (bl (xs:=[]) (cs:=(al.cells (al.mk 0 0))) U U (bm jD U)) U U)<|rS (BI U (yK _ _ x.bK (al.mk 0 0)))<|rP 2 [] mn ?_
 refine aB ?_
 have a:(decide (x.cT=0∧x.bK.Lo=0∧x.bK.Hi=0))=(decide (x.bK=(al.mk 0 0))):=dQ.2 (by (simp only [al.ext_iff] at *; omega))
 refine aU (lu (bL 7<|j7 U a<|cE.nil _) (aL [0,1,2]) (G ()))
theorem wU (ts:List aa) (tsA:OA) (tsC:Nat) (hlen:ts.length≤1000000):
 jH Tryz.prog 28 [(vA (ar.cells (ar.mk (bB.mk tsA ts.length tsC))))] [(rd tsA ts.length 9 (ts.map aa.cells))] (fun (x:(OA)×Nat)=>(vA (ar.cells (ar.mk (bB.mk x.1 ts.length x.2))))) (fun (x:(OA)×Nat)=>True) (fun (x:(OA)×Nat)=>[(own x.1 x.2 85 9 (ts.map aa.cells))]):=by
 refine dh kr Tryz.func28 U U fun H Q hQ hN=>?_
 try dsimp only
 refine WS fun _ A=>fN U fun F=>AL U po fun G=>RK A<|WS fun _ B=>ou U kg U fun E=>rP 2 [] (mc 2 U mn) ?_
 refine eI (es:=(List.map aa.cells [])) (C':=[own (some ⟨E,0,none⟩) 0 85 9 (List.map aa.cells []),_,_,_]) 0 U sm U (by simp [maxLen]) U ?_
 refine dG (es2:=(List.map aa.cells ts)) (m':=ts.length) 0 U U U za U U sm (aO 3 U) (gA _) os (by (simp only [maxLen]; omega)) sm sm U fun C D=>?_
 try dsimp only
 refine rS (SX (bl (xs:=[(0,.tmp 6)]) (cs:=(ar.cells (ar.mk (bB.mk C ts.length D)))) U U (bm rY U)) U U)<|vp U k6 U<|RK B<|an<|LX hQ (C,D) [0] [0] (mc 1 U mn) U U U U ?_
 trivial
theorem gv (la:List Int) (laA:OA) (laC:Nat) (lb:List Int) (lbA:OA) (lbC:Nat) (h1:la.length≤1000000) (h2:lb.length≤1000000):
 dx Tryz.prog 21 [(vS laA la.length laC),(vS lbA lb.length lbC)] [(rd laA la.length 1 (la.map iC)),(rd lbA lb.length 1 (lb.map iC))] (vB (decide (la=lb))):=by
 refine bD kr Tryz.func21 U U fun V Q hQ hN=>?_
 try dsimp only
 refine WS fun _ J=>aY 1 U<|RK J<|ai fun _ K=>WS fun _ L=>rP 5 [] mn ?_
 refine RK L<|cG U (aX fun hl=>?_) (aW fun hl=>?_)
 ·refine WS fun _ M=>rP 1 [] mn ?_
  refine RK M<|an<|Q1 hQ U U U ?_
  exact cB (aQ (fun e=>by subst e; omega)).symm
 refine WK K<|ai fun _ N=>WS fun _ O=>rP 1 [] mn ?_
 refine RK O<|ay ?_
 have A:(0≤la.length)∧(la.take 0=lb.take 0):=by simp
 refine bu (ι:={z:Nat // (z≤la.length)∧(la.take z=lb.take z)}) [0,1] [0,1] U U (fun z=>[(5,(vI (z.1:Int)))]) (fun z=>[]) (fun _=>rfl) (fun _=>rfl) (fun z=>la.length-z.1) ⟨0,A⟩ (a3 U) (aL [0,1]) ?_
 clear A
 rintro ⟨i,⟨S,B⟩⟩ J7 AB
 try dsimp only
 refine ai fun _ P=>WS fun _ R=>rP 4 [] mn ?_
 refine RK R<|bq U (aR fun H=>?_) (aS fun H=>?_)
 ·refine bk<|ab<|ab<|ax<|KK N<|WS fun _ F=>rP 1 [] mn ?_
  refine RK F<|an<|Q1 hQ U U U ?_
  exact cB (dm (tW I B I)).symm
 refine WK P<|ai fun _ C=>ay<|ai fun _ D=>eA dw 9 kr<|dP 2 [] mn ?_
 obtain ⟨x,hx⟩:=bh la i I
 have T:=bG iC hx
 refine dS (IA i U (aO 0 U) cL dc I I)<|dS (g5 i 0 (vI x) U cz (aO 0 U) T U dc U)<|dP 2 [] mn ?_
 obtain ⟨y,hy⟩:=bh lb i I
 have AA:=bG iC hy
 refine dS (IA i U (aO 1 U) cL dc I I)<|dS (g5 i 0 (vI y) U cz (aO 1 U) AA U dc U)<|dP 1 [] mn ?_
 refine cR<|RK D<|cG U (aX fun h=>?_) (aW fun h=>?_)
 ·refine WS fun _ E=>rP 1 [] mn ?_
  refine RK E<|an<|Q1 hQ U U U ?_
  exact cB (aQ (uy hx hy h)).symm
 refine cg<|aF<|KK C<|aj<|rP 3 [] mn ?_
 refine aB ?_
 have G:(vI (((i+1):Nat):Int))=(vI ((i:Int)+1)):=by exact cI I
 refine aU (AB ⟨(i+1),⟨I,ss B hx hy h⟩⟩ _ _ _ U os (cE.cons U<|cE.cons U<|aN U G<|cE.nil _) (aL [0,1]))
end
section
open Go.RowKit
theorem ic (a:al) (l:List al) (lA:OA) (lC:Nat) (ha:gH a) (hl: ∀ z∈l,gH z) (hlen:l.length≤4):
 dx Tryz.prog 79 [(vA (al.cells a)),(vS lA l.length lC)] [(rd lA l.length 2 (l.map al.cells))] (vA (al.cells (eX a l))):=by
 refine bD kr Tryz.func79 U U fun AA Q hQ hN=>?_
 try dsimp only
 refine WS fun _ AB=>fN U fun R=>AL U eG fun T=>RK AB<|ai fun _ J=>WS fun _ K=>rP 3 [] mn ?_
 refine RK K<|ay ?_
 have A:(0≤l.length):=by exact Nat.zero_le _
 refine bu (ι:={z:Nat // (z≤l.length)}) [2,4,7,8] [0,2] U U (fun z=>[(9,(vI (z.1:Int)))]) (fun z=>[(cv R 28 (al.cells (eX a (l.take z.1))))]) (fun _=>rfl) (fun _=>rfl) (fun z=>l.length-z.1) ⟨0,A⟩ (a3 U) (aL [0,2,1]) ?_
 clear A
 rintro ⟨i,N⟩ J6 H
 try dsimp only
 refine WS fun _ L=>rP 1 [] mn ?_
 refine RK L<|ai fun _ M=>bq U (aR fun S=>?_) (aS fun S=>?_)
 ·refine bk<|ab<|ab<|ax<|KK J<|ai fun _ D=>?_
  have G:(al.cells (eX a (l.take i)))=(al.cells (eX a l)):=by rw [uo I]
  rw [G]
  refine aj<|rP 1 [] (mc 2 U mn) ?_
  refine gG U dB U<|RK D<|an ?_
  exact zC hQ [0] (mc 0 U mn) U U
 refine WK M<|ai fun _ B=>ay<|WS fun _ C=>?_
 obtain ⟨x,hx⟩:=bh l i I
 have O:=bG al.cells hx
 refine rS (IA i U (aO 1 U) kx dc I I)<|rS (mY i 0 (al.cells x) U cz (aO 1 U) O U dc U U)<|AL U eG fun P=>gG U dB U<|RK C<|aj ?_
 have hb:=xJ ha hl i
 have hz:=hl x (aI hx)
 unfold gH at hz
 refine rP 10 [0,1,0,1] (mc 3 U (mc 0 U mn)) ?_
 refine rS (SX (bl (xs:=[(0,.tmp 17),(1,.tmp 22)]) (cs:=(al.cells (al.mk (((eX a (l.take i)).Lo)+x.Lo) (((eX a (l.take i)).Hi)+x.Hi)))) U U (bm jD U)) U U)<|tL U dB U<|aB<|aF<|KK B ?_
 have E:(al.cells (al.mk (((eX a (l.take i)).Lo)+x.Lo) (((eX a (l.take i)).Hi)+x.Hi)))=(al.cells (eX a (l.take (i+1)))):=by rw [nH hx]; rfl
 rw [E]
 refine aj<|rP 2 [] mn ?_
 refine aB ?_
 have F:(vI ((i+1):Int))=(vI ((i:Int)+1)):=by exact cI I
 refine aU (H ⟨(i+1),(by first|omega|(simp only []; omega))⟩ _ _ _ U os (bL 4<|aN U F<|cE.nil _) (aL [1,2,3]))
theorem lS (ts:List aa) (tsA:OA) (tsC:Nat) (hlen:ts.length≤1000000) (hside: ∀ x∈ts,0≤x.cT∧x.cT≤255):
 dx Tryz.prog 46 [(vA (ar.cells (ar.mk (bB.mk tsA ts.length tsC))))] [(rd tsA ts.length 9 (ts.map aa.cells))] (vT [(vA (bQ.cells (bQ.mk (ar.mk (bB.mk tsA ts.length tsC))))),(vI (if a_ ts=true then 0 else 10))]):=by
 refine bD kr Tryz.func46 U U fun E Q hQ hN=>?_
 try dsimp only
 refine WS fun _ A=>fN U fun C=>AL U pX fun D=>aY 1 U<|RK A<|ai fun _ B=>eA dw 4 kr<|kX 1 [] (mc 1 U mn) U<|dS (SX (bl (xs:=[(0,.tmp 4)]) (cs:=(bQ.cells (bQ.mk (ar.mk (bB.mk tsA ts.length tsC))))) U U (bm Ac U)) U U)<|kX 1 [] (mc 1 U mn) U<|dS (CL (oE ts tsA tsC hlen hside) (bg [2]) U)<|cR<|gG U qH U<|rP 1 [] mn ?_
 refine RK B<|an ?_
 exact sU hQ [0] (mc 0 U mn) U U
theorem vY (f:Int) (tsA:OA) (tsN tsC:Nat):
 jH Tryz.prog 93 [(vA (bQ.cells (bQ.mk (ar.mk (bB.mk tsA tsN tsC))))),(vI f)] [] (fun (x:Nat×Nat)=>(Value.func (.func 107) [].toArray [(Value.pointer (some ⟨x.1,0,none⟩)),(Value.pointer (some ⟨x.2,0,none⟩))].toArray)) (fun (x:Nat×Nat)=>True) (fun (x:Nat×Nat)=>[(cv x.1 3 [(vI f)]),(cv x.2 59 (bQ.cells (bQ.mk (ar.mk (bB.mk tsA tsN tsC)))))]):=by
 refine dh kr Tryz.func93 U U fun E Q hQ hN=>?_
 try dsimp only
 refine WS fun _ A=>fN U fun C=>sT U U fun D=>aY 1 U<|RK A<|WS fun _ B=>rS (FU U)<|rP 1 [] mn ?_
 refine RK B<|an<|LX hQ (D,C) [0,1] [] mn U U U U ?_
 trivial
theorem sK (ts:List aa) (tsA:OA) (tsC:Nat) (f:Int) (g1 g2:Nat) (hst: ∀ x∈ts,aM x) (hlen:ts.length≤12) (hf:0≤f∧f≤ts.length):
 vc Tryz.prog 107 [] [(vP g1),(vP g2)] [(rd tsA ts.length 9 (ts.map aa.cells)),(cv g1 3 [(vI f)]),(cv g2 59 (bQ.cells (bQ.mk (ar.mk (bB.mk tsA ts.length tsC)))))] (j5 ts f.toNat):=by
 refine rv kr Tryz.func107 U U fun l J Z A0 p Q hY g d hQ hN=>?_
 try dsimp only
 refine WS fun _ h=>AL U eG fun n=>AL U eG fun o=>RK h<|WS fun _ i=>rP 2 [] (mr 4 U mn) ?_
 refine RK i<|ay ?_
 have P:(0≤ts.length-f.toNat)∧(J 0 A0)∧(Fo A0 p A0):=by exact ⟨Nat.zero_le _,g,d⟩
 have m:(vI (f+(0:Int)))=(vI f):=by exact cI I
 refine bu (ι:={z:Nat×ah // (z.1≤ts.length-f.toNat)∧(J z.1 z.2)∧(Fo A0 p z.2)}) [0,1,2,4,5] [3,4,5] U U (fun z=>[(6,(vI (f+(z.1.1:Int))))]) (fun z=>[(cv o 28 (al.cells (dp ts f.toNat z.1.1))),(cv n 28 (al.cells (b_ ts f.toNat z.1.1))),z.1.2]) (fun _=>rfl) (fun _=>rfl) (fun z=>ts.length-f.toNat-z.1.1) ⟨(0,A0),P⟩ (aN U m<|cE.nil _) (aL [3,4,5,0,1,2]) ?_
 clear P
 rintro ⟨⟨k,A⟩,⟨W,R,S⟩⟩ J6 V
 try dsimp only at W R S
 try dsimp only
 refine ai fun _ j=>WS fun _ X=>rP 3 [0,1] (mc 4 U (mc 3 U mn)) ?_
 refine rI 5 hY R S U U U (nb I) U U (fun B9 C B=>?_) (fun B9 C B=>?_)
 rotate_left 1
 ·refine rP 8 [] mn ?_
  refine RK X<|bp U<|bk<|ab<|ab<|ax ?_
  refine hN _ _ _ (fW (vs:=[]) trivial fun w hs=>wE 5 U C B hs)
 refine rP 8 [] (mr 2 U mn) ?_
 refine RK X<|bq U (aR fun c=>?_) (aS fun c=>?_)
 ·refine bk<|ab<|ab<|ax ?_
  refine hN _ _ _ (fW (vs:=[]) trivial fun w hs=>yu 5 U (by rw [kE]; have e:ts.length-f.toNat+1=k+1:=I; rw [e]; exact C) B hs)
 refine WK j<|ai fun _ M=>ay<|rK dw [0,1,2,3,4,5,6,7,10,11,12,13,14,15,16,17] [8,9,18,19,20,21] [true,false,false,false,false,false,false,false,true,false,false,false,false,false,false,false] [8,9,18] [(rd tsA ts.length 9 (ts.map aa.cells)).ro,(cv g1 3 [(vI f)]).ro,(cv g2 59 (bQ.cells (bQ.mk (ar.mk (bB.mk tsA ts.length tsC))))).ro,B9] [(rd tsA ts.length 9 (ts.map aa.cells)).ro,(cv g1 3 [(vI f)]).ro,(cv g2 59 (bQ.cells (bQ.mk (ar.mk (bB.mk tsA ts.length tsC))))).ro,(cv o 28 (al.cells (dp ts f.toNat k))),(cv n 28 (al.cells (b_ ts f.toNat k))),B9] kr (aL [0,1,2,5]) (aL [0,1,2,3,4,5])<|fS U (LW 4 U cz U U)<|eS U (FA 0 U fZ U)<|eS U (FA 0 U fZ U)<|eS U (yr (vS tsA ts.length tsC) 2 U cz U U)<|eS U (MV U) ?_
 obtain ⟨x,hx⟩:=bh ts (f.toNat+k) I
 have a:=bG aa.cells hx
 refine eS U (IA (f.toNat+k) U (aO 0 U) kg dc I I) ?_
 have L:=hst x (aI hx)
 refine eS U (pB (((f.toNat+k)*9)+1) U (aO 0 U) (Nat.mul_pos I dc) fZ U)<|eS U (mY (f.toNat+k) 1 (al.cells x.di) U cz (aO 0 U) a U dc U U)<|fS U (LW 3 U cz U U)<|eS U (FA 0 U fZ U)<|eS U (FA 0 U fZ U)<|eS U (yr (vS tsA ts.length tsC) 2 U cz U U)<|eS U (MV U)<|eS U (IA (f.toNat+k) U (aO 0 U) kg dc I I)<|eS U (pB (((f.toNat+k)*9)+3) U (aO 0 U) (Nat.mul_pos I dc) fZ U)<|eS U (mY (f.toNat+k) 3 (al.cells x.dj) U cz (aO 0 U) a U dc U U)<|fx U<|pO [8,18] kr (mD ?_<|mD ?_<|tG)
 rotate_left 1
 ·refine lH (rem':=[8,9,19,20,21]) U kr fun T14 N=>df (xs:=[.tmp 39]) (cs:=(al.cells x.dj)) U kx eG U U U U (by simp [Value.cells,al.aP]) U U fun T=>aB (N _ _ (aL [1,2,3,6]) (aL [1,2,3,4,5,6]) ?_)
  refine N1 8<|lH (rem':=[9,19,20,21]) U kr fun T16 D=>df (xs:=[.tmp 29]) (cs:=(al.cells x.di)) U kx eG U U U U (by simp [Value.cells,al.aP]) U U fun AA=>aB (D _ _ (aL [2,3,4,7]) (aL [2,3,4,5,6,7]) ?_)
  refine N1 9<|lH (rem':=[19,20,21]) U kr fun T18 O=>?_
  refine rS (CL (dx.eq (ic (b_ ts f.toNat k) ([x.di]) (some ⟨AA,0,none⟩) 1 (by exact jl hst I) (by intro z hz; simp only [cu] at hz; subst hz; exact k9 L) sm) gD) (av (aK 0 rfl rfl (by simp [al.aP]) rfl)<|aw) rfl) ?_
  refine aB (O _ _ (aL [2,3,4,7]) (aL [2,3,4,5,6,7]) ?_)
  refine N1 19<|NO U U [20,21] fun T19 E=>?_
  refine rS (CL (dx.eq (ic (dp ts f.toNat k) ([x.dj]) (some ⟨T,0,none⟩) 1 (by exact mq hst I) (by intro z hz; simp only [cu] at hz; subst hz; exact kQ L) sm) gD) (av (aK 1 rfl rfl (by simp [al.aP]) rfl)<|aw) rfl) ?_
  refine aB (E _ _ (aL [2,3,4,7]) ?_)
  refine N1 20<|NO U U [21] fun T20 F=>Ah U dB U<|aB (F _ _ (aL [2,3,4,7]) ?_)
  refine N1 21<|NO U U [] fun T21 G=>xf U dB U<|aB (G _ _ (aL [2,3,4,7]) ?_)
  refine uB<|aF<|KK M ?_
  have H:(al.cells (eZ (b_ ts f.toNat k) x.di))=(al.cells (b_ ts f.toNat (k+1))):=by rw [iF hx]
  rw [H]
  have AB:(al.cells (eZ (dp ts f.toNat k) x.dj))=(al.cells (dp ts f.toNat (k+1))):=by rw [jV hx]
  rw [AB]
  refine aj<|rP 3 [] mn ?_
  refine aB ?_
  have K:(vI (f+(((k+1):Nat):Int)))=(vI ((f+(k:Int))+1)):=by exact cI I
  refine aU (V ⟨((k+1),B9),⟨I,C,B⟩⟩ _ _ _ U os (bL 5<|aN U K<|cE.nil _) (aL [2,3,4,5,6,7]))
 refine lH (rem':=[9,18,19,20,21]) U kr fun T14 N=>df (xs:=[.tmp 29]) (cs:=(al.cells x.di)) U kx eG U U U U (by simp [Value.cells,al.aP]) U U fun T=>aB (N _ _ (aL [1,2,3,6]) (aL [1,2,3,4,5,6]) ?_)
 refine pO [9,18] kr (mD ?_<|mD ?_<|tG)
 rotate_left 1
 ·refine lH (rem':=[9,19,20,21]) U kr fun T16 D=>df (xs:=[.tmp 39]) (cs:=(al.cells x.dj)) U kx eG U U U U (by simp [Value.cells,al.aP]) U U fun AA=>aB (D _ _ (aL [2,3,4,7]) (aL [2,3,4,5,6,7]) ?_)
  refine N1 9<|lH (rem':=[19,20,21]) U kr fun T18 O=>?_
  refine rS (CL (dx.eq (ic (b_ ts f.toNat k) ([x.di]) (some ⟨T,0,none⟩) 1 (by exact jl hst I) (by intro z hz; simp only [cu] at hz; subst hz; exact k9 L) sm) gD) (av (aK 1 rfl rfl (by simp [al.aP]) rfl)<|aw) rfl) ?_
  refine aB (O _ _ (aL [2,3,4,7]) (aL [2,3,4,5,6,7]) ?_)
  refine N1 19<|NO U U [20,21] fun T19 E=>?_
  refine rS (CL (dx.eq (ic (dp ts f.toNat k) ([x.dj]) (some ⟨AA,0,none⟩) 1 (by exact mq hst I) (by intro z hz; simp only [cu] at hz; subst hz; exact kQ L) sm) gD) (av (aK 0 rfl rfl (by simp [al.aP]) rfl)<|aw) rfl) ?_
  refine aB (E _ _ (aL [2,3,4,7]) ?_)
  refine N1 20<|NO U U [21] fun T20 F=>Ah U dB U<|aB (F _ _ (aL [2,3,4,7]) ?_)
  refine N1 21<|NO U U [] fun T21 G=>xf U dB U<|aB (G _ _ (aL [2,3,4,7]) ?_)
  refine uB<|aF<|KK M ?_
  have H:(al.cells (eZ (b_ ts f.toNat k) x.di))=(al.cells (b_ ts f.toNat (k+1))):=by rw [iF hx]
  rw [H]
  have AB:(al.cells (eZ (dp ts f.toNat k) x.dj))=(al.cells (dp ts f.toNat (k+1))):=by rw [jV hx]
  rw [AB]
  refine aj<|rP 3 [] mn ?_
  refine aB ?_
  have K:(vI (f+(((k+1):Nat):Int)))=(vI ((f+(k:Int))+1)):=by exact cI I
  refine aU (V ⟨((k+1),B9),⟨I,C,B⟩⟩ _ _ _ U os (bL 5<|aN U K<|cE.nil _) (aL [2,3,4,5,6,7]))
 refine lH (rem':=[18,19,20,21]) U kr fun T16 D=>?_
 refine rS (CL (dx.eq (ic (b_ ts f.toNat k) ([x.di]) (some ⟨T,0,none⟩) 1 (by exact jl hst I) (by intro z hz; simp only [cu] at hz; subst hz; exact k9 L) sm) gD) (av (aK 0 rfl rfl (by simp [al.aP]) rfl)<|aw) rfl) ?_
 refine aB (D _ _ (aL [1,2,3,6]) (aL [1,2,3,4,5,6]) ?_)
 refine N1 18<|lH (rem':=[19,20,21]) U kr fun T17 Y=>df (xs:=[.tmp 39]) (cs:=(al.cells x.dj)) U kx eG U U U U (by simp [Value.cells,al.aP]) U U fun b=>aB (Y _ _ (aL [2,3,4,7]) (aL [2,3,4,5,6,7]) ?_)
 refine N1 19<|NO U U [20,21] fun T19 E=>?_
 refine rS (CL (dx.eq (ic (dp ts f.toNat k) ([x.dj]) (some ⟨b,0,none⟩) 1 (by exact mq hst I) (by intro z hz; simp only [cu] at hz; subst hz; exact kQ L) sm) gD) (av (aK 0 rfl rfl (by simp [al.aP]) rfl)<|aw) rfl) ?_
 refine aB (E _ _ (aL [2,3,4,7]) ?_)
 refine N1 20<|NO U U [21] fun T20 F=>Ah U dB U<|aB (F _ _ (aL [2,3,4,7]) ?_)
 refine N1 21<|NO U U [] fun T21 G=>xf U dB U<|aB (G _ _ (aL [2,3,4,7]) ?_)
 refine uB<|aF<|KK M ?_
 have H:(al.cells (eZ (b_ ts f.toNat k) x.di))=(al.cells (b_ ts f.toNat (k+1))):=by rw [iF hx]
 rw [H]
 have AB:(al.cells (eZ (dp ts f.toNat k) x.dj))=(al.cells (dp ts f.toNat (k+1))):=by rw [jV hx]
 rw [AB]
 refine aj<|rP 3 [] mn ?_
 refine aB ?_
 have K:(vI (f+(((k+1):Nat):Int)))=(vI ((f+(k:Int))+1)):=by exact cI I
 refine aU (V ⟨((k+1),B9),⟨I,C,B⟩⟩ _ _ _ U os (bL 5<|aN U K<|cE.nil _) (aL [2,3,4,5,6,7]))
theorem qk (ts:List aa) (tsA:OA) (tsC:Nat) (f t:Int) (hst: ∀ x∈ts,aM x) (hlen:ts.length≤12) (hf:0≤f∧f≤t∧t≤ts.length):
 dx Tryz.prog 78 [(vA (bQ.cells (bQ.mk (ar.mk (bB.mk tsA ts.length tsC))))),(vI f),(vI t)] [(rd tsA ts.length 9 (ts.map aa.cells))] (vT [(vA (al.cells (b_ ts f.toNat (t-f).toNat))),(vA (al.cells (dp ts f.toNat (t-f).toNat)))]):=by
 refine bD kr Tryz.func78 U U fun w0 Q hQ hN=>?_
 try dsimp only
 refine WS fun _ M=>fN U fun a=>sT U U fun b=>sT U U fun d=>AL U eG fun e=>AL U eG fun g=>RK M<|ai fun _ AA=>WS fun _ V=>rP 2 [0,1] (mc 4 U (mc 3 U mn)) ?_
 refine cX (vY f tsA ts.length tsC) (aw) U fun u n=>?_
 obtain ⟨B,C⟩:=u
 try dsimp only
 refine RK V<|ay<|l5 7 U (by exact fun _ h=>h) ?_
 refine rB (L0:=[(3,(vP a)),(4,(vP b)),(5,(vP d)),(6,(vP e)),(7,(vP g))]) (F:=[(rd tsA ts.length 9 (ts.map aa.cells)).ro,(cv B 3 [(vI f)]),(cv C 59 (bQ.cells (bQ.mk (ar.mk (bB.mk tsA ts.length tsC)))))]) (xs:=(j5 ts f.toNat)) (fun k (y:al×al×Int)=>(k≤(t-f).toNat)∧(y.2.2=f+(k:Int))) (fun k y=>[(cv g 28 (al.cells y.2.1)),(cv e 28 (al.cells y.1)),(cv d 3 [(vI t)]),(cv b 3 [(vI y.2.2)]),(cv a 59 (bQ.cells (bQ.mk (ar.mk (bB.mk tsA ts.length tsC))))),(rd tsA ts.length 9 (ts.map aa.cells)).ro]) (fun c (z:Unit)=>(c= .exit 0)) (fun _ z=>[(cv g 28 (al.cells (dp ts f.toNat (t-f).toNat))),(cv e 28 (al.cells (b_ ts f.toNat (t-f).toNat))),(cv d 3 [(vI t)]),(cv b 3 [(vI t)]),(cv a 59 (bQ.cells (bQ.mk (ar.mk (bB.mk tsA ts.length tsC))))),(rd tsA ts.length 9 (ts.map aa.cells)).ro]) [3,4,5,6,7,8] [0,1,2] (eW,eW,f) U U (sK ts tsA tsC f B C (by first|assumption|omega|(simp; done)) (by first|assumption|omega|(simp; done)) I) U U U (by exact ⟨Nat.zero_le _,sm⟩) (by simp only [List.forall_mem_cons,List.not_mem_nil,false_imp_iff,implies_true,and_true]; exact ⟨⟨_,sm,(ff (cD _))⟩,⟨_,sm,(cD _)⟩,⟨_,sm,(cD _)⟩⟩) (by exact ql) U (a3 U) ?_ ?_ ?_ ?_
 rotate_left 1
 ·rintro q ⟨v,z2,m⟩ J
  obtain ⟨A,K⟩:=J
  try dsimp only at A K
  try dsimp only
  exfalso; rw [kE] at A; omega
 ·rintro r id _ Y
  have hc:=Y
  cases hc
  try dsimp only
  refine ax<|KK AA<|ai fun _ D=>dY dw [2,3] [] [] [0,1,2,3,4,5,6,7,8,9] [] U U U U U<|eS U (LW 5 U cz U U)<|eS U (LW 4 U cz U U)<|fx U<|bN U fun T30 E=>xf U dB U<|aB (E _ _ (aL [0,1,2,3,4,5,6,7,8,9]) ?_)
  refine bN U fun T31 G=>AF U dB U<|aB (G _ _ (aL [0,1,2,3,4,5,6,7,8,9]) ?_)
  refine fR U<|KK D<|an<|hQ _ _ _ (qj 0 U U<|fW (vs:=[(vA (al.cells (b_ ts f.toNat (t-f).toNat))),(vA (al.cells (dp ts f.toNat (t-f).toNat)))]) ⟨⟨_,U,.inl ⟨_,_,cz,kO (vs:=(al.cells (b_ ts f.toNat (t-f).toNat))) 5 U U,U,U⟩⟩,⟨_,U,.inl ⟨_,_,cz,kO (vs:=(al.cells (dp ts f.toNat (t-f).toNat))) 4 U U,U,U⟩⟩,trivial⟩ fun w hs=>ua ?_ hs)
  show (vT [(vA (al.cells (b_ ts f.toNat (t-f).toNat))),(vA (al.cells (dp ts f.toNat (t-f).toNat)))])=(vT [(vA (al.cells (b_ ts f.toNat (t-f).toNat))),(vA (al.cells (dp ts f.toNat (t-f).toNat)))])
  clear hs w hQ hN G T31 E T30 D V AA M
  rfl
 ·rintro s _ Z
  cases Z
 rintro k x ⟨v,z2,m⟩ l ra rb S w1 K13 Qr14 hx AB N H L j
 obtain ⟨hk,rfl⟩:=sj hx
 obtain ⟨A,K⟩:=AB
 try dsimp only at A K
 try dsimp only
 refine WS fun _ O=>AL U eG fun o=>gG U dB U<|RK O<|aj<|AL U eG fun p=>gG U dB U<|aB<|lu (fun _ _ h=>h) (aL [2,0,1,3,4,5,6,7,8])<|aU (N _ _ ?_)
 refine ay<|ai fun _ P=>ai fun _ R=>dY dw [2,3] [] [] [0,1,2,5,6,7,8] [] U U U U U<|eS U (LW 2 U cz U U)<|eS U (LW 1 U cz U U)<|fx U<|bN U fun T21 W=>AF U dB U<|aB (W _ _ (aL [0,1,2,5,6,7,8]) ?_)
 refine bN U fun T22 X=>tL U dB U<|aB (X _ _ (aL [0,1,2,5,6,7,8]) ?_)
 refine fR U<|KK R<|WS fun _ T=>rP 3 [0,1] (mc 6 U (mc 5 U mn)) ?_
 refine RK T<|cG U (aS fun i=>?_) (aR fun i=>?_)
 ·refine bk<|ab<|eH U ?_
  rw [show m=t from by omega]
  obtain rfl:k=(t-f).toNat:=by omega
  exact L _ () _ _ (by exact U) (aL [0,3,4,5,6,7,8])
 refine WK P<|aj<|rP 2 [] (mc 6 U mn) ?_
 refine Bo U qh U U<|aB<|aF ?_
 exact H ((b_ ts f.toNat k),(dp ts f.toNat k),(m+1)) _ _ (by refine ⟨I,?_⟩; dsimp only; omega) (aL [0,3,4,5,6,7,8])
theorem x7 (ts:List aa) (tsA:OA) (tsC:Nat) (f t:Int) (hlen:ts.length≤1000000) (hside: ∀ x∈ts,0≤x.cT∧x.cT≤255):
 dx Tryz.prog 86 [(vA (ar.cells (ar.mk (bB.mk tsA ts.length tsC)))),(vI f),(vI t)] [(rd tsA ts.length 9 (ts.map aa.cells))] (vT [(vA (al.cells (nw ts f t))),(vA (al.cells (m8 ts f t))),(vI (iM ts f t))]):=by
 refine bD kr Tryz.func86 U U fun Y Q hQ hN=>?_
 try dsimp only
 refine WS fun _ M=>fN U fun AA=>AL U eG fun V=>AL U eG fun W=>aY 1 U<|RK M<|WS fun _ N=>gS 1 [] (mc 2 U mn) U<|rS (CL (lS ts tsA tsC hlen hside) (bg [3]) U)<|aY 3 U<|AL U pX fun X=>gG U qH U<|aY 1 U<|RK N<|ai fun _ O=>WS fun _ P=>rP 2 [] mn ?_
 refine RK P<|cG U (aX fun he=>?_) (aW fun he=>?_)
 ·refine WS fun _ R=>rS (SX (bl (xs:=[]) (cs:=(al.cells (al.mk 0 0))) U U (bm jD U)) U U)<|rS (SX (bl (xs:=[]) (cs:=(al.cells (al.mk 0 0))) U U (bm jD U)) U U)<|aY 1 U<|u1 U dB U<|vp U dB U<|rP 1 [] mn ?_
  refine RK R<|an<|sU hQ [0,1] (mc 2 U (mc 1 U mn)) U ?_
  first|(have e:=jn (f:=f) (t:=t) (dn he).1; rw [e.1,e.2.1,e.2.2,(dn he).2]; rfl)|(have e:=jo (f:=f) (t:=t) A I; rw [e.1,e.2.1,e.2.2]; rfl)|(have e:=iX (f:=f) (t:=t) A I; rw [e.1,e.2.1,e.2.2])
 refine WK O<|ai fun _ C=>WS fun _ B=>?_
 have A:=n9 he
 have T:=cP A
 have S:=dy A
 refine rP 5 [] (mc 3 U mn) ?_
 refine df (xs:=[.tmp 23,.tmp 24]) (cs:=[(vI f),(vI t)]) U cL gY U U U U (by simp [Value.cells]) U U fun J=>?_
 refine rS (CL (dx.eq (fz 0 (ts.length:Int) ([f,t]) (some ⟨J,0,none⟩) 2 sd) lh) (av (aK 0 U U (by simp [ba]) U)<|aw) U) ?_
 refine rP 2 [] mn ?_
 refine ct (t:=28) U (aX fun K=>?_) (aW fun K=>?_)
 ·refine aY 4 U<|RK B<|aT U<|WS fun _ D=>rS (SX (bl (xs:=[]) (cs:=(al.cells (al.mk 0 0))) U U (bm jD U)) U U)<|rS (SX (bl (xs:=[]) (cs:=(al.cells (al.mk 0 0))) U U (bm jD U)) U U)<|tL U dB U<|u1 U dB U<|rP 1 [] mn ?_
  refine RK D<|an<|sU hQ [0,1] (mc 3 U (mc 2 U mn)) U ?_
  first|(have e:=jn (f:=f) (t:=t) (dn he).1; rw [e.1,e.2.1,e.2.2,(dn he).2]; rfl)|(have e:=jo (f:=f) (t:=t) A I; rw [e.1,e.2.1,e.2.2]; rfl)|(have e:=iX (f:=f) (t:=t) A I; rw [e.1,e.2.1,e.2.2])
 refine rP 4 [] mn ?_
 refine RK B<|cG U (aS fun L=>?_) (aR fun L=>?_)
 ·refine WS fun _ E=>rS (SX (bl (xs:=[]) (cs:=(al.cells (al.mk 0 0))) U U (bm jD U)) U U)<|rS (SX (bl (xs:=[]) (cs:=(al.cells (al.mk 0 0))) U U (bm jD U)) U U)<|tL U dB U<|u1 U dB U<|rP 1 [] mn ?_
  refine RK E<|an<|sU hQ [0,1] (mc 3 U (mc 2 U mn)) U ?_
  first|(have e:=jn (f:=f) (t:=t) (dn he).1; rw [e.1,e.2.1,e.2.2,(dn he).2]; rfl)|(have e:=jo (f:=f) (t:=t) A I; rw [e.1,e.2.1,e.2.2]; rfl)|(have e:=iX (f:=f) (t:=t) A I; rw [e.1,e.2.1,e.2.2])
 refine WK C<|WS fun _ F=>rP 3 [] (mc 1 U mn) ?_
 refine rS (CL (qk ts tsA tsC f t sd sd sd) (bg [5]) U) ?_
 refine rP 3 [] mn ?_
 refine tL U dB U<|u1 U dB U<|RK F<|ai fun _ G=>dY dw [2,3] [] [] [0,1,2,3,4,5] [] U U U U U<|eS U (LW 3 U cz U U)<|eS U (LW 2 U cz U U)<|eS U (AG U)<|fx U<|bN U fun T17 H=>tL U dB U<|aB (H _ _ (aL [0,1,2,3,4,5]) ?_)
 refine bN U fun T18 AB=>u1 U dB U<|aB (AB _ _ (aL [0,1,2,3,4,5]) ?_)
 refine fR U<|KK G<|an<|sU hQ [0,1] (mc 3 U (mc 2 U mn)) U ?_
 first|(have e:=jn (f:=f) (t:=t) (dn he).1; rw [e.1,e.2.1,e.2.2,(dn he).2]; rfl)|(have e:=jo (f:=f) (t:=t) A I; rw [e.1,e.2.1,e.2.2]; rfl)|(have e:=iX (f:=f) (t:=t) A I; rw [e.1,e.2.1,e.2.2])
end
section
open Go.RowKit
theorem rX (i:Int) (s:aG) (ts:List aa) (tsA:OA) (tsC g1:Nat) (hst: ∀ x∈ts,aM x) (hlen:ts.length≤12):
 dx Tryz.prog 92 [(vI i),(vA (aG.cells s)),(vP g1)] [(rd tsA ts.length 9 (ts.map aa.cells)),(cv g1 59 (bQ.cells (bQ.mk (ar.mk (bB.mk tsA ts.length tsC)))))] (vB (!(decide (bS ts s)))):=by
 refine bD kr Tryz.func92 U U fun AA Q hQ hN=>?_
 try dsimp only
 refine WS fun _ C=>fN U fun G=>rP 1 [] mn ?_
 refine RK C<|ai fun _ A=>rK dw [0,1,2,3,4,5,6] [7,8,9,10,11,12,13,14,15,16,17,18,19,20,21,22,23,24,25,26] [false,false,false,false,false,false,false] [] [(cv G 30 (aG.cells s)),(rd tsA ts.length 9 (ts.map aa.cells)).ro,(cv g1 59 (bQ.cells (bQ.mk (ar.mk (bB.mk tsA ts.length tsC))))).ro] [] kr (aL [0,1,2]) (aL [])<|eS U (FA 0 U fZ U)<|eS U (FA 0 U fZ U)<|eS U (yr (vS tsA ts.length tsC) 2 U cz U U)<|eS U (LN U xw)<|eS U (BI U (q7 ⟨I,I⟩))<|eS U (FA 0 U fZ U)<|eS U (L1 (vI s.ao) 0 U cz U U)<|fx U<|N1 7<|NO U U [8,9,10,11,12,13,14,15,16,17,18,19,20,21,22,23,24,25,26] fun T4 D=>df (xs:=[.tmp 12]) (cs:=[(vI s.ao)]) U cL gY U U U U (by simp [Value.cells]) U U fun H=>RD D 1 U<|xH [14,15,16,17,18,19,20,21,22,23,24,25,26,27,28,29,30,31,5] kr kr U _ U U (aL [1,2,3]) ?_
 refine dS (CL (dx.eq (fz 0 ((ts.length:Int)-1) ([s.ao]) (some ⟨H,0,none⟩) 1 (by (simp; done))) cA) (av (aK 0 U U (by simp [ba]) U)<|aw) U) ?_
 refine dP 2 [] mn ?_
 refine dU (t:=16) U (aX fun B=>?_) (aW fun B=>?_)
 ·refine gf 9 U<|dP 7 [] mn ?_
  refine cR<|RK A<|an<|Q1 hQ U U U ?_
  (refine cB ?_; rw [aQ (oI I)]; rfl)
 refine gf 1 U<|dS (LP (al.cells s.gO) 1 U cz U U U)<|dP 5 [0,1] (mr 3 U (mc 1 U mn)) ?_
 obtain ⟨x,hx⟩:=bh ts ((s.ao).toNat) I
 have E:=bG aa.cells hx
 refine dS (IA ((s.ao).toNat) U (aO 2 U) kg dc I I)<|dS (pB ((((s.ao).toNat)*9)+1) U (aO 2 U) (Nat.mul_pos I dc) fZ U) ?_
 have F:=(hst x (aI hx)).2.1
 simp only [bf] at F
 refine dS (pB ((((s.ao).toNat)*9)+1) U (aO 2 U) (Nat.mul_pos I dc) fZ U)<|dS (g5 ((s.ao).toNat) 1 (vI x.di.Lo) U cz (aO 2 U) E U dc U)<|gf 1 U<|dS (CL (kj s.gO 0 (x.di.Lo-1)) (aw) U)<|dP 3 [] mn ?_
 refine cR<|RK A<|an<|Q1 hQ U U U ?_
 exact congrArg (fun b=>vB (!b)) (dQ.2 (oT I hx).symm)
theorem qp (l:List aG) (lA:OA) (lC:Nat) (f:Value) (p:Int→aG→Bool) (X:ah) (hf: ∀ x0 x1,(∃ k:Nat,x0=(k:Int)∧l[k]? =some x1)→uU Tryz.prog f [.int .i64 x0,.agg (aG.cells x1).toArray] [X] (.bool (p x0 x1))) (hlen:l.length≤1000000):
 jH Tryz.prog 91 [(vS lA l.length lC),f] [(rd lA l.length 3 (l.map aG.cells)),X] (fun (x:(OA)×Nat)=>(vS x.1 ((ti (fun jj yy=>p (jj:Int) yy) l).length) x.2)) (fun (x:(OA)×Nat)=>True) (fun (x:(OA)×Nat)=>[(own x.1 x.2 3 1 ((ti (fun jj yy=>p (jj:Int) yy) l).map iC))]):=by
 refine dh kr Tryz.func91 U U fun W Q hQ hN=>?_
 try dsimp only
 refine WS fun _ L=>aY 1 U<|RK L<|WS fun _ M=>aY 1 U<|RK M<|ai fun _ N=>WS fun _ O=>rP 3 [] mn ?_
 refine RK O<|ay<|ep 3 1 ?_
 have A:(0≤l.length):=by exact Nat.zero_le _
 refine bu (ι:={z:Nat×(OA)×Nat // (z.1≤l.length)}) [0,1,8,9] [1,2] U U (fun z=>[(5,(vS z.1.2.1 ((jN (fun jj yy=>p (jj:Int) yy) l z.1.1).length) z.1.2.2)),(10,(vI (z.1.1:Int)))]) (fun z=>[(own z.1.2.1 z.1.2.2 3 1 ((jN (fun jj yy=>p (jj:Int) yy) l z.1.1).map iC))]) (fun _=>rfl) (fun _=>rfl) (fun z=>l.length-z.1.1) ⟨(0,none,0),A⟩ (a3 U) (aL [1,2,0]) ?_
 clear A
 rintro ⟨⟨i,a,c⟩,B⟩ J5 C
 try dsimp only at B
 try dsimp only
 refine WS fun _ P=>rP 1 [] mn ?_
 refine RK P<|ai fun _ R=>bq U (aR fun V=>?_) (aS fun V=>?_)
 ·refine bk<|ab<|ab<|ax<|KK N<|WS fun _ F=>?_
  rw [vl (p:=fun (i:Nat) x=>p (i:Int) x) (show i=l.length by omega)]
  refine rP 2 [] mn ?_
  refine RK F<|an<|LX hQ (a,c) [2] [] mn U U U U ?_
  trivial
 refine WK R<|ai fun _ G=>ay<|WS fun _ D=>rP 1 [] mn ?_
 obtain ⟨x,hx⟩:=bh l i I
 have S:=bG aG.cells hx
 refine rS (IA i U (aO 0 U) mg dc I I)<|rS (mY i 0 (aG.cells x) U cz (aO 0 U) S U dc U U)<|AL U tJ fun T=>aY 1 U<|gG U zK U<|RK D<|WS fun _ E=>rP 3 [] (mc 0 U mn) ?_
 refine rS (SX (jd U U U (hf (i:Int) x ⟨i,U,hx⟩) (bg [2])) U U)<|RK E<|bq U (fun hp=>?_) (fun hp=>?_)
 ·refine cg<|aF<|KK G<|aj ?_
  rw [← vo (p:=fun (i:Nat) x=>p (i:Int) x) hx hp]
  refine rP 2 [] mn ?_
  refine aB ?_
  have AB:(vI (((i+1):Nat):Int))=(vI ((i:Int)+1)):=by exact cI I
  refine aU (C ⟨((i+1),a,c),(by first|omega|(simp only []; omega))⟩ _ _ _ U os (bL 5<|aN U AB<|cE.nil _) (aL [1,2,3]))
 refine aj<|rP 2 [] mn ?_
 refine df (xs:=[.tmp 20]) (cs:=[(vI (i:Int))]) U cL gY U U U U (by simp [Value.cells]) U U fun AA=>?_
 refine dG (es2:=(List.map iC (jN (fun jj yy=>p (jj:Int) yy) l (i+1)))) (m':=(jN (fun jj yy=>p (jj:Int) yy) l (i+1)).length) 4 U U U mo U U sm (aK (es:=List.map iC [(i:Int)]) 0 U U (by simp [ba]) U) (gX _) (by have:=o3 (p:=fun (i:Nat) x=>p (i:Int) x) (l:=l) (n:=i); simp; omega) (by have:=o3 (p:=fun (i:Nat) x=>p (i:Int) x) (l:=l) (n:=i); simp only [maxLen]; omega) (by rw [tH hx hp]; simp) sm U fun J K=>?_
 try dsimp only
 refine aY 1 U<|aB<|aF<|KK G<|aj<|rP 2 [] mn ?_
 refine aB ?_
 have H:(vI (((i+1):Nat):Int))=(vI ((i:Int)+1)):=by exact cI I
 refine aU (C ⟨((i+1),J,K),(by first|omega|(simp only []; omega))⟩ _ _ _ U os (bL 5<|aN U H<|cE.nil _) (aL [2,3,4]))
theorem oB (ts:List aa) (tsA:OA) (tsC:Nat) (l:List aG) (lA:OA) (lC:Nat) (hst: ∀ x∈ts,aM x) (hlen:ts.length≤12) (hl:l.length≤4):
 dx Tryz.prog 77 [(vA (bQ.cells (bQ.mk (ar.mk (bB.mk tsA ts.length tsC))))),(vS lA l.length lC)] [(rd tsA ts.length 9 (ts.map aa.cells)),(rd lA l.length 3 (l.map aG.cells))] (vB (decide (∀ s∈l,bS ts s))):=by
 refine bD kr Tryz.func77 U U fun J Q hQ hN=>?_
 try dsimp only
 refine WS fun _ B=>fN U fun A=>aY 1 U<|RK B<|WS fun _ C=>rP 1 [] mn ?_
 refine rS (FU U) ?_
 refine cX (qp l lA lC (Value.func (.func 92) [].toArray [(vP A)].toArray) (fun E D=>(!(decide (bS ts D)))) (m7 [(rd tsA ts.length 9 (ts.map aa.cells)),(cv A 59 (bQ.cells (bQ.mk (ar.mk (bB.mk tsA ts.length tsC)))))]) (by intro E D _; exact jY (fi:=[]) (ca:=[(vP A)]) (iy (rX E D ts tsA tsC A (by first|assumption|omega) (by first|assumption|omega)) (bg [0,1]))) I) (eB 2 U U<|av (jw (bg [1,0]))<|aw) U fun G F=>?_
 obtain ⟨H,AA⟩:=G
 try dsimp only
 refine rP 3 [] mn ?_
 refine RK C<|an<|Q1 hQ U U U ?_
 exact congrArg Value.bool (decide_eq_decide.2 (by rw [show ∀ n:Nat,((n:Int)=0)↔n=0 from fun n=>by omega,si]; simp only [Bool.not_eq_false',decide_eq_true_eq]; exact ⟨fun h s hs=>by obtain ⟨k,hk⟩:=List.getElem?_of_mem hs; exact h k s hk,fun h k s hk=>h s (List.mem_of_getElem? hk)⟩))
theorem pY (z:al) (hz:gH z):
 dx Tryz.prog 94 [(vA (al.cells z))] [] (vA (al.cells (fY z))):=by
 unfold gH at hz
 refine bD kr Tryz.func94 U U fun E Q hQ hN=>?_
 try dsimp only
 refine WS fun _ A=>fN U fun C=>AL U eG fun D=>RK A<|WS fun _ B=>gS 2 [] (mc 1 U mn) U<|rS (NG U ⟨I,I⟩)<|rP 2 [] (mc 1 U mn) ?_
 refine rS (NG U ⟨I,I⟩)<|rS (SX (bl (xs:=[(0,.tmp 5),(1,.tmp 8)]) (cs:=(al.cells (al.mk (-z.Hi) (-z.Lo)))) U U (bm jD U)) U U)<|gG U dB U<|RK B<|an ?_
 exact zC hQ [0] (mc 0 U mn) U U
theorem z8 (ts:List aa) (tsA:OA) (tsC:Nat) (s:aG) (hlen:ts.length≤1000000) (hside: ∀ x∈ts,0≤x.cT∧x.cT≤255):
 dx Tryz.prog 58 [(vA (ar.cells (ar.mk (bB.mk tsA ts.length tsC)))),(vA (aG.cells s))] [(rd tsA ts.length 9 (ts.map aa.cells))] (vT [(vA (al.cells (ya ts s))),(vI (sb ts s))]):=by
 refine bD kr Tryz.func58 U U fun Z Q hQ hN=>?_
 try dsimp only
 refine WS fun _ K=>fN U fun V=>fN U fun W=>AL U eG fun X=>aY 1 U<|RK K<|WS fun _ L=>gS 1 [] (mc 2 U mn) U<|rS (CL (lS ts tsA tsC hlen hside) (bg [3]) U)<|aY 3 U<|AL U pX fun Y=>gG U qH U<|aY 1 U<|RK L<|ai fun _ M=>WS fun _ N=>rP 2 [] mn ?_
 refine RK N<|cG U (aX fun he=>?_) (aW fun he=>?_)
 ·refine WS fun _ O=>rS (SX (bl (xs:=[]) (cs:=(al.cells (al.mk 0 0))) U U (bm jD U)) U U)<|aY 1 U<|vp U dB U<|rP 1 [] mn ?_
  refine RK O<|an<|sU hQ [0] (mc 1 U mn) U ?_
  (have e:=w9 (s:=s) (dn he).1; rw [e.1,e.2,(dn he).2]<;>rfl)
 refine WK M<|ai fun _ C=>WS fun _ D=>?_
 have B:=n9 he
 have H:=cP B
 have R:=dy B
 refine rP 2 [0,1] (mc 0 U (mc 2 U mn)) ?_
 refine df (xs:=[.tmp 20]) (cs:=(aG.cells s)) U mg tJ U U U U (by simp [Value.cells,aG.aP]) U U fun AB=>?_
 refine rS (CL (dx.eq (oB ts tsA tsC ([s]) (some ⟨AB,0,none⟩) 1 asm asm (by (simp; done))) pS) (eB 5 U U<|av (aK 0 U U (by simp [aG.aP]) U)<|aw) U) ?_
 refine rP 1 [] mn ?_
 refine RK D<|cG U (aX fun A=>?_) (aW fun A=>?_)
 ·refine WS fun _ E=>rS (SX (bl (xs:=[]) (cs:=(al.cells (al.mk 0 0))) U U (bm jD U)) U U)<|u1 U dB U<|rP 1 [] mn ?_
  refine RK E<|an<|sU hQ [0] (mc 2 U mn) U ?_
  (have e:=xZ B A; rw [e.1,e.2]<;>rfl)
 refine WK C<|WS fun _ F=>?_
 have AA:=A.1
 have P:=qo H A
 refine gS 3 [0,1] (mc 1 U (mc 3 U mn)) U<|rS (CL (qk ts tsA tsC 0 s.ao asm asm I) (bg [5]) U)<|aY 3 U<|AL U eG fun S=>AL U eG fun T=>vp U dB U<|gG U dB U<|RK F<|WS fun _ G=>rP 2 [] (mc 1 U mn) ?_
 refine rS (LP (al.cells s.gO) 5 U cz U U U)<|df (xs:=[.tmp 34]) (cs:=(al.cells s.gO)) U kx eG U U U U (by simp [Value.cells,al.aP]) U U fun J=>?_
 refine rS (CL (dx.eq (ic (b_ ts (0:Int).toNat (s.ao-0).toNat) ([s.gO]) (some ⟨J,0,none⟩) 1 (by exact jl H I) (by intro z hz; simp only [cu] at hz; subst hz; exact P) sm) gD) (av (aK 0 rfl rfl (by simp [al.aP]) rfl)<|aw) rfl) ?_
 refine xf U dB U<|rP 1 [] mn ?_
 refine RK G<|an<|sU hQ [0] (mc 5 U mn) U ?_
 (have e:=yj B A; rw [e.1,e.2]; unfold AO; rw [show (s.ao-0).toNat=s.ao.toNat by rw [Int.sub_zero]]<;>rfl)
theorem nX (ts:List aa) (tsA:OA) (tsC:Nat) (p:aG) (q:aG) (hlen:ts.length≤1000000) (hside: ∀ x∈ts,0≤x.cT∧x.cT≤255):
 dx Tryz.prog 83 [(vA (ar.cells (ar.mk (bB.mk tsA ts.length tsC)))),(vA (aG.cells p)),(vA (aG.cells q))] [(rd tsA ts.length 9 (ts.map aa.cells))] (vT [(vA (al.cells (dL ts p q))),(vI (gr ts p q))]):=by
 refine bD kr Tryz.func83 U U fun w Q hQ hN=>?_
 try dsimp only
 refine WS fun _ c=>fN U fun r=>fN U fun s=>fN U fun t=>AL U eG fun u=>aY 1 U<|RK c<|WS fun _ d=>gS 1 [] (mc 3 U mn) U<|rS (CL (lS ts tsA tsC hlen hside) (bg [4]) U)<|aY 3 U<|AL U pX fun v=>gG U qH U<|aY 1 U<|RK d<|ai fun _ g=>WS fun _ h=>rP 2 [] mn ?_
 refine RK h<|cG U (aX fun he=>?_) (aW fun he=>?_)
 ·refine WS fun _ G=>rS (SX (bl (xs:=[]) (cs:=(al.cells (al.mk 0 0))) U U (bm jD U)) U U)<|aY 1 U<|vp U dB U<|rP 1 [] mn ?_
  refine RK G<|an<|sU hQ [0] (mc 1 U mn) U ?_
  (have e:=r6 (a:=p) (b:=q) (dn he).1; rw [e.1,e.2,(dn he).2]<;>rfl)
 refine WK g<|ai fun _ H=>WS fun _ AB=>?_
 have A:=n9 he
 have F:=cP A
 have j:=dy A
 refine rP 3 [0,1,2] (mc 0 U (mc 3 U (mc 2 U mn))) ?_
 refine df (xs:=[.tmp 22,.tmp 23]) (cs:=((aG.cells p)++(aG.cells q))) U mg tJ U U U U (by simp [Value.cells,aG.aP]) U U fun X=>?_
 refine rS (CL (dx.eq (oB ts tsA tsC ([p,q]) (some ⟨X,0,none⟩) 2 asm asm (by (simp; done))) pK) (eB 6 U U<|av (aK 0 U U (by simp [aG.aP]) U)<|aw) U) ?_
 refine rP 1 [] mn ?_
 refine RK AB<|cG U (aX fun D=>?_) (aW fun D=>?_)
 ·refine WS fun _ J=>rS (SX (bl (xs:=[]) (cs:=(al.cells (al.mk 0 0))) U U (bm jD U)) U U)<|u1 U dB U<|rP 1 [] mn ?_
  refine RK J<|an<|sU hQ [0] (mc 2 U mn) U ?_
  (have e:=sA A D; rw [e.1,e.2]<;>rfl)
 refine WK H<|WS fun _ K=>?_
 obtain ⟨hp,hq⟩:=D
 have n:=hp.1
 have o:=hq.1
 have i:=qo F hp
 have W:=qo F hq
 have V:=nM i
 have B:=jl F (f:=(min p.ao q.ao).toNat) (k:=(max p.ao q.ao-min p.ao q.ao).toNat) I
 refine gS 5 [0,1,2] (mc 1 U (mc 4 U (mc 3 U mn))) U<|rS (MN U)<|gS 4 [0,1] (mc 4 U (mc 3 U mn)) U<|rS (MX U)<|rS (CL (qk ts tsA tsC (min p.ao q.ao) (max p.ao q.ao) asm asm I) (bg [6]) U)<|aY 3 U<|AL U eG fun l=>AL U eG fun m=>vp U dB U<|gG U dB U<|RK K<|ai fun _ C=>WS fun _ L=>rP 5 [0,1] (mc 5 U (mc 6 U mn)) ?_
 refine RK L<|bq U (aR fun E=>?_) (aS fun E=>?_)
 ·refine WK C<|ai fun _ N=>dY dw [6,7,8] [] [] [0,1,2,3,5,6,7,8] [] U U U U U<|eS U (LW 1 U cz U U)<|eS U (FA 1 U fZ U)<|eS U (LP (al.cells q.gO) 4 U cz U U U)<|eS U (FA 1 U fZ U)<|eS U (LP (al.cells p.gO) 5 U cz U U U)<|eS U (CL (pY p.gO asm) (aw) U)<|eS U (AG U)<|fx U<|bN U fun T26 S=>df (xs:=[.tmp 52,.tmp 55]) (cs:=((al.cells q.gO)++(al.cells (fY p.gO)))) U kx eG U U U U (by simp [Value.cells,al.aP]) U U fun Z=>aB (S _ _ (aL [1,2,3,4,6,7,8,9]) ?_)
  refine bN U fun T28 T=>?_
  refine rS (CL (dx.eq (ic (b_ ts (min p.ao q.ao).toNat ((max p.ao q.ao)-(min p.ao q.ao)).toNat) ([q.gO,(fY p.gO)]) (some ⟨Z,0,none⟩) 2 (by first|exact B|exact nM B) (by intro z hz; simp only [bE,List.not_mem_nil,or_false] at hz; rcases hz with rfl|rfl; exact W; exact V) sm) o9) (av (aK 0 rfl rfl (by simp [al.aP]) rfl)<|aw) rfl) ?_
  refine aB (T _ _ (aL [1,2,3,4,6,7,8,9]) ?_)
  refine bN U fun T29 AA=>xf U dB U<|aB (AA _ _ (aL [1,2,3,4,6,7,8,9]) ?_)
  refine fR U<|KK N<|an<|sU hQ [0] (mc 5 U mn) U ?_
  (have e:=jg A ⟨hp,hq⟩; rw [e.1,e.2]; unfold cM j6; rw [if_neg E]<;>rfl)
 refine aj<|rP 1 [] (mc 1 U mn) ?_
 refine rS (CL (pY (b_ ts (min p.ao q.ao).toNat ((max p.ao q.ao)-(min p.ao q.ao)).toNat) asm) (aw) U)<|vp U dB U<|RK C<|ai fun _ M=>dY dw [6,7,8] [] [] [0,1,2,3,5,6,7,8] [] U U U U U<|eS U (LW 1 U cz U U)<|eS U (FA 1 U fZ U)<|eS U (LP (al.cells q.gO) 4 U cz U U U)<|eS U (FA 1 U fZ U)<|eS U (LP (al.cells p.gO) 5 U cz U U U)<|eS U (CL (pY p.gO asm) (aw) U)<|eS U (AG U)<|fx U<|bN U fun T21 O=>df (xs:=[.tmp 52,.tmp 55]) (cs:=((al.cells q.gO)++(al.cells (fY p.gO)))) U kx eG U U U U (by simp [Value.cells,al.aP]) U U fun Y=>aB (O _ _ (aL [1,2,3,4,6,7,8,9]) ?_)
 refine bN U fun T23 P=>?_
 refine rS (CL (dx.eq (ic (fY (b_ ts (min p.ao q.ao).toNat ((max p.ao q.ao)-(min p.ao q.ao)).toNat)) ([q.gO,(fY p.gO)]) (some ⟨Y,0,none⟩) 2 (by first|exact B|exact nM B) (by intro z hz; simp only [bE,List.not_mem_nil,or_false] at hz; rcases hz with rfl|rfl; exact W; exact V) sm) o9) (av (aK 0 rfl rfl (by simp [al.aP]) rfl)<|aw) rfl) ?_
 refine aB (P _ _ (aL [1,2,3,4,6,7,8,9]) ?_)
 refine bN U fun T24 R=>xf U dB U<|aB (R _ _ (aL [1,2,3,4,6,7,8,9]) ?_)
 refine fR U<|KK M<|an<|sU hQ [0] (mc 5 U mn) U ?_
 (have e:=jg A ⟨hp,hq⟩; rw [e.1,e.2]; unfold cM j6; rw [if_pos E]<;>rfl)
theorem nT (ts:List aa) (tsA:OA) (tsC:Nat) (s:aG) (hst: ∀ x∈ts,aM x) (hlen:ts.length≤12):
 dx Tryz.prog 70 [(vA (ar.cells (ar.mk (bB.mk tsA ts.length tsC)))),(vA (aG.cells s))] [(rd tsA ts.length 9 (ts.map aa.cells))] (vB (decide (bS ts s))):=by
 refine bD kr Tryz.func70 U U fun H Q hQ hN=>?_
 try dsimp only
 refine WS fun _ C=>fN U fun F=>fN U fun G=>aY 1 U<|RK C<|ai fun _ A=>eA dw 22 kr<|kX 6 [0,1] (mc 0 U (mc 1 U mn)) U<|dS (CL (fp s.ao 0 ((ts.length:Int)-1)) (aw) U)<|dP 1 [] mn ?_
 refine lV (t:=12) U (aR fun B=>?_) (aS fun B=>?_)
 ·refine gf 8 U<|dP 6 [] mn ?_
  refine cR<|RK A<|an<|Q1 hQ U U U ?_
  (refine cB ?_; rw [aQ (oI I)])
 refine gf 1 U<|dS (LP (al.cells s.gO) 0 U cz U U U)<|dP 4 [0,1] (mc 1 U (mc 0 U mn)) ?_
 obtain ⟨x,hx⟩:=bh ts ((s.ao).toNat) I
 have D:=bG aa.cells hx
 refine dS (IA ((s.ao).toNat) U (aO 2 U) kg dc I I)<|dS (pB ((((s.ao).toNat)*9)+1) U (aO 2 U) (Nat.mul_pos I dc) fZ U) ?_
 have E:=(hst x (aI hx)).2.1
 simp only [bf] at E
 refine dS (pB ((((s.ao).toNat)*9)+1) U (aO 2 U) (Nat.mul_pos I dc) fZ U)<|dS (g5 ((s.ao).toNat) 1 (vI x.di.Lo) U cz (aO 2 U) D U dc U)<|gf 1 U<|dS (CL (gW s.gO 0 (x.di.Lo-1)) (aw) U)<|dP 2 [] mn ?_
 refine cR<|RK A<|an<|Q1 hQ U U U ?_
 exact cB (dQ.2 (oT I hx).symm)
end
section
open Go.RowKit
theorem tn (n lo hi:Int) (g1 g2:Nat):
 dx Tryz.prog 62 [(vI n),(vP g1),(vP g2)] [(cv g1 3 [(vI lo)]),(cv g2 3 [(vI hi)])] (vB (decide (n<lo∨hi<n))):=by
 refine bD kr Tryz.func62 U U fun D Q hQ hN=>?_
 try dsimp only
 refine WS fun _ B=>aY 1 U<|RK B<|WS fun _ A=>rP 4 [] (mr 0 U mn) ?_
 refine ct (t:=8) U (aS fun C=>?_) (aR fun C=>?_)
 ·refine rP 5 [] mn ?_
  refine RK A<|an<|Q1 hQ U U U ?_
  exact cB (dm I).symm
 refine rP 5 [] (mr 1 U mn) ?_
 refine RK A<|an<|Q1 hQ U U U ?_
 exact cB (dQ.2 I)
theorem ey (lo hi:Int) (l:List Int) (lA:OA) (lC:Nat) (hlen:l.length≤1000000):
 dx Tryz.prog 30 [(vI lo),(vI hi),(vS lA l.length lC)] [(rd lA l.length 1 (l.map iC))] (vB (nD lo hi l)):=by
 refine bD kr Tryz.func30 U U fun F Q hQ hN=>?_
 try dsimp only
 refine WS fun _ D=>sT U U fun A=>sT U U fun B=>aY 1 U<|RK D<|WS fun _ E=>rP 1 [] mn ?_
 refine rS (FU U) ?_
 refine rS (CL (mE l lA lC (Value.func (.func 62) [].toArray [(vP A),(vP B)].toArray) (fun C=>(decide (C<lo∨hi<C))) (m7 [(cv A 3 [(vI lo)]),(cv B 3 [(vI hi)])]) (by intro C _; exact jY (fi:=[]) (ca:=[(vP A),(vP B)]) (iy (tn C lo hi A B) (bg [0,1]))) hlen) (eB 2 U U<|av (jw (bg [1,0]))<|aw) U) ?_
 refine rP 2 [] mn ?_
 refine RK E<|an ?_
 exact Q1 hQ U U U U
theorem nI (s:aG) (d:ak) (kA:OA) (kC:Nat) (pA:OA) (pC:Nat) (nA:OA) (nC g1:Nat) (hin:cJ d) (htr:a_ d.ag=true):
 dx Tryz.prog 57 [(vA (aG.cells s)),(vP g1)] [(rd kA d.ag.length 9 (d.ag.map aa.cells)),(rd pA d.ae.length 7 (d.ae.map aV.cells)),(rd nA d.aq.length 3 (d.aq.map bc.cells)),(cv g1 32 (aZ.cells (aZ.mk (ar.mk (bB.mk kA d.ag.length kC)) (bB.mk pA d.ae.length pC) (bB.mk nA d.aq.length nC) d.a2 d.a4)))] (vB (decide (bS d.ag s))):=by
 have E:=hin.k3
 have D:=hin.side
 have AA:=hin.kb
 have G:=hin.kG
 have F:=hin.nk
 have H:=hin.pk
 refine bD kr Tryz.func57 U U fun L Q hQ hN=>?_
 try dsimp only
 refine WS fun _ A=>fN U fun J=>aY 1 U<|RK A<|WS fun _ B=>aY 1 U<|rS (zB (ar.cells (ar.mk (bB.mk kA d.ag.length kC))) 4 U cz U U U)<|rP 1 [] (mc 0 U mn) ?_
 refine rS (CL (z8 d.ag kA kC s sd sd) (bg [1]) U) ?_
 refine aY 3 U<|AL U eG fun K=>gG U dB U<|aY 1 U<|RK B<|WS fun _ C=>rP 3 [] mn ?_
 refine RK C<|an<|Q1 hQ U U U ?_
 exact cB (dQ.2 (vm htr))
theorem v9 (n:bc) (d:ak) (kA:OA) (kC:Nat) (pA:OA) (pC:Nat) (nA:OA) (nC g1:Nat) (hin:cJ d) (hk:0≤n.Kind∧n.Kind≤255):
 dx Tryz.prog 60 [(vA (bc.cells n)),(vP g1)] [(rd kA d.ag.length 9 (d.ag.map aa.cells)),(rd pA d.ae.length 7 (d.ae.map aV.cells)),(rd nA d.aq.length 3 (d.aq.map bc.cells)),(cv g1 32 (aZ.cells (aZ.mk (ar.mk (bB.mk kA d.ag.length kC)) (bB.mk pA d.ae.length pC) (bB.mk nA d.aq.length nC) d.a2 d.a4)))] (vB (!(decide (bx d.ag n)))):=by
 have F:=hin.k3
 have E:=hin.side
 have M:=hin.kb
 have K:=hin.kG
 have J:=hin.nk
 have L:=hin.pk
 refine bD kr Tryz.func60 U U fun O Q hQ hN=>?_
 try dsimp only
 refine WS fun _ D=>fN U fun N=>aY 1 U<|RK D<|WS fun _ A=>rP 7 [0,1] (mr 4 U (mc 0 U mn)) ?_
 refine df (xs:=[.tmp 10]) (cs:=[(vI n.ao)]) U cL gY U U U U (by simp [Value.cells]) U U fun G=>?_
 refine rS (CL (dx.eq (ey 0 ((d.ag.length:Int)-1) ([n.ao]) (some ⟨G,0,none⟩) 1 sd) cA) (av (aK 0 U U (by simp [ba]) U)<|aw) U) ?_
 refine rP 2 [] mn ?_
 refine ct (t:=14) U (aX fun B=>?_) (aW fun B=>?_)
 ·refine rP 15 [] mn ?_
  refine RK A<|an<|Q1 hQ U U U ?_
  first|(refine cB ?_; rw [aQ (fun q:bx d.ag n=>by unfold bx at q; omega)]; rfl)|(refine cB ?_; refine congrArg Bool.not (dQ.2 ?_); unfold bx; omega)
 refine rP 2 [] (mc 1 U mn) ?_
 refine rS (SX (eK (m:=n.Kind) U U rW mZ (dq (by first|assumption|omega))) U U)<|df (xs:=[.tmp 17]) (cs:=[(vI n.Kind)]) U cL gY U U U U (by simp [Value.cells]) U U fun H=>?_
 refine rS (CL (dx.eq (ey 1 3 ([n.Kind]) (some ⟨H,0,none⟩) 1 sd) cA) (av (aK 0 U U (by simp [ba]) U)<|aw) U) ?_
 refine rP 3 [] mn ?_
 refine ct (t:=22) U (aX fun C=>?_) (aW fun C=>?_)
 ·refine rP 7 [] mn ?_
  refine RK A<|an<|Q1 hQ U U U ?_
  first|(refine cB ?_; rw [aQ (fun q:bx d.ag n=>by unfold bx at q; omega)]; rfl)|(refine cB ?_; refine congrArg Bool.not (dQ.2 ?_); unfold bx; omega)
 refine rP 2 [] (mc 2 U mn) ?_
 refine df (xs:=[.tmp 24]) (cs:=[(vI n.e8)]) U cL gY U U U U (by simp [Value.cells]) U U fun AA=>?_
 refine rS (CL (dx.eq (ey 0 36000 ([n.e8]) (some ⟨AA,0,none⟩) 1 sd) cA) (av (aK 0 U U (by simp [ba]) U)<|aw) U) ?_
 refine rP 3 [] mn ?_
 refine RK A<|an<|Q1 hQ U U U ?_
 first|(refine cB ?_; rw [aQ (fun q:bx d.ag n=>by unfold bx at q; omega)]; rfl)|(refine cB ?_; refine congrArg Bool.not (dQ.2 ?_); unfold bx; omega)
theorem sQ (l:List bc) (lA:OA) (lC:Nat) (f:Value) (p:bc→Bool) (X:ah) (hf: ∀ x0,x0∈l→uU Tryz.prog f [.agg (bc.cells x0).toArray] [X] (.bool (p x0))) (hlen:l.length≤1000000):
 dx Tryz.prog 80 [(vS lA l.length lC),f] [(rd lA l.length 3 (l.map bc.cells)),X] (vI (dz p l)):=by
 refine bD kr Tryz.func80 U U fun S Q hQ hN=>?_
 try dsimp only
 refine WS fun _ H=>aY 1 U<|RK H<|ai fun _ AA=>WS fun _ J=>rP 3 [] mn ?_
 refine RK J<|ay ?_
 have B:(0≤l.length)∧((l.take 0).any p=false):=by simp
 refine bu (ι:={z:Nat // (z≤l.length)∧((l.take z).any p=false)}) [0,1,7] [0,1] U U (fun z=>[(8,(vI (z.1:Int)))]) (fun z=>[]) (fun _=>rfl) (fun _=>rfl) (fun z=>l.length-z.1) ⟨0,B⟩ (a3 U) (aL [0,1]) ?_
 clear B
 rintro ⟨i,⟨O,A⟩⟩ J4 G
 try dsimp only
 refine WS fun _ K=>rP 1 [] mn ?_
 refine RK K<|ai fun _ L=>bq U (aR fun R=>?_) (aS fun R=>?_)
 ·refine bk<|ab<|ab<|ax<|KK AA<|WS fun _ E=>rP 1 [] mn ?_
  refine RK E<|an<|Q1 hQ U U U ?_
  first|exact cI (mV hx hp A).symm|exact cI (jO I A).symm
 refine WK L<|ai fun _ M=>ay<|WS fun _ N=>aY 2 U<|RK N<|WS fun _ C=>rP 3 [] mn ?_
 obtain ⟨x,hx⟩:=bh l i I
 have P:=bG bc.cells hx
 refine rS (IA i U (aO 0 U) sN dc I I)<|rS (mY i 0 (bc.cells x) U cz (aO 0 U) P U dc U U)<|rS (SX (jd U U U (hf x (aI hx)) (bg [1])) U U)<|RK C<|cG U (fun hp=>?_) (fun hp=>?_)
 ·refine WS fun _ D=>rP 2 [] mn ?_
  refine RK D<|an<|Q1 hQ U U U ?_
  first|exact cI (mV hx hp A).symm|exact cI (jO I A).symm
 refine cg<|aF<|KK M<|aj<|rP 2 [] mn ?_
 refine aB ?_
 have F:(vI (((i+1):Nat):Int))=(vI ((i:Int)+1)):=by exact cI I
 refine aU (G ⟨(i+1),⟨I,oo hx A hp⟩⟩ _ _ _ U os (bL 3<|aN U F<|cE.nil _) (aL [0,1]))
theorem nK (l:List bc) (lA:OA) (lC:Nat) (f:Value) (p:bc→Bool) (X:ah) (hf: ∀ x0,x0∈l→uU Tryz.prog f [.agg (bc.cells x0).toArray] [X] (.bool (p x0))) (hlen:l.length≤1000000):
 dx Tryz.prog 59 [(vS lA l.length lC),f] [(rd lA l.length 3 (l.map bc.cells)),X] (vB (l.any p)):=by
 refine bD kr Tryz.func59 U U fun C Q hQ hN=>?_
 try dsimp only
 refine WS fun _ A=>aY 1 U<|RK A<|WS fun _ B=>aY 2 U<|rS (CL (sQ l lA lC f p X (by exact hf) hlen) (bg [0,1]) U)<|rP 2 [] mn ?_
 refine RK B<|an<|Q1 hQ U U U ?_
 exact cB nE
end
end Go.Proofs.YtpfjokbjambohaaGreat
