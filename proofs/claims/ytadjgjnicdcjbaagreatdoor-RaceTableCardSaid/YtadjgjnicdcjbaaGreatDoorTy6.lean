/-
 The statement raceTable_said, part 6 of 8: Follow, OpenM, V2, V1, V4, V3, V5, V6, V8, Wh2, Rc2, Rc3, Rc4, Rs3, Rs4, Rs6, Rs7, Rs8, RkB, RaB, RtB, Rp0, Rp1, Rp2, Rt1, RkS, RaS, RtS, Rx1.
 Conditions: none.
-/
import Derived.Test.YtadjgjnicdcjbaaGreatDoorTy1
import Derived.Test.YtadjgjnicdcjbaaGreatDoorTy2
import Derived.Test.YtadjgjnicdcjbaaGreatDoorTy3
import Derived.Test.YtadjgjnicdcjbaaGreatDoorTy4
import Derived.Test.YtadjgjnicdcjbaaGreatDoorTy5
namespace Go.Proofs.YtadjgjnicdcjbaaGreatDoor
set_option maxRecDepth 100000
set_option maxHeartbeats 4000000
set_option linter.unusedVariables false
section
def ek (bl:List Nat) (n:Nat):List (Option Nat):=bl.map some++List.replicate (n-bl.length) none
def gW (bl:List Nat) (n:Nat):List (Option Nat):=List.replicate (n-bl.length) none++bl.map some
theorem q7 {bl:List Nat} {n:Nat} (h:bl.length≤n):(ek bl n).length=n:=by simp [ek]; omega
theorem ze {bl:List Nat} {n:Nat} (h:bl.length≤n):(gW bl n).length=n:=by simp [gW]; omega
theorem yQ {n:Nat}:List.replicate n none=ek [] n:=by simp [ek]
theorem G8 {n:Nat}:List.replicate n none=gW [] n:=by simp [gW]
theorem yP {bl:List Nat} {n:Nat} (h:bl.length=n):ek bl n=bl.map some:=by simp [ek,h]
theorem HR {bl:List Nat} {n:Nat} (h:bl.length=n):gW bl n=bl.map some:=by simp [gW,h]
theorem oY {bl:List Nat} {n k g:Nat} (h:bl[k]? =some g):(ek bl n)[k]? =some (some g):=by
 have hk:=(List.getElem?_eq_some_iff.1 h).1
 unfold ek
 rw [List.getElem?_append_left (by simpa using hk),fq,h]; rfl
theorem tL {bl:List Nat} {n k i g:Nat} (h:bl[i]? =some g) (hk:k=n-bl.length+i):(gW bl n)[k]? =some (some g):=by
 subst hk
 unfold gW
 rw [List.getElem?_append_right sm,fq,List.length_replicate,Nat.add_sub_cancel_left,h]; rfl
theorem um {bl:List Nat} {n k g:Nat} (hk:k=bl.length) (h:bl.length<n):(ek bl n).set k (some g)=ek (bl++[g]) n:=by
 subst hk
 unfold ek
 rw [List.set_append_right _ _ sm]
 have e:n-bl.length=(n-(bl++[g]).length)+1:=by simp; omega
 rw [e,List.replicate_succ]
 simp
theorem HX {bl:List Nat} {n k g:Nat} (hk:k+1+bl.length=n):(gW bl n).set k (some g)=gW (g::bl) n:=by
 unfold gW
 have e:n-bl.length=k+1:=by omega
 have A:n-(g::bl).length=k:=by simp; omega
 rw [e,A,List.set_append_left _ _ sm,List.replicate_succ',List.set_append_right _ _ sm]
 simp
theorem rQ {l:List (Option Nat)} {k g:Nat} (h:l[k]? =some (some g)):(l.map oC)[k]? =some (oC (some g)):=by rw [fq,h]; rfl
theorem zR {α:Type} {l:List α} {x:α} {k:Nat} (h:k=l.length):(l++[x])[k]? =some x:=by subst h; simp
theorem Kj {α:Type} {l:List α} {x y:α} {k:Nat} (h:l[k]? =some y):(l++[x])[k]? =some y:=by rw [List.getElem?_append_left (List.getElem?_eq_some_iff.1 h).1]; exact h
structure pS (w:bO) (fs:List FM):Prop where
 all: ∀ (b:Nat) m,fs[b]? =some m→sS m (fwd w b)∧(m.map (·.1)).Nodup
structure g5 (w:bO) (k:Nat) (bs:List FM):Prop where
 all: ∀ (i:Nat) m,bs[i]? =some m→vn m (back w (k+i))∧(m.map (·.1)).Nodup
variable {w:bO} {b:Nat} {mb m left:List (aB×Int)} {o:Int×aa} {os:List (Int×aa)} {p:aB×Int}
theorem pS.first:pS w [[(⟨0,0⟩,w.Start)]]:=⟨fun b m h=>by
 match b with
 |0=>simp at h; subst h; exact ⟨Hu,sm⟩
 |n+1=>simp at h⟩
theorem pS.add {fs:List FM} (h:pS w fs) (hl:fs.length=b+1) (hmb:fs[b]? =some mb) (hm:wo w b m) (hd:j1 w b mb m left) (h0:left=[]):pS w (fs++[m]):=⟨fun i x hx=>by
 rcases Nat.lt_or_ge i fs.length with q|q
 ·rw [List.getElem?_append_left q] at hx; exact h.all i x hx
 ·rw [List.getElem?_append_right q] at hx
  have hi:i-fs.length=0:=by
   rcases Nat.eq_zero_or_pos (i-fs.length) with z|z
   ·exact z
   ·rw [List.getElem?_eq_none (by simp; omega)] at hx; cases hx
  rw [hi] at hx
  simp at hx; subst hx
  obtain rfl:i=b+1:=by omega
  have A:=h.all b mb hmb
  exact ⟨Lb A.2 A.1 hm.snd (hd.fin h0),hm.keys⟩⟩
theorem pS.ok {fs:List FM} (h:pS w fs) (hl:fs.length=w.n+1):xL w fs:=⟨hl,fun b m hm=>(h.all b m hm).1,fun b m hm=>(h.all b m hm).2⟩
theorem g5.none_:g5 w b []:=⟨fun i m h=>by simp at h⟩
theorem g5.last (hb:w.n≤b):g5 w b [[(⟨0,0⟩,w.fZ)]]:=⟨fun i m h=>by
 match i with
 |0=>simp at h; subst h; exact ⟨LB I,sm⟩
 |n+1=>simp at h⟩
theorem g5.add {bs:List FM} (h:g5 w (b+1) bs) (hb:b<w.n) (hmb:bs[0]? =some mb) (hm:vC w b m) (hd:jw w b mb m left) (h0:left=[]):g5 w b (m::bs):=⟨fun i x hx=>by
 match i with
 |0=>
  simp at hx; subst hx
  have A:=h.all 0 mb hmb
  exact ⟨Km hb A.2 A.1 hm.snd hm.zero (hd.fin h0),hm.keys⟩
 |n+1=>
  have:=h.all n x (by simpa using hx)
  rw [show b+1+n=b+(n+1) by omega] at this
  exact this⟩
theorem g5.ok {bs:List FM} (h:g5 w 0 bs) (hl:bs.length=w.n+1):uI w bs:=⟨hl,fun b m hm=>by have:=(h.all b m hm).1; rwa [Nat.zero_add] at this,fun b m hm=>(h.all b m hm).2⟩
/-- on the way through one entry's options -/
structure nA (w:bO) (b:Nat) (mb left m:List (aB×Int)) (p:aB×Int) (os:List (Int×aa)):Prop where
 on:wo w b m
 tD:j1 w b mb m left
 done:iY w b m p os
structure nu (w:bO) (b:Nat) (mb left m:List (aB×Int)) (p:aB×Int) (os:List (Int×aa)):Prop where
 on:vC w b m
 tD:jw w b mb m left
 done:iW w b m p os
theorem nA.start (h:wo w b m) (h2:j1 w b mb m left):nA w b mb left m p []:=⟨h,h2,fun o ho=>by cases ho⟩
theorem nu.start (h:vC w b m) (h2:jw w b mb m left):nu w b mb left m p []:=⟨h,h2,fun o ho=>by cases ho⟩
theorem G3 {q:aB×Int} (h:(m.lookup q.1).isSome=false∨q.2<(m.lookup q.1).getD 0):o9 m q=dL m q.1 q.2:=by
 unfold o9
 cases e:m.lookup q.1 with
 |none=>rfl
 |some v=>rw [e] at h; simp at h; simp only; rw [if_pos h]
theorem Ew {q:aB×Int} (h:(m.lookup q.1).isSome=true) (h2: ¬ q.2<(m.lookup q.1).getD 0):o9 m q=m:=by
 unfold o9
 cases e:m.lookup q.1 with
 |none=>rw [e] at h; cases h
 |some v=>rw [e] at h2; simp only [Option.getD_some] at h2; simp only; rw [if_neg h2]
theorem H3 {q:aB×Int} (h:(m.lookup q.1).isSome=false∨(m.lookup q.1).getD 0<q.2):oS m q=dL m q.1 q.2:=by
 unfold oS
 cases e:m.lookup q.1 with
 |none=>rfl
 |some v=>rw [e] at h; simp at h; simp only; rw [if_pos h]
theorem D2 {q:aB×Int} (h:(m.lookup q.1).isSome=true) (h2: ¬ (m.lookup q.1).getD 0<q.2):oS m q=m:=by
 unfold oS
 cases e:m.lookup q.1 with
 |none=>rw [e] at h; cases h
 |some v=>rw [e] at h2; simp only [Option.getD_some] at h2; simp only; rw [if_neg h2]
theorem zW {t:aB} {v y:Int} (hy:w.pT[b]? =some y) (h:max (v+y) o.2.Lo≤min o.2.Hi w.fZ):kH w b (t,v) o=some (di t (fc o.1),max (v+y) o.2.Lo):=by
 have e:=nM hy
 subst e
 exact KY h
theorem Mo {t:aB} {v y:Int} (hy:w.pT[b]? =some y) (h: ¬ max (v+y) o.2.Lo≤min o.2.Hi w.fZ):kH w b (t,v) o=none:=by
 have e:=nM hy
 subst e
 exact Nc h
theorem Aq {t:aB} {v y:Int} (hy:w.pT[b]? =some y) (h:o.2.Lo≤min v o.2.Hi):nV w b (t,v) o=some (di t (fc o.1),min v o.2.Hi-y):=by
 have e:=nM hy
 subst e
 exact I8 h
theorem nA.set {q:aB×Int} (h:nA w b mb left m p os) (hp:p∈fwd w b) (ho:o∈iq w b) (he:kH w b p o=some q) (hs:(m.lookup q.1).isSome=false∨q.2<(m.lookup q.1).getD 0):nA w b mb left (dL m q.1 q.2) p (os++[o]):=by
 rw [← G3 hs]
 exact ⟨h.on.add hp ho he,h.tD.lower vj,h.done.IX he⟩
theorem nA.oG {q:aB×Int} (h:nA w b mb left m p os) (he:kH w b p o=some q) (hs:(m.lookup q.1).isSome=true) (h2: ¬ q.2<(m.lookup q.1).getD 0):nA w b mb left m p (os++[o]):=by
 have:=h.done.IX he
 rw [Ew hs h2] at this
 exact ⟨h.on,h.tD,this⟩
theorem nA.skip (h:nA w b mb left m p os) (he:kH w b p o=none):nA w b mb left m p (os++[o]):=⟨h.on,h.tD,h.done.none_ he⟩
theorem nu.set {q:aB×Int} (hb:b<w.n) (h:nu w b mb left m p os) (hp:p∈back w (b+1)) (ho:o∈iq w b) (he:nV w b p o=some q) (hs:(m.lookup q.1).isSome=false∨(m.lookup q.1).getD 0<q.2):nu w b mb left (dL m q.1 q.2) p (os++[o]):=by
 rw [← H3 hs]
 exact ⟨h.on.add hb hp ho he,h.tD.upper p_,h.done.IX he⟩
theorem nu.oG {q:aB×Int} (h:nu w b mb left m p os) (he:nV w b p o=some q) (hs:(m.lookup q.1).isSome=true) (h2: ¬ (m.lookup q.1).getD 0<q.2):nu w b mb left m p (os++[o]):=by
 have:=h.done.IX he
 rw [D2 hs h2] at this
 exact ⟨h.on,h.tD,this⟩
theorem nu.skip (h:nu w b mb left m p os) (he:nV w b p o=none):nu w b mb left m p (os++[o]):=⟨h.on,h.tD,h.done.none_ he⟩
theorem nA.next {t:aB} {v:Int} (hn:(left.map (·.1)).Nodup) (hm:(t,v)∈left) (h:nA w b mb left m (t,v) os) (ho: ∀ o∈iq w b,o∈os):j1 w b mb m (cq left t):=h.tD.next hn hm h.done ho
theorem nu.next {t:aB} {v:Int} (hn:(left.map (·.1)).Nodup) (hm:(t,v)∈left) (h:nu w b mb left m (t,v) os) (ho: ∀ o∈iq w b,o∈os):jw w b mb m (cq left t):=h.tD.next hn hm h.done ho
theorem pS.mem {fs:List FM} (h:pS w fs) (hm:fs[b]? =some mb) (hp:p∈mb):p∈fwd w b:=(h.all b mb hm).1.1 _ _ ((fm (h.all b mb hm).2).1 hp)
theorem g5.UM {bs:List FM} {k:Nat} (h:g5 w k bs) (hk:k=b+1) (hm:bs[0]? =some mb) (hp:p∈mb):p∈back w (b+1):=by
 subst hk
 exact (h.all 0 mb hm).1.1 _ _ ((fm (h.all 0 mb hm).2).1 hp)
theorem g5.end_ {bs:List FM} {k j:Nat} (h:g5 w k bs) (hj:bs.length=0) (hk:j=b) (hb:w.n≤b):g5 w j ([(⟨0,0⟩,w.fZ)]::bs):=by
 subst hk
 rw [jD hj]
 exact g5.last hb
theorem g5.more {bs:List FM} {k j:Nat} (h:g5 w k bs) (hk:k=b+1) (hj:j=b) (hb:b<w.n) (hmb:bs[0]? =some mb) (hm:vC w b m) (hd:jw w b mb m left) (h0:left=[]):g5 w j (m::bs):=by
 subst hk hj
 exact h.add hb hmb hm hd h0
end
section
open Go.RowKit
theorem j4 {a:OA} {c e sz n:Nat} {es:List (List Value)} (h:es.length=n):Mx (own a c e sz es) (rd a n sz es):=by subst h; exact NZ
theorem th {L:List aq}:Mx (bw L) (eX L):=⟨fun w h=>h.1,fun b h=>h⟩
theorem Og {b:Nat} {fb:List Nat} {g:Nat} (h:fb.length=b):aV ru (List.replicate b ([]:TM)) fb++[gZ iV g (bL dw [])]=aV ru (List.replicate (b+1) ([]:TM)) (fb++[g]):=by
 rw [List.replicate_succ']
 exact zi (by rw [List.length_replicate]; exact h.symm) U
theorem Vp {α:Type} {ms:List α} {fb:List Nat} {n:Nat} (h:fb.length=n) (h2:ms.length=n):List.map oC (ek fb n)=List.zipWith gD ms fb:=by
 rw [yP h]; exact (Ay I).symm
theorem wc {l:a_} {r:cv} {i:Nat} {x:aK} (hx:r.ag[i]? =some x) (h: ¬ kb l r.ag i x): ¬ e9 l r:=fun q=>h (q.sig i x hx)
end
section
open Go.RowKit
theorem r_ (ln:ck) (ri:eB) (e:List Int) (tms:List TM) (e_A:OA) (e_C:Nat) (tb:List Nat) (t_A:OA) (t_C:Nat) (fA:OA) (fN fC:Nat) (bA:OA) (bN bC:Nat) (gw b:Nat) (g1 g2:Nat) (hb:b<tms.length) (htb:tb.length=tms.length):
 DL Tryz.prog 220 [] [(vP g1),(vP g2)] [(rd e_A e.length 1 (e.map iC)),(rd t_A tms.length 1 (List.zipWith gD tms tb)),(eX (aV ru tms tb)),(bV gw 274 (bW.cells (bW.mk ln ri (br.mk e_A e.length e_C) (br.mk t_A tms.length t_C) (br.mk fA fN fC) (br.mk bA bN bC)))),(bV g1 263 [(vP gw)]),(bV g2 3 [(vI (b:Int))])] ([]:List (Int×aa)) (fun ys x ys'=> ∃ o,o∈iq (cE ln ri e tms) b∧x=O2 o∧ys'=ys++[o]) (fun ys=> ∀ o∈iq (cE ln ri e tms) b,o∈ys):=by
 refine tJ kr Tryz.func220 U U fun l J Z A0 d Q hY V AA hQ hN=>?_
 try dsimp only
 refine ah fun _ X=>ah fun _ R=>dB cu 12 kr<|mP 2 [] (mr 5 U mn) U<|dS (SX (bI U U) U U)<|mP 4 [0,1] (mr 4 U (mr 5 U mn)) U<|dS (SX (bI U U) U U)<|dP 3 [] (mr 4 U mn) ?_
 refine dS (SX (bh (xs:=[(0,.tmp 11),(1,.tmp 16)]) (cs:=(aa.cells (aa.mk ri.Start ri.fZ))) U U (bg gf U)) U U)<|cM<|ku (k:=([]:List (Int×aa))) (k':=(([]:List (Int×aa))++[((-1),(aa.mk ri.Start ri.fZ))])) 0 (by first|exact hsz|exact Nat.le_refl _) hY V AA U U U (by exact ⟨(-1,⟨ri.Start,ri.fZ⟩),cb ..,U,U⟩) U U (fun B3 N M=>?_) (fun B3 N M=>?_)
 rotate_left 1
 ·refine rP 1 [] mn ?_
  refine RK R<|aO U<|an ?_
  refine hQ _ _ _ (gX (vs:=[]) trivial fun w hs=>rF 0 U N M hs)
 refine bf 1 U<|RK R<|aW U<|WK X<|ah fun _ Y=>dB cu 7 kr<|mP 1 [] (mr 5 U mn) U<|dS (SX (bI U U) U U)<|dP 3 [0,1] (mr 4 U (mr 6 U mn)) ?_
 obtain ⟨x,hx⟩:=aJ tms b I
 obtain ⟨xa,L⟩:=aJ tb b I
 have a:(List.zipWith gD tms tb)[b]? =some (gD x xa):=dA hx L
 refine dS (IA b U (aD 2 U) F6 dc I I)<|dS (fV b 0 (Value.map (some xa)) U bX (aD 2 U) a U dc U)<|cM<|jR (kV:=iV) (m:=bL dw x) 3 U U mm U ⟨⟨(gZ iV xa (bL dw x)),(bM hx L (by simp [ru])),U⟩,fun h=>h⟩ (show il _ (gZ iV xa (bL dw x)).holds from du 3 U (bM hx L (by simp [ru]))) U fun j=>?_
 try dsimp only
 refine RK Y<|av ?_
 have G:(∀ o∈x,o∈x∨o∈(([]:List (Int×aa))++[((-1),(aa.mk ri.Start ri.fZ))]))∧(∀ o∈x,o∈x)∧(J (([]:List (Int×aa))++[((-1),(aa.mk ri.Start ri.fZ))]) B3)∧(Fo A0 d B3)∧((-1,(⟨ri.Start,ri.fZ⟩:aa))∈(([]:List (Int×aa))++[((-1),(aa.mk ri.Start ri.fZ))])):=by exact ⟨fun o ho=> .inl ho,fun o ho=>ho,asm,asm,sm⟩
 refine bH (ι:={z:TM×(List (Int×aa))×aq // (∀ o∈x,o∈z.1∨o∈z.2.1)∧(∀ o∈z.1,o∈x)∧(J z.2.1 z.2.2)∧(Fo A0 d z.2.2)∧((-1,(⟨ri.Start,ri.fZ⟩:aa))∈z.2.1)}) [0,1,2,27] [2,3,4,6,7] U U (fun z=>[]) (fun z=>[(zC iV j xa (bL dw x) (bL dw z.1.1) none),z.1.2.2]) (fun _=>rfl) (fun _=>rfl) (fun z=>z.1.1.length) ⟨(x,(([]:List (Int×aa))++[((-1),(aa.mk ri.Start ri.fZ))]),B3),G⟩ (dh.nil _) (aH [2,3,4,6,7,0,1]) ?_
 clear G
 rintro ⟨⟨left,ys,A⟩,⟨B,C,D,E,F⟩⟩ J8 W
 try dsimp only at B C D E F
 try dsimp only
 refine WS fun _ S=>jg (dC oJ).inj (f:=dw) 5 U U U U (fun T=>?_) (fun i z hm hn=>?_)
 ·refine rP 1 [] mn ?_
  refine RK S<|ah fun _ c=>aW U<|bu<|ab<|ab<|au ?_
  refine hN _ _ _ (gX (vs:=[]) trivial fun w hs=>Kp 6 U (by exact Hp hx B T F) D E hs)
 try dsimp only
 refine bf 1 U<|RK S<|ah fun _ O=>aO U<|WK O<|av<|WS fun _ P=>rS (SX (jc 5 U U U) U U)<|bf 2 U<|AL U de fun g=>bf 1 U<|fP U cm U<|RK P<|WS fun _ K=>rP 3 [] (mc 0 U mn) ?_
 refine ku (k:=ys) (k':=(ys++[(i,z)])) 7 (by first|exact hsz|exact Nat.le_refl _) hY D E U U U (by exact ⟨(i,z),(xp hx).2 (.inr (C _ hm)),U,U⟩) U U (fun B15 AB H=>?_) (fun B15 AB H=>?_)
 rotate_left 1
 ·refine rP 1 [] mn ?_
  refine RK K<|aO U<|an ?_
  refine hQ _ _ _ (gX (vs:=[]) trivial fun w hs=>rF 7 U AB H hs)
 refine rP 1 [] mn ?_
 refine RK K<|aW U<|bZ<|aG<|gS 6 U fr U ?_
 refine aS (W ⟨((cq left i),(ys++[(i,z)]),B15),⟨HS hn hm B,mC C,asm,asm,by simp [F]⟩⟩ _ _ _ U (eN hm) (aT U) (aH [1,2,3,4,5,6,7]))
theorem uQ (gw b:Nat):
 lv Tryz.prog 212 [(vP gw),(vI (b:Int))] [] (fun (x:Nat×Nat)=>(Value.func (.func 220) [].toArray [(Value.pointer (some ⟨x.1,0,none⟩)),(Value.pointer (some ⟨x.2,0,none⟩))].toArray)) (fun (x:Nat×Nat)=>True) (fun (x:Nat×Nat)=>[(bV x.1 263 [(vP gw)]),(bV x.2 3 [(vI (b:Int))])]):=by
 refine dj kr Tryz.func212 U U fun E Q hQ hN=>?_
 try dsimp only
 refine WS fun _ A=>uc U U fun C=>uc U U fun D=>bf 1 U<|RK A<|WS fun _ B=>rS (FU U)<|rP 1 [] mn ?_
 refine RK B<|an<|LX hQ (C,D) [1,0] [] mn U U U U ?_
 trivial
theorem Js (gw b:Nat):
 lv Tryz.prog 207 [(vP gw),(vI (b:Int))] [] (fun (x:Nat×Nat)=>(Value.func (.func 211) [].toArray [(Value.pointer (some ⟨x.1,0,none⟩)),(Value.pointer (some ⟨x.2,0,none⟩))].toArray)) (fun (x:Nat×Nat)=>True) (fun (x:Nat×Nat)=>[(bV x.1 263 [(vP gw)]),(bV x.2 3 [(vI (b:Int))])]):=by
 refine dj kr Tryz.func207 U U fun E Q hQ hN=>?_
 try dsimp only
 refine WS fun _ A=>uc U U fun C=>uc U U fun D=>bf 1 U<|RK A<|WS fun _ B=>rS (FU U)<|rP 1 [] mn ?_
 refine RK B<|an<|LX hQ (C,D) [1,0] [] mn U U U U ?_
 trivial
end
section
open Go.RowKit
theorem oO:uD Tryz.prog 280 dU:=OG OQ (fun x y w=>QY 9998 x y w) (fun x y h=>by cases x; cases y; simp [aB.cells] at h; simp [h]) (fun x=>by simp [aB.cells,Instr.sameBits]) (fun x w=>⟨_,rfl,fun p hp=>by
 simp only [d_,List.not_mem_nil,or_false] at hp
 rcases hp with rfl|rfl
 ·exact ⟨⟨_,jV bX U w⟩,_,oJ⟩
 ·exact ⟨⟨_,jV bX U w⟩,_,oJ⟩⟩)
theorem JD (s:Int):
 dT Tryz.prog 215 [(vI s)] [] (vA (aB.cells (fc s))):=by
 refine bx kr Tryz.func215 U U fun H Q hQ hN=>?_
 try dsimp only
 refine WS fun _ B=>AL U tx fun G=>RK B<|ah fun _ C=>WS fun _ D=>rP 2 [] mn ?_
 refine RK D<|cy U (aL fun A=>?_) (aM fun A=>?_)
 ·refine WS fun _ E=>rS (SX (bh (xs:=[(1,.const (vI 1))]) (cs:=(aB.cells (aB.mk 0 1))) U U (bg BE U)) U U)<|fP U rL U<|RK E<|an<|Ij hQ [0] (mc 0 U mn) U ?_
  unfold fc; first|rw [if_pos A]|rw [if_neg A]
 refine WK C<|WS fun _ F=>rS (SX (bh (xs:=[(0,.const (vI 1))]) (cs:=(aB.cells (aB.mk 1 0))) U U (bg BE U)) U U)<|fP U rL U<|RK F<|an<|Ij hQ [0] (mc 0 U mn) U ?_
 unfold fc; first|rw [if_pos A]|rw [if_neg A]
theorem v_ (x:aB) (y:aB) (hx:(0≤x.right∧x.right≤1000)∧0≤x.eL∧x.eL≤1000) (hy:(0≤y.right∧y.right≤1000)∧0≤y.eL∧y.eL≤1000):
 dT Tryz.prog 214 [(vA (aB.cells x)),(vA (aB.cells y))] [] (vA (aB.cells (di x y))):=by
 refine bx kr Tryz.func214 U U fun F Q hQ hN=>?_
 try dsimp only
 refine WS fun _ A=>fM U fun C=>fM U fun D=>AL U tx fun E=>RK A<|WS fun _ B=>rP 10 [0,1,0,1] (mc 2 U (mc 1 U mn)) ?_
 refine rS (SX (bh (xs:=[(0,.tmp 9),(1,.tmp 14)]) (cs:=(aB.cells (aB.mk (x.right+y.right) (x.eL+y.eL)))) U U (bg BE U)) U U)<|fP U rL U<|RK B<|an ?_
 exact Ij hQ [0] (mc 0 U mn) U U
theorem O3 (ln:ck) (ri:eB) (e:List Int) (tms:List TM) (e_A:OA) (e_C:Nat) (tb:List Nat) (t_A:OA) (t_C:Nat) (fs:List FM) (bs:List FM) (fb:List Nat) (f_A:OA) (f_C:Nat) (bb:List Nat) (b_A:OA) (b_C gw:Nat) (x:aB) (hx:(0≤x.right∧x.right≤1000)∧0≤x.eL∧x.eL≤1000) (hn:ri.ag.n≤1000):
 dT Tryz.prog 213 [(vP gw),(vA (aB.cells x))] [(rd e_A e.length 1 (e.map iC)),(rd t_A tms.length 1 (List.zipWith gD tms tb)),(eX (aV ru tms tb)),(rd f_A fs.length 1 (List.zipWith gD fs fb)),(eX (aV nT fs fb)),(rd b_A bs.length 1 (List.zipWith gD bs bb)),(eX (aV nT bs bb)),(bV gw 274 (bW.cells (bW.mk ln ri (br.mk e_A e.length e_C) (br.mk t_A tms.length t_C) (br.mk f_A fs.length f_C) (br.mk b_A bs.length b_C))))] (vB (kq (cE ln ri e tms) x)):=by
 refine bx kr Tryz.func213 U U fun E Q hQ hN=>?_
 try dsimp only
 refine WS fun _ C=>fM U fun D=>bf 1 U<|RK C<|ah fun _ B=>dB cu 26 kr<|mP 3 [] (mc 0 U mn) U<|dS (SX (bI U U) U U)<|dP 5 [] (mr 8 U mn) ?_
 refine jk (t:=13) U (aM fun A=>?_) (aL fun A=>?_)
 ·refine dP 17 [] mn ?_
  refine cM<|RK B<|an<|Q1 hQ U U U ?_
  exact cB (cf (fun h=>A h.1)).symm
 refine lH 1 U<|dS (SX (bI U U) U U)<|mP 8 [0,1] (mr 8 U (mc 0 U mn)) U<|dS (SX (bI U U) U U)<|dP 6 [] (mr 8 U mn) ?_
 refine cM<|RK B<|an<|Q1 hQ U U U ?_
 exact cB (decide_eq_decide.2 ⟨fun h=>⟨A,h⟩,fun h=>h.2⟩)
end
section
open Go.RowKit
theorem GV (ln:ck) (ri:eB) (e:List Int) (tms:List TM) (e_A:OA) (e_C:Nat) (tb:List Nat) (t_A:OA) (t_C:Nat) (fs:List FM) (bs:List FM) (fb:List Nat) (f_A:OA) (f_C:Nat) (bb:List Nat) (b_A:OA) (b_C gw:Nat) (b g1 g2:Nat) (mf:FM) (mb:FM) (hb:b<e.length) (hw:HL (cE ln ri e tms)) (htb:tb.length=tms.length) (hfw:xL (cE ln ri e tms) fs) (hfb:fb.length=fs.length) (hbw:uI (cE ln ri e tms) bs) (hbb:bb.length=bs.length) (hsg:ri.ag.n≤1000) (hm1:fs[b]? =some mf) (hm2:bs[b+1]? =some mb):
 DL Tryz.prog 211 [] [(vP g1),(vP g2)] [(rd e_A e.length 1 (e.map iC)),(rd t_A tms.length 1 (List.zipWith gD tms tb)),(eX (aV ru tms tb)),(rd f_A fs.length 1 (List.zipWith gD fs fb)),(eX (aV nT fs fb)),(rd b_A bs.length 1 (List.zipWith gD bs bb)),(eX (aV nT bs bb)),(bV gw 274 (bW.cells (bW.mk ln ri (br.mk e_A e.length e_C) (br.mk t_A tms.length t_C) (br.mk f_A fs.length f_C) (br.mk b_A bs.length b_C)))),(bV g1 263 [(vP gw)]),(bV g2 3 [(vI (b:Int))])] ([]:List (Int×aa)) (fun ys x ys'=> ∃ q,q∈pU (cE ln ri e tms) b mf mb∧x=O2 q∧ys'=ys++[q]) (fun ys=> ∀ q∈pU (cE ln ri e tms) b mf mb,q∈ys):=by
 have J9:e.length≤6:=hw.n
 have Kg:tms.length=e.length:=hw.times
 have J3:fs.length=e.length+1:=hfw.len
 have J2:bs.length=e.length+1:=hbw.len
 refine tJ kr Tryz.func211 U U fun l J Z A0 w0 Q hY FS Eq hQ hN=>?_
 try dsimp only
 refine WS fun _ Fd=>uc U U fun b2=>RK Fd<|WS fun _ Fn=>rP 2 [0,1] (mr 10 U (mr 11 U mn)) ?_
 refine cX (uQ gw b) (aI) U fun y4 K0=>?_
 obtain ⟨C2,C3⟩:=y4
 try dsimp only
 refine RK Fn<|av<|ky 4 U (by exact fun _ h=>h)<|ky 6 U (by exact fun _ h=>h)<|ky 8 U (by exact fun _ h=>h)<|ky 14 U (by exact fun _ h=>h) ?_
 refine nx (L0:=[(0,(Value.func (.yield l) #[] #[])),(1,(vP g1)),(2,(vP g2)),(3,(vP b2))]) (F:=[(rd e_A e.length 1 (e.map iC)).ro,(rd t_A tms.length 1 (List.zipWith gD tms tb)).ro,(eX (aV ru tms tb)).ro,(bV gw 274 (bW.cells (bW.mk ln ri (br.mk e_A e.length e_C) (br.mk t_A tms.length t_C) (br.mk f_A fs.length f_C) (br.mk b_A bs.length b_C)))).ro,(bV C2 263 [(vP gw)]),(bV C3 3 [(vI (b:Int))])]) (fun k (y:(List (Int×aa))×aq)=>(lu (cE ln ri e tms) b mf mb k y.1)∧(J y.1 y.2)∧(Fo A0 w0 y.2)) (fun k y=>[(bV b2 277 [(Value.func (.yield l) #[] #[])]),y.2,(rd e_A e.length 1 (e.map iC)).ro,(rd t_A tms.length 1 (List.zipWith gD tms tb)).ro,(eX (aV ru tms tb)).ro,(rd f_A fs.length 1 (List.zipWith gD fs fb)).ro,(eX (aV nT fs fb)).ro,(rd b_A bs.length 1 (List.zipWith gD bs bb)).ro,(eX (aV nT bs bb)).ro,(bV gw 274 (bW.cells (bW.mk ln ri (br.mk e_A e.length e_C) (br.mk t_A tms.length t_C) (br.mk f_A fs.length f_C) (br.mk b_A bs.length b_C)))).ro,(bV g1 263 [(vP gw)]).ro,(bV g2 3 [(vI (b:Int))]).ro]) (fun c (z:aq)=>(c= .ret∧(Z z)∧(Fo A0 w0 z))) (fun _ z=>[(bV b2 277 [(Value.func (.yield l) #[] #[])]),z,(rd e_A e.length 1 (e.map iC)).ro,(rd t_A tms.length 1 (List.zipWith gD tms tb)).ro,(eX (aV ru tms tb)).ro,(rd f_A fs.length 1 (List.zipWith gD fs fb)).ro,(eX (aV nT fs fb)).ro,(rd b_A bs.length 1 (List.zipWith gD bs bb)).ro,(eX (aV nT bs bb)).ro,(bV gw 274 (bW.cells (bW.mk ln ri (br.mk e_A e.length e_C) (br.mk t_A tms.length t_C) (br.mk f_A fs.length f_C) (br.mk b_A bs.length b_C)))).ro,(bV g1 263 [(vP gw)]).ro,(bV g2 3 [(vI (b:Int))]).ro]) [6,7,8,9,10,11,12,13,14,15,16,17] [3,2,1,0,4,5] (([]:List (Int×aa)),A0) rfl rfl (r_ ln ri e tms e_A e_C tb t_A t_C f_A fs.length f_C b_A bs.length b_C gw b C2 C3 I I) rfl rfl rfl (by exact ⟨lu.nil,FS,Eq⟩) (by simp only [List.forall_mem_cons,List.not_mem_nil,false_imp_iff,implies_true,and_true]; exact ⟨⟨_,aR (i:=0) rfl,(dD (bP _))⟩,⟨_,aR (i:=1) rfl,(dD (bP _))⟩,⟨_,aR (i:=2) rfl,(dD (bP _))⟩,⟨_,aR (i:=3) rfl,(dD (bP _))⟩,⟨_,aR (i:=4) rfl,(bP _)⟩,⟨_,aR (i:=5) rfl,(bP _)⟩⟩) (by rintro k x k2 ⟨o,_,rfl,_⟩; rfl) rfl (aT rfl) ?_ ?_ ?_ ?_
 rotate_left 1
 ·rintro K5 k ⟨ys,A⟩ Ck Ah
  obtain ⟨X,Y,a⟩:=Ah
  try dsimp only at X Y a
  try dsimp only
  refine aG ?_
  refine hN _ _ _ (ou 0 U U<|gX (vs:=[]) trivial fun w hs=>Kp 8 U (by exact lu.fin X Ck) Y a hs)
 ·rintro LA id A C0
  simp at C0
 ·rintro LE A C1
  obtain ⟨hc,Go,Gr⟩:=C1
  try dsimp only
  refine hQ _ _ _ (ou 0 U U<|gX (vs:=[]) trivial fun w hs=>rF 8 U Go Gr hs)
 rintro k x k2 ⟨ys,A⟩ lr ra rb S w1 K8 Qr9 G2 hx AO GE B7 If Di
 obtain ⟨o,ho,rfl,rfl⟩:=hx
 obtain ⟨X,Y,a⟩:=AO
 try dsimp only at X Y a
 try dsimp only
 refine WS fun _ A4=>rP 1 [] mn ?_
 refine RK A4<|aj<|AL U de fun Ik=>fP U cm U<|aC<|jE (fun _ _ h=>h) (aH [1,0,2,3,4,5,6,7,8,9,10,11,12,13])<|aS (GE _ _ ?_)
 refine av<|ah fun _ A5=>dB cu 7 kr<|mP 1 [] (mr 12 U mn) U<|dS (SX (bI U U) U U)<|dP 3 [0,1] (mr 11 U (mr 13 U mn)) ?_
 obtain ⟨ga,s⟩:=aJ fb b I
 have Cp:(List.zipWith gD fs fb)[b]? =some (gD mf ga):=dA hm1 s
 refine dS (IA b U (aD 7 U) oq dc I I)<|dS (fV b 0 (Value.map (some ga)) U bX (aD 7 U) Cp U dc U)<|cM<|jR (kV:=dU) (m:=bL iV mf) 8 U U o2 U ⟨⟨(gZ dU ga (bL iV mf)),(bM hm1 s (by simp [nT])),U⟩,fun h=>h⟩ (show il _ (gZ dU ga (bL iV mf)).holds from du 8 U (bM hm1 s (by simp [nT]))) U fun IO=>?_
 try dsimp only
 refine RK A5<|av ?_
 have C:(∀ p∈mf,p∈mf)∧(ni (cE ln ri e tms) b mf mb o mf ys)∧(lu (cE ln ri e tms) b mf mb k ys)∧(J ys A)∧(Fo A0 w0 A):=by exact ⟨fun p hp=>hp,ni.start,X,Y,a⟩
 refine bH (ι:={z:FM×(List (Int×aa))×aq // (∀ p∈z.1,p∈mf)∧(ni (cE ln ri e tms) b mf mb o z.1 z.2.1)∧(lu (cE ln ri e tms) b mf mb k z.2.1)∧(J z.2.1 z.2.2)∧(Fo A0 w0 z.2.2)}) [0,1,2,3,4,5,23] [1,2,3,5,6,7,8,9,10,11,12,13,14] U U (fun z=>[]) (fun z=>[(zC dU IO ga (bL iV mf) (bL iV z.1.1) none),z.1.2.2]) (fun _=>rfl) (fun _=>rfl) (fun z=>z.1.1.length) ⟨(mf,ys,A),C⟩ (dh.nil _) (aH [1,2,3,5,6,7,8,9,10,11,12,13,14,0,4]) ?_
 clear C
 rintro ⟨⟨left,ys,A⟩,⟨K,M,N,O,P⟩⟩ J15 A3
 try dsimp only at K M N O P
 try dsimp only
 refine WS fun _ j=>jg oO.inj (f:=iV) 13 U U U U (fun Dt=>?_) (fun t v hm hn=>?_)
 ·refine rP 1 [] mn ?_
  refine RK j<|ah fun _ IX=>aW U<|bu<|ab<|ab<|au<|aG ?_
  exact B7 (ys,A) _ _ (by exact ⟨lu.next N M Dt,O,P⟩) (aH [0,2,14,3,4,5,6,7,8,9,10,11,12])
 try dsimp only
 refine bf 1 U<|RK j<|ah fun _ A6=>aO U<|WK A6<|av<|WS fun _ A7=>rS (SX (jc 13 U U U) U U)<|bf 2 U<|AL U tx fun In=>fP U rL U<|bf 1 U<|RK A7<|ah fun _ A8=>dB cu 8 kr<|mP 1 [] (mr 12 U mn) U<|dS (SX (bI U U) U U)<|dP 4 [0,1] (mr 11 U (mr 13 U mn)) ?_
 obtain ⟨gb,AC⟩:=aJ bb (b+1) I
 have Cx:(List.zipWith gD bs bb)[(b+1)]? =some (gD mb gb):=dA hm2 AC
 refine dS (IA (b+1) U (aD 9 U) oq dc I I)<|dS (fV (b+1) 0 (Value.map (some gb)) U bX (aD 9 U) Cx U dc U)<|cM<|jR (kV:=dU) (m:=bL iV mb) 10 U U o2 U ⟨⟨(gZ dU gb (bL iV mb)),(bM hm2 AC (by simp [nT])),U⟩,fun h=>h⟩ (show il _ (gZ dU gb (bL iV mb)).holds from du 10 U (bM hm2 AC (by simp [nT]))) U fun IR=>?_
 try dsimp only
 refine RK A8<|av ?_
 have C:(∀ p∈mb,p∈mb)∧(ng (cE ln ri e tms) b mb o (t,v) mb ys)∧(ni (cE ln ri e tms) b mf mb o left ys)∧(lu (cE ln ri e tms) b mf mb k ys)∧(J ys A)∧(Fo A0 w0 A):=by exact ⟨fun p hp=>hp,ng.start,M,N,O,P⟩
 refine bH (ι:={z:FM×(List (Int×aa))×aq // (∀ p∈z.1,p∈mb)∧(ng (cE ln ri e tms) b mb o (t,v) z.1 z.2.1)∧(ni (cE ln ri e tms) b mf mb o left z.2.1)∧(lu (cE ln ri e tms) b mf mb k z.2.1)∧(J z.2.1 z.2.2)∧(Fo A0 w0 z.2.2)}) [0,1,2,3,4,5,6,7,23,37] [1,2,3,4,5,6,7,8,9,10,11,12,13,14,15] U U (fun z=>[]) (fun z=>[(zC dU IR gb (bL iV mb) (bL iV z.1.1) none),z.1.2.2]) (fun _=>rfl) (fun _=>rfl) (fun z=>z.1.1.length) ⟨(mb,ys,A),C⟩ (dh.nil _) (aH [1,2,3,4,5,6,7,8,9,10,11,12,13,14,15,0,16]) ?_
 clear C
 rintro ⟨⟨l2,T,A2⟩,⟨B,D,E,G,H,AB⟩⟩ J23 V
 try dsimp only at B D E G H AB
 try dsimp only
 refine WS fun _ r=>jg oO.inj (f:=iV) 15 U U U U (fun EQ=>?_) (fun u z L Al=>?_)
 ·refine rP 1 [] mn ?_
  refine RK r<|ah fun _ Id=>aW U<|bu<|ab<|ab<|au<|aG<|gS 14 U fr U ?_
  refine aS (A3 ⟨((cq left t),T,A2),⟨mC K,ni.next hn hm E D EQ,G,H,AB⟩⟩ _ _ _ U (eN hm) (aT U) (aH [1,2,3,4,5,6,7,8,9,10,11,12,13,14,16]))
 try dsimp only
 refine bf 1 U<|RK r<|ah fun _ A9=>aO U<|WK A9<|av<|WS fun _ Bi=>rS (SX (jc 15 U U U) U U)<|bf 2 U<|AL U tx fun Jg=>fP U rL U<|rP 1 [] mn ?_
 refine RK Bi<|ah fun _ B3=>dG cu [17,18] [] [] [0,1,2,3,4,5,6,7,8,9,10,11,12,13,14,15,16,17] [] U U U U U<|eS U (MV U)<|eS U (TQ 13 U bX U)<|eS U (SX (bI U U) U U)<|eS U (FA 10 U fu U)<|eS U (Ih (vS e_A e.length e_C) 12 U bX U U)<|eS U (TQ 14 U bX U) ?_
 obtain ⟨y,hy⟩:=aJ e b I
 have H1:=bG iC hy
 refine eS U (IA b U (aD 5 U) cp dc I I)<|eS U (fV b 0 (vI y) U bX (aD 5 U) H1 U dc U) ?_
 have J4:=hw.least y (aR hy)
 have Gf:=LD hw _ _ (hfw.mem hm1 (K _ hm))
 have GT:=Lt hw (hbw.mem hm2 (B _ L))
 have J5:=uv o.1
 have J6:=hw.opt ho
 dsimp only at Gf GT
 refine eS U (BI U (ic ⟨I,I⟩))<|eS U (FA 0 U fu U)<|eS U (L1 (vI o.2.Lo) 3 U bX U U)<|eS U (MX U)<|eS U (MV U)<|eS U (FA 1 U fu U)<|eS U (L1 (vI o.2.Hi) 3 U bX U U)<|eS U (MN U)<|eS U (SX (bh (xs:=[(0,.tmp 54),(1,.tmp 58)]) (cs:=(aa.cells (aa.mk (max (v+y) o.2.Lo) (min z o.2.Hi)))) U U (bg gf U)) U U)<|eU U<|bY U fun T30 B9=>AL U de fun Jm=>aC (B9 _ _ (aH [1,2,3,4,5,6,7,8,9,10,11,12,13,14,15,16,17,18]) ?_)
 refine bY U fun T32 Ci=>fP U cm U<|aC (Ci _ _ (aH [1,2,3,4,5,6,7,8,9,10,11,12,13,14,15,16,17,18]) ?_)
 refine fF U<|KK B3<|ah fun _ R=>dB cu 19 kr<|dP 6 [] (mc 0 U mn) ?_
 refine jk (t:=65) U (aM fun d=>?_) (aL fun d=>?_)
 ·refine lH 3 U<|lH 10 U<|cM<|rP 3 [] mn ?_
  refine RK R<|aW U<|bZ<|aG<|gS 17 U fr U ?_
  refine aS (V ⟨((cq l2 u),T,A2),⟨mC B,ng.skip Al L D (by exact GZ hy d),E,G,H,AB⟩⟩ _ _ _ U (eN L) (aT U) (aH [2,3,4,5,6,7,8,9,10,11,12,13,14,15,16,17,18]))
 refine dP 3 [0,1,2] (mr 14 U (mc 2 U (mc 1 U mn))) ?_
 have J8:(0≤(di t u).right∧(di t u).right≤1000)∧0≤(di t u).eL∧(di t u).eL≤1000:=by simp only [di]; omega
 have J7:(0≤(di (di t u) (fc o.1)).right∧(di (di t u) (fc o.1)).right≤1000)∧0≤(di (di t u) (fc o.1)).eL∧(di (di t u) (fc o.1)).eL≤1000:=by simp only [di]; omega
 refine dS (CL (v_ t u I I) (aI) U)<|lH 1 U<|dS (CL (JD o.1) (aI) U)<|dS (CL (v_ (di t u) (fc o.1) asm I) (aI) U)<|dS (CL (O3 ln ri e tms e_A e_C tb t_A t_C fs bs fb f_A f_C bb b_A b_C gw (di (di t u) (fc o.1)) asm hsg) (bj [6,7,8,9,10,11,12,13]) U)<|dP 2 [] mn ?_
 refine jk (t:=75) U (fun g=>?_) (fun g=>?_)
 ·refine lH 3 U<|cM<|rP 3 [] mn ?_
  refine RK R<|aW U<|bZ<|aG<|gS 17 U fr U ?_
  refine aS (V ⟨((cq l2 u),T,A2),⟨mC B,ng.skip Al L D (by exact Hm g),E,G,H,AB⟩⟩ _ _ _ U (eN L) (aT U) (aH [2,3,4,5,6,7,8,9,10,11,12,13,14,15,16,17,18]))
 refine dP 3 [0,1] (mc 5 U (mc 0 U mn)) ?_
 refine cM<|ku (k:=T) (k':=(T++[(o.1,(aa.mk (max (v+y) o.2.Lo) (min z o.2.Hi)))])) 18 (by first|exact G2|exact Nat.le_refl _) hY H AB U U U (by exact ⟨(o.1,_),g_.2 ⟨o,ho,(t,v),K _ hm,(u,z),B _ L,(CJ hy d g)⟩,U,U⟩) U U (fun B34 W AA=>?_) (fun B34 W AA=>?_)
 rotate_left 1
 ·refine rP 2 [] mn ?_
  refine RK R<|aO U<|an ?_
  exact Di B34 _ _ (by exact ⟨U,W,AA⟩) (aH [3,5,18,6,7,8,9,10,11,12,13,14,15])
 refine rP 2 [] mn ?_
 refine RK R<|aW U<|bZ<|aG<|gS 17 U fr U ?_
 refine aS (V ⟨((cq l2 u),(T++[(o.1,(aa.mk (max (v+y) o.2.Lo) (min z o.2.Hi)))]),B34),⟨mC B,ng.U9 Al L D (CJ hy d g),E.app,G.app,W,AA⟩⟩ _ _ _ U (eN L) (aT U) (aH [2,3,4,5,6,7,8,9,10,11,12,13,14,15,16,17,18]))
end
section
open Go.RowKit
theorem GK (ln:ck) (ri:eB) (e:List Int) (tms:List TM) (e_A:OA) (e_C:Nat) (tb:List Nat) (t_A:OA) (t_C:Nat) (fs:List FM) (bs:List FM) (fb:List Nat) (f_A:OA) (f_C:Nat) (bb:List Nat) (b_A:OA) (b_C gw:Nat) (hw:HL (cE ln ri e tms)) (hsg:ri.ag.n≤1000) (hn:ln.ae.n=e.length) (hfw:xL (cE ln ri e tms) fs) (hfb:fb.length=fs.length):
 lv Tryz.prog 210 [(vP gw)] [(rd e_A e.length 1 (e.map iC)),(rd t_A tms.length 1 (List.zipWith gD tms tb)),(eX (aV ru tms tb)),(rd f_A fs.length 1 (List.zipWith gD fs fb)),(eX (aV nT fs fb)),(rd b_A bs.length 1 (List.zipWith gD bs bb)),(eX (aV nT bs bb)),(bV gw 274 (bW.cells (bW.mk ln ri (br.mk e_A e.length e_C) (br.mk t_A tms.length t_C) (br.mk f_A fs.length f_C) (br.mk b_A bs.length b_C))))] (fun (x:(OA)×Nat)=>(vS x.1 ((jC (cE ln ri e tms)).length) x.2)) (fun (x:(OA)×Nat)=>True) (fun (x:(OA)×Nat)=>[(own x.1 x.2 3 1 ((jC (cE ln ri e tms)).map iC))]):=by
 have y:e.length≤6:=hw.n
 have u:fs.length=e.length+1:=hfw.len
 refine dj kr Tryz.func210 U U fun w0 Q hQ hN=>?_
 try dsimp only
 refine WS fun _ X=>bf 1 U<|RK X<|WS fun _ Y=>bf 1 U<|RK Y<|ah fun _ Z=>WS fun _ b=>bf 1 U<|rS (SX (bI U U) U U)<|rP 6 [] (mr 7 U mn) ?_
 refine RK b<|av<|fQ 3 1 ?_
 have A:(0≤e.length+1):=by exact Nat.zero_le _
 refine bH (ι:={z:Nat×(OA)×Nat // (z.1≤e.length+1)}) [0,12] [1,2,3,4,5,6,7,8] U U (fun z=>[(3,(vS z.1.2.1 ((kf (cE ln ri e tms) z.1.1).length) z.1.2.2)),(13,(vI (z.1.1:Int)))]) (fun z=>[(own z.1.2.1 z.1.2.2 3 1 ((kf (cE ln ri e tms) z.1.1).map iC))]) (fun _=>rfl) (fun _=>rfl) (fun z=>e.length+1-z.1.1) ⟨(0,none,0),A⟩ (aT U) (aH [1,2,3,4,5,6,7,8,0]) ?_
 clear A
 rintro ⟨⟨n,a,c⟩,G⟩ J5 AB
 try dsimp only at G
 try dsimp only
 refine WS fun _ d=>rP 1 [] mn ?_
 refine RK d<|ah fun _ g=>bK U (aM fun s=>?_) (aL fun s=>?_)
 ·refine bu<|ab<|ab<|au<|KK Z<|WS fun _ P=>?_
  rw [show kf (cE ln ri e tms) n=jC (cE ln ri e tms) by (obtain rfl:n=e.length+1:=by omega); rfl]
  refine rP 2 [] mn ?_
  refine RK P<|an<|LX hQ (a,c) [8] [] mn U U U U ?_
  trivial
 refine WK g<|ah fun _ R=>av<|WS fun _ J=>bf 2 U<|RK J<|WS fun _ K=>bf 1 U<|rS (SX (bI U U) U U)<|rP 3 [] (mr 7 U mn) ?_
 obtain ⟨m,B⟩:=aJ fs n I
 obtain ⟨ma,hm0a⟩:=aJ fb n I
 have hm0m:(List.zipWith gD fs fb)[n]? =some (gD m ma):=dA B hm0a
 refine rS (IA n U (aD 3 U) oq dc I I)<|rS (fV n 0 (Value.map (some ma)) U bX (aD 3 U) hm0m U dc U)<|jR (kV:=dU) (m:=bL iV m) 4 U U o2 U ⟨⟨(gZ dU ma (bL iV m)),(bM B hm0a (by simp [nT])),U⟩,fun h=>h⟩ (show il _ (gZ dU ma (bL iV m)).holds from du 4 U (bM B hm0a (by simp [nT]))) U fun l=>?_
 try dsimp only
 refine RK K<|av ?_
 have A:(∀ p∈m,p∈m)∧(∀ p∈m,p∈m∨kq (cE ln ri e tms) p.1=false):=by exact ⟨fun p hp=>hp,fun p hp=> .inl hp⟩
 refine bH (ι:={z:FM // (∀ p∈z,p∈m)∧(∀ p∈m,p∈z∨kq (cE ln ri e tms) p.1=false)}) [0,3,4,12,13,23] [1,2,3,4,5,6,7,8,9] U U (fun z=>[]) (fun z=>[(zC dU l ma (bL iV m) (bL iV z.1) none)]) (fun _=>rfl) (fun _=>rfl) (fun z=>z.1.length) ⟨m,A⟩ (dh.nil _) (aH [1,2,3,4,5,6,7,8,9,0]) ?_
 clear A
 rintro ⟨left,⟨C,D⟩⟩ J13 H
 try dsimp only
 refine WS fun _ F=>jg oO.inj (f:=iV) 9 U U U U (fun W=>?_) (fun t v hm i=>?_)
 ·refine bf 1 U<|RK F<|ah fun _ o=>aW U<|bu<|ab<|ab<|au<|aG<|KK R<|aj<|rP 2 [] mn ?_
  refine aC ?_
  rw [← Gy (w:=(cE ln ri e tms)) (k:=n) ((BL (hfw.min _ _ B) (hfw.keys _ _ B)).symm.trans (IH D W))]
  have S:(vI (((n+1):Nat):Int))=(vI ((n:Int)+1)):=by exact cI I
  refine aS (AB ⟨((n+1),a,c),(by first|omega|(simp only []; omega))⟩ _ _ _ U os (ct 3<|aX U S<|dh.nil _) (aH [0,1,2,3,4,5,6,7,8]))
 try dsimp only
 refine bf 1 U<|RK F<|ah fun _ L=>aO U<|WK L<|av<|WS fun _ M=>rS (SX (jc 9 U U U) U U)<|bf 1 U<|AL U tx fun q=>fP U rL U<|RK M<|WS fun _ N=>rP 2 [] (mc 0 U mn) ?_
 have j:=LD hw _ _ (hfw.mem B (C _ hm))
 dsimp only at j
 refine rS (CL (O3 ln ri e tms e_A e_C tb t_A t_C fs bs fb f_A f_C bb b_A b_C gw t I hsg) (bj [1,2,3,4,5,6,7,8]) U)<|RK N<|bK U (fun E=>?_) (fun E=>?_)
 ·refine bZ<|aG<|gS 10 U fr U ?_
  refine aS (H ⟨(cq left t),⟨mC C,Jl i hm D (by first|exact E|simpa using E)⟩⟩ _ _ _ U (eN hm) (aT U) (aH [1,2,3,4,5,6,7,8,9,10]))
 refine WS fun _ O=>rP 2 [] mn ?_
 refine cY (xs:=[.tmp 32]) (cs:=[(vI (n:Int))]) U cp jf U U U U (by simp [Value.cells]) U U fun r=>?_
 have hy:ji (cE ln ri e tms) (fwd (cE ln ri e tms) n)=true:=(BL (hfw.min _ _ B) (hfw.keys _ _ B)).symm.trans (Ng (C _ hm) E)
 refine db (es2:=(List.map iC (kf (cE ln ri e tms) (n+1)))) (m':=(kf (cE ln ri e tms) (n+1)).length) 10 U U U p5 U U sm (aZ (es:=List.map iC [(n:Int)]) 0 U U (by simp [bB]) U) (kd _) (by have:=xS (w:=(cE ln ri e tms)) (k:=n); first|omega|(simp; omega)) (by have:=xS (w:=(cE ln ri e tms)) (k:=n); simp only [maxLen]; omega) (by rw [EC hy]; simp) sm U fun AA V=>?_
 try dsimp only
 refine bf 1 U<|RK O<|bu<|iB U<|ab<|au<|aG<|KK R<|aj<|rP 2 [] mn ?_
 refine aC ?_
 have T:(vI (((n+1):Nat):Int))=(vI ((n:Int)+1)):=by exact cI I
 refine aS (AB ⟨((n+1),AA,V),(by first|omega|(simp only []; omega))⟩ _ _ _ U os (ct 3<|aX U T<|dh.nil _) (aH [2,3,4,5,6,7,8,9,10]))
end
section
open Go.RowKit
theorem K9 (ln:ck) (ri:eB) (e:List Int) (tms:List TM) (e_A:OA) (e_C:Nat) (tb:List Nat) (t_A:OA) (t_C gw:Nat) (hw:HL (cE ln ri e tms)) (hn:ln.ae.n=e.length) (htb:tb.length=tms.length):
 Dr Tryz.prog 209 [(vP gw)] [(rd e_A e.length 1 (e.map iC)),(rd t_A tms.length 1 (List.zipWith gD tms tb)),(eX (aV ru tms tb))] (bV gw 274 (bW.cells (bW.mk ln ri (br.mk e_A e.length e_C) (br.mk t_A tms.length t_C) (br.mk none 0 0) (br.mk none 0 0)))) (fun (x:(List FM)×(List Nat)×(OA)×Nat×(List FM)×(List Nat)×(OA)×Nat)=>(vT [])) (fun (x:(List FM)×(List Nat)×(OA)×Nat×(List FM)×(List Nat)×(OA)×Nat)=>xL (cE ln ri e tms) x.1∧uI (cE ln ri e tms) x.2.2.2.2.1∧x.2.1.length=x.1.length∧x.2.2.2.2.2.1.length=x.2.2.2.2.1.length) (fun (x:(List FM)×(List Nat)×(OA)×Nat×(List FM)×(List Nat)×(OA)×Nat)=>(bw [(bV gw 274 (bW.cells (bW.mk ln ri (br.mk e_A e.length e_C) (br.mk t_A tms.length t_C) (br.mk x.2.2.1 x.1.length x.2.2.2.1) (br.mk x.2.2.2.2.2.2.1 x.2.2.2.2.1.length x.2.2.2.2.2.2.2)))),(own x.2.2.1 x.2.2.2.1 278 1 (List.zipWith gD x.1 x.2.1)),(bw (aV nT x.1 x.2.1)),(own x.2.2.2.2.2.2.1 x.2.2.2.2.2.2.2 278 1 (List.zipWith gD x.2.2.2.2.1 x.2.2.2.2.2.1)),(bw (aV nT x.2.2.2.2.1 x.2.2.2.2.2.1))])):=by
 have WG:e.length≤6:=hw.n
 have WH:tms.length=e.length:=hw.times
 refine mI kr Tryz.func209 U U fun w0 Q hQ hN=>?_
 try dsimp only
 refine WS fun _ Di=>uc U U fun W=>RK Di<|WS fun _ EQ=>fw 1 [] (mc 0 U mn) U<|rS (SX (bI U U) U U)<|rP 5 [] (mc 1 U mn) ?_
 refine RK EQ ?_
 refine ob (ι:={z:(OA)×(OA) // True}) [0,1,2] [0,2,3,4] U U (fun z=>[]) (fun z=>[(own z.1.1 (ln.ae.n+1) 278 1 (List.map oC (List.replicate (ln.ae.n+1) (none:Option Nat)))),(own z.1.2 (ln.ae.n+1) 278 1 (List.map oC (List.replicate (ln.ae.n+1) (none:Option Nat)))),(bV gw 274 (bW.cells (bW.mk ln ri (br.mk e_A e.length e_C) (br.mk t_A tms.length t_C) (br.mk z.1.1 (ln.ae.n+1) (ln.ae.n+1)) (br.mk z.1.2 (ln.ae.n+1) (ln.ae.n+1)))))]) (fun _=>rfl) (fun _=>rfl) ?_ fun K4 Eq=>?_
 ·rintro ⟨⟨fA,bA⟩,_⟩
  try dsimp only
  refine CB 6 U U fun wz Sz hz=>?_
  have WD:(List.replicate (ln.ae.n+1) (none:Option Nat)).length=(ln.ae.n+1):=List.length_replicate
  try dsimp only
  refine ob (ι:={z:Nat // True}) [0,1,2] [0,1,2,3,4,6] U U (fun z=>[]) (fun z=>[(bw (aV nT [[((aB.mk 0 0),ri.Start)]] [z.1])),(own fA (ln.ae.n+1) 278 1 (List.map oC (ek [z.1] (ln.ae.n+1))))]) (fun _=>rfl) (fun _=>rfl) ?_ fun K5 Um=>?_
  ·rintro ⟨ga,_⟩
   try dsimp only
   refine ah fun _ FS=>WS fun _ Fd=>rP 2 [] mn ?_
   refine RK Fd<|av<|oy ?_
   have C:(0≤ln.ae.n)∧(([[((aB.mk 0 0),ri.Start)]]).length=0+1)∧(([ga]).length=0+1)∧(pS (cE ln ri e tms) ([[((aB.mk 0 0),ri.Start)]])):=by exact ⟨Nat.zero_le _,rfl,rfl,pS.first⟩
   refine v7 (ι:={z:Nat×(List FM)×(List Nat)×(List Nat) // (z.1≤ln.ae.n)∧(z.2.1.length=z.1+1)∧(z.2.2.1.length=z.1+1)∧(pS (cE ln ri e tms) z.2.1)}) (fun z=>z.1.2.2.2.map lq) (fun z=>[(0,(vP gw)),(1,(vP W)),(2,(vI (ln.ae.n:Int))),(52,(vI (ln.ae.n:Int))),(53,(vI (z.1.1:Int)))]) (fun z=>[(bw (z.1.2.2.2.map lD)),(bV gw 274 (bW.cells (bW.mk ln ri (br.mk e_A e.length e_C) (br.mk t_A tms.length t_C) (br.mk fA (ln.ae.n+1) (ln.ae.n+1)) (br.mk bA (ln.ae.n+1) (ln.ae.n+1))))).ro,(bV W 263 [(vP gw)]),(rd e_A e.length 1 (e.map iC)).ro,(rd t_A tms.length 1 (List.zipWith gD tms tb)).ro,(eX (aV ru tms tb)).ro,(own bA (ln.ae.n+1) 278 1 (List.map oC (List.replicate (ln.ae.n+1) (none:Option Nat)))),(bw (aV nT z.1.2.1 z.1.2.2.1)),(own fA (ln.ae.n+1) 278 1 (List.map oC (ek z.1.2.2.1 (ln.ae.n+1))))]) (fun z=>ln.ae.n-z.1.1) ⟨(0,[[((aB.mk 0 0),ri.Start)]],[ga],([]:List Nat)),C⟩ U (aT U) (aH [0,1,2,3,4,5,6,7,8]) ?_
   clear C
   rintro ⟨⟨b,fs,fb,Tm⟩,⟨Id,A4,If,M⟩⟩ J8 UV
   try dsimp only at Id A4 If M
   try dsimp only
   have WE:(ek fb (ln.ae.n+1)).length=(ln.ae.n+1):=q7 I
   refine WS fun _ Fn=>rP 1 [] mn ?_
   refine RK Fn<|ah fun _ AO=>cy U (aL fun T4=>?_) (aM fun T4=>?_)
   ·refine WK AO<|ah fun _ K8=>av<|WS fun _ LA=>rP 1 [] mn ?_
    refine AL U jf fun s=>GA U BW U U<|RK LA<|ah fun _ LE=>dG cu [6,8] [6] [0] [0,1,2,3,4,5,6,7,8] [0,1,2,3,4,5,6,7,8,9] U U U U U<|eS U (D0 3 U bX U)<|eS U (SX (bI U U) U U)<|eS U (FA 12 U fu U)<|eS U (Ih (vS fA (ln.ae.n+1) (ln.ae.n+1)) 2 U bX U U)<|eS U (D0 0 U bX U)<|eS U (BI U (ic ⟨I,I⟩)) ?_
    obtain ⟨VY,S1⟩:=aJ (ek fb (ln.ae.n+1)) (b+1) I
    have hx17m:(List.map oC (ek fb (ln.ae.n+1)))[(b+1)]? =some (oC VY):=by rw [fq,S1]; rfl
    refine fS U (IA (b+1) U (ai (n:=(ln.ae.n+1)) 9 U sq) oq dc I I) ?_
    refine eU U<|iE U fun T18 Qf=>mB (kV:=dU) U U fun B=>?_
    try dsimp only
    refine aC (Qf _ _ (aH [1,2,3,4,5,6,7,8,9]) (aH [1,2,3,4,5,6,7,8,9,10]) ?_)
    refine bY U fun T20 Qp=>?_
    have R2:((ek fb (ln.ae.n+1)).set (b+1) (some B))=(ek (fb++[B]) (ln.ae.n+1)):=by exact um I I
    refine ew (k:=(b+1)) (o:=0) (vs:=[(Value.map (some B))]) (es':=(List.map oC (ek (fb++[B]) (ln.ae.n+1)))) (C':=[_,_,_,_,_,_,_,_,_,_,(own fA (ln.ae.n+1) 278 1 (List.map oC (ek (fb++[B]) (ln.ae.n+1))))]) 10 U U U Ku U U U U hx17m U dc (by exact (List.map_set (f:=oC) (l:=(ek fb (ln.ae.n+1))) (i:=(b+1)) (a:=(some B))).symm.trans (congrArg _ R2)) U<|aC (Qp _ _ (aH [1,2,3,4,5,6,7,8,9]) ?_)
    refine fF U<|KK LE<|ah fun _ LT=>?_
    have VP:(ek (fb++[B]) (ln.ae.n+1)).length=(ln.ae.n+1):=q7 (by simp; omega)
    obtain ⟨mb,N⟩:=aJ fs b I
    obtain ⟨ga,Z⟩:=aJ fb b I
    refine Gs 9 N Z U U U ?_
    try dsimp only
    refine dB cu 7 kr<|mP 1 [] (mc 6 U mn) U<|dS (SX (bI U U) U U)<|dP 3 [0,1] (mr 5 U (mc 3 U mn)) ?_
    have R6:(List.map oC (ek (fb++[B]) (ln.ae.n+1)))[b]? =some (oC (some ga)):=rQ (oY (Kj Z))
    refine dS (IA b U (ai (n:=(ln.ae.n+1)) 11 U sq) oq dc I I) ?_
    refine dS (fV b 0 (Value.map (some ga)) U bX (ai (n:=(ek (fb++[B]) (ln.ae.n+1)).length) 11 U sm) R6 U dc U)<|cM<|uG 0 U U o2 U U fun B3=>?_
    try dsimp only
    refine RK LT<|av ?_
    have C:(∀ p∈mb,p∈mb)∧(wo (cE ln ri e tms) b ([]:FM))∧(j1 (cE ln ri e tms) b mb ([]:FM) mb):=by exact ⟨fun p hp=>hp,wo.start,j1.start⟩
    refine v7 (ι:={z:FM×FM×(List Nat) // (∀ p∈z.1,p∈mb)∧(wo (cE ln ri e tms) b z.2.1)∧(j1 (cE ln ri e tms) b mb z.2.1 z.1)}) (fun z=>z.1.2.2.map lq) (fun z=>[(0,(vP gw)),(1,(vP W)),(2,(vI (ln.ae.n:Int))),(3,(vP s)),(52,(vI (ln.ae.n:Int))),(53,(vI (b:Int))),(71,(vP B3))]) (fun z=>[(yR dU B3 ga (bL iV mb) (bL iV z.1.1) none),(bw (fp nT fs fb b)),(gZ dU B (bL iV z.1.2.1)),(bV s 3 [(vI (b:Int))]),(bw (z.1.2.2.map lD)),(bV gw 274 (bW.cells (bW.mk ln ri (br.mk e_A e.length e_C) (br.mk t_A tms.length t_C) (br.mk fA (ln.ae.n+1) (ln.ae.n+1)) (br.mk bA (ln.ae.n+1) (ln.ae.n+1))))).ro,(bV W 263 [(vP gw)]),(rd e_A e.length 1 (e.map iC)).ro,(rd t_A tms.length 1 (List.zipWith gD tms tb)).ro,(eX (aV ru tms tb)).ro,(own bA (ln.ae.n+1) 278 1 (List.map oC (List.replicate (ln.ae.n+1) (none:Option Nat)))),(own fA (ln.ae.n+1) 278 1 (List.map oC (ek (fb++[B]) (ln.ae.n+1))))]) (fun z=>z.1.1.length) ⟨(mb,([]:FM),Tm),C⟩ U (aT U) (aH [0,1,2,3,4,5,6,7,8,9,10,11]) ?_
    clear C
    rintro ⟨⟨left,m,A5⟩,⟨c,d,g⟩⟩ J26 Kg
    try dsimp only at c d g
    try dsimp only
    refine WS fun _ Ci=>rV oO.inj (f:=iV) 0 U U U U (fun T6=>?_) (fun t v hm Ik=>?_)
    ·refine bf 1 U<|RK Ci<|ah fun _ V5=>aW U<|bu<|ab<|ab<|au<|aG<|KK K8<|aj<|rP 2 [] mn ?_
     refine aC<|Kh (C':=[(gZ dU ga (bL iV mb)),(bw (fp nT fs fb b)),(gZ dU B (bL iV m)),(bV s 3 [(vI (b:Int))]),(bw (A5.map lD)),(bV gw 274 (bW.cells (bW.mk ln ri (br.mk e_A e.length e_C) (br.mk t_A tms.length t_C) (br.mk fA (ln.ae.n+1) (ln.ae.n+1)) (br.mk bA (ln.ae.n+1) (ln.ae.n+1))))).ro,(bV W 263 [(vP gw)]),(rd e_A e.length 1 (e.map iC)).ro,(rd t_A tms.length 1 (List.zipWith gD tms tb)).ro,(eX (aV ru tms tb)).ro,(own bA (ln.ae.n+1) 278 1 (List.map oC (List.replicate (ln.ae.n+1) (none:Option Nat)))),(own fA (ln.ae.n+1) 278 1 (List.map oC (ek (fb++[B]) (ln.ae.n+1))))]) 0 U Jc U<|IG 1 0 N Z U U U ?_
     try dsimp only
     refine B_ (X':=aV nT (fs++[m]) (fb++[B])) 0 1 U U (zi I U) ?_
     try dsimp only
     have R3:(vI (((b+1):Nat):Int))=(vI ((b:Int)+1)):=by exact cI I
     refine aS (UV ⟨((b+1),(fs++[m]),(fb++[B]),A5),⟨I,by simp; omega,by simp; omega,M.add A4 N d g T6⟩⟩ _ _ _ U os (ct 4<|aX U R3<|dh.nil _) (aH [2,3,4,5,6,7,8,0,9]))
    try dsimp only
    refine bf 1 U<|RK Ci<|ah fun _ La=>aO U<|WK La<|av<|WS fun _ Li=>rS (SX (rZ 0 U U U) U U)<|bf 2 U<|AL U tx fun Jm=>AL U jf fun J2=>ub U rL U<|GA U BW U U<|RK Li<|WS fun _ Lk=>rP 2 [0,1] (mc 8 U (mc 5 U mn)) ?_
    refine cX (uQ gw b) (aI) U fun V0 V8=>?_
    obtain ⟨Cx,C2⟩:=V0
    try dsimp only
    refine RK Lk<|av<|ky 11 U (by exact fun _ h=>h)<|ky 13 U (by exact fun _ h=>h)<|ky 15 U (by exact fun _ h=>h)<|ky 12 U (by exact fun _ h=>h) ?_
    refine nx (L0:=[(0,(vP gw)),(1,(vP W)),(2,(vI (ln.ae.n:Int))),(3,(vP s)),(4,(vP Jm)),(5,(vP J2)),(52,(vI (ln.ae.n:Int))),(53,(vI (b:Int))),(71,(vP B3))]) (F:=[(rd e_A e.length 1 (e.map iC)).ro,(rd t_A tms.length 1 (List.zipWith gD tms tb)).ro,(eX (aV ru tms tb)).ro,(bV gw 274 (bW.cells (bW.mk ln ri (br.mk e_A e.length e_C) (br.mk t_A tms.length t_C) (br.mk fA (ln.ae.n+1) (ln.ae.n+1)) (br.mk bA (ln.ae.n+1) (ln.ae.n+1))))).ro,(bV Cx 263 [(vP gw)]),(bV C2 3 [(vI (b:Int))])]) (fun k (y:FM)=>(nA (cE ln ri e tms) b mb left y (t,v) k)) (fun k y=>[(bV J2 3 [(vI v)]),(bV Jm 280 (aB.cells t)),(yR dU B3 ga (bL iV mb) (bL iV (cq left t)) (some (t,(vI v)))),(bw (fp nT fs fb b)),(gZ dU B (bL iV y)),(bV s 3 [(vI (b:Int))]),(bw (A5.map lD)),(bV gw 274 (bW.cells (bW.mk ln ri (br.mk e_A e.length e_C) (br.mk t_A tms.length t_C) (br.mk fA (ln.ae.n+1) (ln.ae.n+1)) (br.mk bA (ln.ae.n+1) (ln.ae.n+1))))).ro,(bV W 263 [(vP gw)]),(rd e_A e.length 1 (e.map iC)).ro,(rd t_A tms.length 1 (List.zipWith gD tms tb)).ro,(eX (aV ru tms tb)).ro,(own bA (ln.ae.n+1) 278 1 (List.map oC (List.replicate (ln.ae.n+1) (none:Option Nat)))),(own fA (ln.ae.n+1) 278 1 (List.map oC (ek (fb++[B]) (ln.ae.n+1))))]) (fun _ (_:Unit)=>False) (fun _ _=>[]) [6,7,8,9,10,11,12,13,14,15,16,17,18,19] [3,2,1,0,4,5] m rfl rfl (r_ ln ri e tms e_A e_C tb t_A t_C fA (ln.ae.n+1) (ln.ae.n+1) bA (ln.ae.n+1) (ln.ae.n+1) gw b Cx C2 I I) rfl rfl rfl (by exact nA.start d g) (by simp only [List.forall_mem_cons,List.not_mem_nil,false_imp_iff,implies_true,and_true]; exact ⟨⟨_,aR (i:=0) rfl,(dD (bP _))⟩,⟨_,aR (i:=1) rfl,(dD (bP _))⟩,⟨_,aR (i:=2) rfl,(dD (bP _))⟩,⟨_,aR (i:=3) rfl,(dD (bP _))⟩,⟨_,aR (i:=4) rfl,(bP _)⟩,⟨_,aR (i:=5) rfl,(bP _)⟩⟩) (by rintro k x k2 ⟨o,_,rfl,_⟩; rfl) rfl (aT rfl) ?_ ?_ (fun _ _ _ h=>h.elim) (fun _ _ h=>h.elim)
    rotate_left 1
    ·rintro VX k O A3 H1
     have D:=H1
     try dsimp only
     refine aG<|aG<|Mj (X:=A5.map lD) 13 0 U U ?_
     try dsimp only
     refine gS 9 U wy U ?_
     refine aS (Kg ⟨((cq left t),O,(VX::A5)),⟨mC c,D.on,D.next Ik hm A3⟩⟩ _ _ _ U (eN hm) (aT U) (aH [9,10,11,12,0,4,14,1,2,3,18,19]))
    rintro k x k2 O l ra rb S w1 K39 Qr40 VU hx G2 Ly H Vw V2
    obtain ⟨o,ho,rfl,rfl⟩:=hx
    have D:=G2
    try dsimp only
    refine WS fun _ L2=>rP 1 [] mn ?_
    refine RK L2<|aj<|AL U de fun V_=>fP U cm U<|aC<|jE (fun _ _ h=>h) (aH [1,0,2,3,4,5,6,7,8,9,10,11,12,13,14,15])<|aS (Ly _ _ ?_)
    refine av<|ah fun _ L3=>dG cu [16,18] [] [] [0,1,2,3,4,5,6,7,8,9,10,11,12,13,14,15] [] U U U U U<|eS U (D0 2 U bX U)<|eS U (D0 10 U bX U)<|eS U (SX (bI U U) U U)<|eS U (FA 10 U fu U)<|eS U (Ih (vS e_A e.length e_C) 9 U bX U U)<|eS U (D0 7 U bX U) ?_
    obtain ⟨y,hy⟩:=aJ e b I
    have In:=bG iC hy
    refine eS U (IA b U (aD 11 U) cp dc I I)<|eS U (fV b 0 (vI y) U bX (aD 11 U) In U dc U) ?_
    have VO:=hw.least y (aR hy)
    have hp:=M.mem N (c _ hm)
    have U9:=LD hw _ _ hp
    have VS:=uv o.1
    have VT:=hw.opt ho
    have WF:=hw.now
    dsimp only at U9
    refine eS U (BI U (ic ⟨I,I⟩))<|eS U (FA 0 U fu U)<|eS U (L1 (vI o.2.Lo) 1 U bX U U)<|eS U (MX U)<|eS U (LW 3 U bX U U)<|eS U (MV U)<|eS U (CL (JD o.1) (aI) U)<|eS U (CL (v_ t (fc o.1) I I) (aI) U)<|eS U (AG U)<|eU U<|bY U fun T45 Qr=>AL U tx fun WA=>aC (Qr _ _ (aH [1,2,3,4,5,6,7,8,9,10,11,12,13,14,15,16]) ?_)
    refine bY U fun T47 Qs=>fP U rL U<|aC (Qs _ _ (aH [1,2,3,4,5,6,7,8,9,10,11,12,13,14,15,16]) ?_)
    refine fF U<|KK L3<|ah fun _ M2=>dB cu 15 kr<|mP 1 [] (mc 11 U mn) U<|dS (SX (bI U U) U U)<|dP 4 [0,1] (mr 10 U (mc 8 U mn)) ?_
    have R7:(List.map oC (ek (fb++[B]) (ln.ae.n+1)))[(b+1)]? =some (oC (some B)):=rQ (oY (zR I))
    refine dS (IA (b+1) U (ai (n:=(ln.ae.n+1)) 16 U sq) oq dc I I) ?_
    refine dS (fV (b+1) 0 (Value.map (some B)) U bX (ai (n:=(ek (fb++[B]) (ln.ae.n+1)).length) 16 U sm) R7 U dc U)<|mP 1 [] (mc 0 U mn) U<|dS (SX (jW (kV:=dU) (x:=(di t (fc o.1))) (l:=O) (f:=iV) (z:=0) U U U o2 oO VC (by exact aD 7 U)) U U)<|lH 5 U<|cM<|RK M2<|ah fun _ Ah=>dB cu 19 kr<|mP 4 [0,1] (mc 2 U (mc 11 U mn)) U<|dS (SX (bI U U) U U)<|mP 3 [] (mr 10 U mn) U<|dS (MN U)<|dP 2 [] mn ?_
    refine jk (t:=121) U (aM fun P=>?_) (aL fun P=>?_)
    ·refine dP 8 [] mn ?_
     refine cM<|RK Ah<|aW U<|bZ<|aG ?_
     exact H O _ _ (by exact D.skip (Mo hy P)) (aH [1,3,4,5,6,7,8,9,10,11,12,13,14,15,16])
    refine dP 3 [] mn ?_
    refine iX (t:=124) U (fun R=>?_) (fun R=>?_)
    ·rw [Bool.not_eq_true'] at R
     refine lH 5 U<|cM<|RK Ah<|aO U<|dB cu 10 kr<|mP 1 [] (mc 11 U mn) U<|dS (SX (bI U U) U U)<|dP 4 [0,1] (mr 10 U (mc 8 U mn)) ?_
     have R8:(List.map oC (ek (fb++[B]) (ln.ae.n+1)))[(b+1)]? =some (oC (some B)):=rQ (oY (zR I))
     refine dS (IA (b+1) U (ai (n:=(ln.ae.n+1)) 16 U sq) oq dc I I) ?_
     refine dS (fV (b+1) 0 (Value.map (some B)) U bX (ai (n:=(ek (fb++[B]) (ln.ae.n+1)).length) 16 U sm) R8 U dc U)<|dP 2 [] (mc 0 U mn) ?_
     refine cM<|hP (kV:=dU) (x:=(di t (fc o.1))) (C':=[_,_,_,_,_,_,_,(gZ dU B (bL iV (dL O (di t (fc o.1)) (max (v+y) o.2.Lo)))),_,_,_,_,_,_,_,_,_]) 7 U U U U o2 oO U (fK _ _ _ _).symm U<|aC<|aG ?_
     exact H (dL O (di t (fc o.1)) (max (v+y) o.2.Lo)) _ _ (by exact D.set hp ho (zW hy P) (.inl (by simpa using R))) (aH [1,3,4,5,6,7,8,9,10,11,12,13,14,15,16])
    rw [Bool.not_eq_false'] at R
    refine dP 5 [] mn ?_
    refine cM<|RK Ah<|bK U (aM fun u=>?_) (aL fun u=>?_)
    ·refine bZ<|aG ?_
     exact H O _ _ (by exact D.oG (zW hy P) (by simpa using R) u) (aH [1,3,4,5,6,7,8,9,10,11,12,13,14,15,16])
    refine dB cu 10 kr<|mP 1 [] (mc 11 U mn) U<|dS (SX (bI U U) U U)<|dP 4 [0,1] (mr 10 U (mc 8 U mn)) ?_
    have R9:(List.map oC (ek (fb++[B]) (ln.ae.n+1)))[(b+1)]? =some (oC (some B)):=rQ (oY (zR I))
    refine dS (IA (b+1) U (ai (n:=(ln.ae.n+1)) 16 U sq) oq dc I I) ?_
    refine dS (fV (b+1) 0 (Value.map (some B)) U bX (ai (n:=(ek (fb++[B]) (ln.ae.n+1)).length) 16 U sm) R9 U dc U)<|dP 2 [] (mc 0 U mn) ?_
    refine cM<|hP (kV:=dU) (x:=(di t (fc o.1))) (C':=[_,_,_,_,_,_,_,(gZ dU B (bL iV (dL O (di t (fc o.1)) (max (v+y) o.2.Lo)))),_,_,_,_,_,_,_,_,_]) 7 U U U U o2 oO U (fK _ _ _ _).symm U<|aC<|aG ?_
    exact H (dL O (di t (fc o.1)) (max (v+y) o.2.Lo)) _ _ (by exact D.set hp ho (zW hy P) (.inr u)) (aH [1,3,4,5,6,7,8,9,10,11,12,13,14,15,16])
   refine bu<|ab<|ab<|au<|KK FS<|WS fun _ Al=>rP 1 [] mn ?_
   refine AL U jf fun T0=>GA U BW U U<|RK Al<|av ?_
   rw [G8]
   refine oy ?_
   have C:(0≤ln.ae.n+1)∧(([]:List FM).length=0)∧(([]:List Nat).length=0)∧(g5 (cE ln ri e tms) (ln.ae.n+1-0) ([]:List FM)):=by exact ⟨Nat.zero_le _,rfl,rfl,g5.none_⟩
   refine v7 (ι:={z:Nat×(List FM)×(List Nat)×Nat×(List Nat) // (z.1≤ln.ae.n+1)∧(z.2.1.length=z.1)∧(z.2.2.1.length=z.1)∧(g5 (cE ln ri e tms) (ln.ae.n+1-z.1) z.2.1)}) (fun z=>z.1.2.2.2.2.map lq) (fun z=>[(0,(vP gw)),(1,(vP W)),(2,(vI (ln.ae.n:Int))),(12,(Value.pointer (some ⟨z.1.2.2.2.1,0,none⟩)))]) (fun z=>[(bw (aV nT z.1.2.1 z.1.2.2.1)),(bV z.1.2.2.2.1 3 [(vI ((ln.ae.n:Int)-(z.1.1:Int)))]),(bw (z.1.2.2.2.2.map lD)),(bV gw 274 (bW.cells (bW.mk ln ri (br.mk e_A e.length e_C) (br.mk t_A tms.length t_C) (br.mk fA (ln.ae.n+1) (ln.ae.n+1)) (br.mk bA (ln.ae.n+1) (ln.ae.n+1))))).ro,(bV W 263 [(vP gw)]),(rd e_A e.length 1 (e.map iC)).ro,(rd t_A tms.length 1 (List.zipWith gD tms tb)).ro,(eX (aV ru tms tb)).ro,(own bA (ln.ae.n+1) 278 1 (List.map oC (gW z.1.2.2.1 (ln.ae.n+1)))),(bw (aV nT fs fb)),(own fA (ln.ae.n+1) 278 1 (List.map oC (ek fb (ln.ae.n+1))))]) (fun z=>ln.ae.n+1-z.1.1) ⟨(0,([]:List FM),([]:List Nat),T0,Tm),C⟩ U (aT U) (aH [0,1,2,3,4,5,6,7,8,9,10]) ?_
   clear C
   rintro ⟨⟨j,bs,bb,gq,q⟩,⟨A8,A9,Bi,E⟩⟩ J57 B9
   try dsimp only at A8 A9 Bi E
   try dsimp only
   refine ah fun _ A0=>WS fun _ A1=>rP 2 [] (mc 1 U mn) ?_
   refine RK A1<|bK U (aM fun J6=>?_) (aL fun J6=>?_)
   ·refine bu<|ab<|ab<|au ?_
    rw [show (List.map oC (ek fb (ln.ae.n+1)))=(List.zipWith gD fs fb) from by rw [yP I]; exact (Ay I).symm]
    rw [show (List.map oC (gW bb (ln.ae.n+1)))=(List.zipWith gD bs bb) from by rw [HR I]; exact (Ay I).symm]
    refine AI (C1:=[(own fA (ln.ae.n+1) 278 1 (List.zipWith gD fs fb)),(bw (aV nT fs fb)),(own bA (ln.ae.n+1) 278 1 (List.zipWith gD bs bb)),(bw (aV nT bs bb)),(bw (q.map lD))]) hz [10,9,8,0,2] U U (by simp only [fB,List.all_nil,Im,N9,Bool.and_true]; rfl) ?_
    rw [show (bV gw 274 (bW.cells (bW.mk ln ri (br.mk e_A e.length e_C) (br.mk t_A tms.length t_C) (br.mk fA (ln.ae.n+1) (ln.ae.n+1)) (br.mk bA (ln.ae.n+1) (ln.ae.n+1)))))=(bV gw 274 (bW.cells (bW.mk ln ri (br.mk e_A e.length e_C) (br.mk t_A tms.length t_C) (br.mk fA fs.length (ln.ae.n+1)) (br.mk bA bs.length (ln.ae.n+1))))) from by rw [show fs.length=(ln.ae.n+1) from by omega,show bs.length=(ln.ae.n+1) from by omega]]
    refine QC [(bV gw 274 (bW.cells (bW.mk ln ri (br.mk e_A e.length e_C) (br.mk t_A tms.length t_C) (br.mk fA fs.length (ln.ae.n+1)) (br.mk bA bs.length (ln.ae.n+1))))),(own fA (ln.ae.n+1) 278 1 (List.zipWith gD fs fb)),(bw (aV nT fs fb)),(own bA (ln.ae.n+1) 278 1 (List.zipWith gD bs bb)),(bw (aV nT bs bb))] [(bw (q.map lD))] ?_
    refine hN _ _ _ (KT 1 U U<|gX (vs:=[]) trivial fun w hs=>Rm (fs,fb,fA,(ln.ae.n+1),bs,bb,bA,(ln.ae.n+1)) 0 ?_ ?_ U (by show List.all _ _=true; simp only [fB,List.all_nil,Im,Bool.and_true]; rfl) hs)
    ·clear hs w hQ hN A1 A0 Al AO Fn Fd FS EQ Di; rfl
    ·clear hs w hQ hN A1 A0 Al AO Fn Fd FS EQ Di; exact ⟨M.ok (by show fs.length=e.length+1; omega),g5.ok (by have:=E; rwa [show ln.ae.n+1-j=0 by omega] at this) (by show bs.length=e.length+1; omega),dso,dso⟩
   refine WK A0<|ah fun _ Ck=>av<|ah fun _ NE=>?_
   obtain ⟨b,WC⟩: ∃ b:Nat,b+j=ln.ae.n:=⟨ln.ae.n-j,I⟩
   rw [show (ln.ae.n:Int)-(j:Int)=(b:Int) from by omega]
   have V7:(gW bb (ln.ae.n+1)).length=(ln.ae.n+1):=ze I
   refine dG cu [5,12,13,15] [11] [0,1,2] [0,1,2,3,4,5,6,7,9,10] [0,1,2,3,4,5,6,7,8,9,10] U U U U U<|eS U (D0 4 U bX U)<|eS U (SX (bI U U) U U)<|eS U (FA 13 U fu U)<|eS U (Ih (vS bA (ln.ae.n+1) (ln.ae.n+1)) 3 U bX U U)<|eS U (D0 1 U bX U)<|eS U (SX (bh (xs:=[]) (cs:=(aB.cells (aB.mk 0 0))) U U (bg BE U)) U U)<|eS U (D0 4 U bX U)<|eS U (SX (bI U U) U U)<|eS U (FA 7 U fu U)<|eS U (FA 8 U fu U)<|eS U (Ih (vI ri.fZ) 3 U bX U U) ?_
   obtain ⟨VZ,S2⟩:=aJ (gW bb (ln.ae.n+1)) b I
   have hx63m:(List.map oC (gW bb (ln.ae.n+1)))[b]? =some (oC VZ):=by rw [fq,S2]; rfl
   refine fS U (IA b U (ai (n:=(ln.ae.n+1)) 8 U sq) oq dc I I) ?_
   refine eU U<|iE U fun T64 Qx=>mB (kV:=dU) U U fun A=>?_
   try dsimp only
   refine aC (Qx _ _ (aH [1,2,3,4,5,6,7,8,10,11]) (aH [1,2,3,4,5,6,7,8,9,10,11]) ?_)
   refine iE U fun T66 Rb=>?_
   have R4:(dL ([]:List (aB×Int)) (aB.mk 0 0) ri.fZ)=[((aB.mk 0 0),ri.fZ)]:=by rfl
   refine zd (kV:=dU) (x:=(aB.mk 0 0)) (C':=[(gZ dU A (bL iV ([((aB.mk 0 0),ri.fZ)]))),_,_,_,_,_,_,_,_,_,_,_]) 0 U U U U o2 oO U ((fK _ _ _ _).symm.trans (congrArg _ R4)) U<|aC (Rb _ _ (aH [1,2,3,4,5,6,7,8,10,11]) (aH [1,2,3,4,5,6,7,8,9,10,11]) ?_)
   refine iE U fun T68 Rc=>rS (MV U)<|aC (Rc _ _ (aH [1,2,3,4,5,6,7,8,10,11]) (aH [1,2,3,4,5,6,7,8,9,10,11]) ?_)
   refine bY U fun T69 Ru=>?_
   have R5:((gW bb (ln.ae.n+1)).set b (some A))=(gW (A::bb) (ln.ae.n+1)):=by exact HX I
   refine ew (k:=b) (o:=0) (vs:=[(Value.map (some A))]) (es':=(List.map oC (gW (A::bb) (ln.ae.n+1)))) (C':=[_,_,_,_,_,_,_,_,_,(own bA (ln.ae.n+1) 278 1 (List.map oC (gW (A::bb) (ln.ae.n+1)))),_,_]) 9 U U U Ku U U U U hx63m U dc (by exact (List.map_set (f:=oC) (l:=(gW bb (ln.ae.n+1))) (i:=b) (a:=(some A))).symm.trans (congrArg _ R5)) U<|aC (Ru _ _ (aH [1,2,3,4,5,6,7,8,10,11]) ?_)
   refine fF U<|KK NE<|ah fun _ NN=>WS fun _ Ne=>rP 3 [] (mc 2 U mn) ?_
   refine RK Ne<|cy U (aL fun J7=>?_) (aM fun J7=>?_)
   ·refine bu<|ab<|au<|KK Ck<|ah fun _ Op=>WS fun _ Or=>fw 1 [] (mc 2 U mn) U<|RK Or<|aj<|AL U jf fun T2=>GA U BW U U<|RK Op<|aj<|rP 2 [] (mc 0 U mn) ?_
    refine GA U BW U U<|aC ?_
    rw [show (b:Int)-1=(ln.ae.n:Int)-(((j+1):Nat):Int) from by omega]
    refine zt (ms:=bs) (m:=[((aB.mk 0 0),ri.fZ)]) (a:=A) 2 1 U U U ?_
    try dsimp only
    refine aS (B9 ⟨((j+1),([((aB.mk 0 0),ri.fZ)]::bs),(A::bb),T2,q),⟨I,by simp; omega,by simp; omega,by exact g5.end_ (b:=b) E I I (by show e.length≤b; omega)⟩⟩ _ _ _ U os (aT U) (aH [0,1,3,4,5,6,7,8,9,10,11]))
   refine WK NN<|ah fun _ Os=>?_
   have VR:(gW (A::bb) (ln.ae.n+1)).length=(ln.ae.n+1):=ze (by simp; omega)
   obtain ⟨mb,N⟩:=aJ bs 0 I
   obtain ⟨ga,Z⟩:=aJ bb 0 I
   refine Gs 1 N Z U U U ?_
   try dsimp only
   refine dB cu 8 kr<|mP 1 [] (mc 6 U mn) U<|dS (SX (bI U U) U U)<|dP 4 [0,1] (mr 5 U (mc 3 U mn)) ?_
   have ST:(List.map oC (gW (A::bb) (ln.ae.n+1)))[(b+1)]? =some (oC (some ga)):=rQ (tL (i:=1) (by simpa using Z) (by simp; omega))
   refine dS (IA (b+1) U (ai (n:=(ln.ae.n+1)) 10 U sq) oq dc I I) ?_
   refine dS (fV (b+1) 0 (Value.map (some ga)) U bX (ai (n:=(gW (A::bb) (ln.ae.n+1)).length) 10 U sm) ST U dc U)<|cM<|uG 0 U U o2 U U fun B7=>?_
   try dsimp only
   refine RK Os<|av ?_
   have C:(∀ p∈mb,p∈mb)∧(vC (cE ln ri e tms) b ([((aB.mk 0 0),ri.fZ)]))∧(jw (cE ln ri e tms) b mb ([((aB.mk 0 0),ri.fZ)]) mb):=by exact ⟨fun p hp=>hp,vC.start (by show b<e.length; omega),jw.start⟩
   refine v7 (ι:={z:FM×FM×(List Nat) // (∀ p∈z.1,p∈mb)∧(vC (cE ln ri e tms) b z.2.1)∧(jw (cE ln ri e tms) b mb z.2.1 z.1)}) (fun z=>z.1.2.2.map lq) (fun z=>[(0,(vP gw)),(1,(vP W)),(2,(vI (ln.ae.n:Int))),(12,(vP gq)),(171,(vP B7))]) (fun z=>[(yR dU B7 ga (bL iV mb) (bL iV z.1.1) none),(bw (fp nT bs bb 0)),(gZ dU A (bL iV z.1.2.1)),(bV gq 3 [(vI (b:Int))]),(bw (z.1.2.2.map lD)),(bV gw 274 (bW.cells (bW.mk ln ri (br.mk e_A e.length e_C) (br.mk t_A tms.length t_C) (br.mk fA (ln.ae.n+1) (ln.ae.n+1)) (br.mk bA (ln.ae.n+1) (ln.ae.n+1))))).ro,(bV W 263 [(vP gw)]),(rd e_A e.length 1 (e.map iC)).ro,(rd t_A tms.length 1 (List.zipWith gD tms tb)).ro,(eX (aV ru tms tb)).ro,(own bA (ln.ae.n+1) 278 1 (List.map oC (gW (A::bb) (ln.ae.n+1)))),(bw (aV nT fs fb)),(own fA (ln.ae.n+1) 278 1 (List.map oC (ek fb (ln.ae.n+1))))]) (fun z=>z.1.1.length) ⟨(mb,[((aB.mk 0 0),ri.fZ)],q),C⟩ U (aT U) (aH [0,1,2,3,4,5,6,7,8,9,10,11,12]) ?_
   clear C
   rintro ⟨⟨left,m,V⟩,⟨J,K,L⟩⟩ J80 K0
   try dsimp only at J K L
   try dsimp only
   refine WS fun _ Cp=>rV oO.inj (f:=iV) 0 U U U U (fun J9=>?_) (fun t v hm Ik=>?_)
   ·refine bf 1 U<|RK Cp<|ah fun _ V6=>aW U<|bu<|ab<|ab<|au<|aG<|KK Ck<|ah fun _ PC=>WS fun _ PP=>fw 1 [] (mc 3 U mn) U<|RK PP<|aj<|AL U jf fun J3=>GA U BW U U<|RK PC<|aj<|rP 2 [] (mc 0 U mn) ?_
    refine GA U BW U U<|aC<|Kh (C':=[(bV J3 3 [(vI ((b:Int)-1))]),(gZ dU ga (bL iV mb)),(bw (fp nT bs bb 0)),(gZ dU A (bL iV m)),(bV gq 3 [(vI (b:Int))]),(bw (V.map lD)),(bV gw 274 (bW.cells (bW.mk ln ri (br.mk e_A e.length e_C) (br.mk t_A tms.length t_C) (br.mk fA (ln.ae.n+1) (ln.ae.n+1)) (br.mk bA (ln.ae.n+1) (ln.ae.n+1))))).ro,(bV W 263 [(vP gw)]),(rd e_A e.length 1 (e.map iC)).ro,(rd t_A tms.length 1 (List.zipWith gD tms tb)).ro,(eX (aV ru tms tb)).ro,(own bA (ln.ae.n+1) 278 1 (List.map oC (gW (A::bb) (ln.ae.n+1)))),(bw (aV nT fs fb)),(own fA (ln.ae.n+1) 278 1 (List.map oC (ek fb (ln.ae.n+1))))]) 1 U Jc U<|IG 2 1 N Z U U U ?_
    try dsimp only
    rw [show (b:Int)-1=(ln.ae.n:Int)-(((j+1):Nat):Int) from by omega]
    refine zt (ms:=bs) (m:=m) (a:=A) 0 2 U U U ?_
    try dsimp only
    refine aS (B9 ⟨((j+1),(m::bs),(A::bb),J3,V),⟨I,by simp; omega,by simp; omega,by exact g5.more (b:=b) E I I (by show b<e.length; omega) N K L J9⟩⟩ _ _ _ U os (aT U) (aH [0,1,3,4,5,6,7,8,9,10,11]))
   try dsimp only
   refine bf 1 U<|RK Cp<|ah fun _ Pi=>aO U<|WK Pi<|av<|WS fun _ Pl=>rS (SX (rZ 0 U U U) U U)<|bf 2 U<|AL U tx fun J4=>AL U jf fun J5=>ub U rL U<|GA U BW U U<|RK Pl<|WS fun _ Pu=>rP 2 [0,1] (mc 8 U (mc 5 U mn)) ?_
   refine cX (uQ gw b) (aI) U fun V1 V9=>?_
   obtain ⟨C0,C3⟩:=V1
   try dsimp only
   refine RK Pu<|av<|ky 11 U (by exact fun _ h=>h)<|ky 13 U (by exact fun _ h=>h)<|ky 15 U (by exact fun _ h=>h)<|ky 12 U (by exact fun _ h=>h) ?_
   refine nx (L0:=[(0,(vP gw)),(1,(vP W)),(2,(vI (ln.ae.n:Int))),(12,(vP gq)),(13,(vP J4)),(14,(vP J5)),(171,(vP B7))]) (F:=[(rd e_A e.length 1 (e.map iC)).ro,(rd t_A tms.length 1 (List.zipWith gD tms tb)).ro,(eX (aV ru tms tb)).ro,(bV gw 274 (bW.cells (bW.mk ln ri (br.mk e_A e.length e_C) (br.mk t_A tms.length t_C) (br.mk fA (ln.ae.n+1) (ln.ae.n+1)) (br.mk bA (ln.ae.n+1) (ln.ae.n+1))))).ro,(bV C0 263 [(vP gw)]),(bV C3 3 [(vI (b:Int))])]) (fun k (y:FM)=>(nu (cE ln ri e tms) b mb left y (t,v) k)) (fun k y=>[(bV J5 3 [(vI v)]),(bV J4 280 (aB.cells t)),(yR dU B7 ga (bL iV mb) (bL iV (cq left t)) (some (t,(vI v)))),(bw (fp nT bs bb 0)),(gZ dU A (bL iV y)),(bV gq 3 [(vI (b:Int))]),(bw (V.map lD)),(bV gw 274 (bW.cells (bW.mk ln ri (br.mk e_A e.length e_C) (br.mk t_A tms.length t_C) (br.mk fA (ln.ae.n+1) (ln.ae.n+1)) (br.mk bA (ln.ae.n+1) (ln.ae.n+1))))).ro,(bV W 263 [(vP gw)]),(rd e_A e.length 1 (e.map iC)).ro,(rd t_A tms.length 1 (List.zipWith gD tms tb)).ro,(eX (aV ru tms tb)).ro,(own bA (ln.ae.n+1) 278 1 (List.map oC (gW (A::bb) (ln.ae.n+1)))),(bw (aV nT fs fb)),(own fA (ln.ae.n+1) 278 1 (List.map oC (ek fb (ln.ae.n+1))))]) (fun _ (_:Unit)=>False) (fun _ _=>[]) [6,7,8,9,10,11,12,13,14,15,16,17,18,19,20] [3,2,1,0,4,5] m rfl rfl (r_ ln ri e tms e_A e_C tb t_A t_C fA (ln.ae.n+1) (ln.ae.n+1) bA (ln.ae.n+1) (ln.ae.n+1) gw b C0 C3 I I) rfl rfl rfl (by exact nu.start K L) (by simp only [List.forall_mem_cons,List.not_mem_nil,false_imp_iff,implies_true,and_true]; exact ⟨⟨_,aR (i:=0) rfl,(dD (bP _))⟩,⟨_,aR (i:=1) rfl,(dD (bP _))⟩,⟨_,aR (i:=2) rfl,(dD (bP _))⟩,⟨_,aR (i:=3) rfl,(dD (bP _))⟩,⟨_,aR (i:=4) rfl,(bP _)⟩,⟨_,aR (i:=5) rfl,(bP _)⟩⟩) (by rintro k x k2 ⟨o,_,rfl,_⟩; rfl) rfl (aT rfl) ?_ ?_ (fun _ _ _ h=>h.elim) (fun _ _ h=>h.elim)
   rotate_left 1
   ·rintro TC k O A3 A7
    have D:=A7
    try dsimp only
    refine aG<|aG<|Mj (X:=V.map lD) 13 0 U U ?_
    try dsimp only
    refine gS 9 U wy U ?_
    refine aS (K0 ⟨((cq left t),O,(TC::V)),⟨mC J,D.on,D.next Ik hm A3⟩⟩ _ _ _ U (eN hm) (aT U) (aH [9,10,11,12,0,4,14,1,2,3,18,19,20]))
   rintro k x k2 O l ra rb S w1 K95 Qr96 VU hx IB P5 AB Vz V3
   obtain ⟨o,ho,rfl,rfl⟩:=hx
   have D:=IB
   try dsimp only
   refine WS fun _ QB=>rP 1 [] mn ?_
   refine RK QB<|aj<|AL U de fun WB=>fP U cm U<|aC<|jE (fun _ _ h=>h) (aH [1,0,2,3,4,5,6,7,8,9,10,11,12,13,14,15,16])<|aS (P5 _ _ ?_)
   refine av<|ah fun _ Do=>dG cu [16,18] [] [] [0,1,2,3,4,5,6,7,8,9,10,11,12,13,14,15,16] [] U U U U U<|eS U (D0 2 U bX U)<|eS U (FA 1 U fu U)<|eS U (L1 (vI o.2.Hi) 1 U bX U U) ?_
   have hp:=E.UM (b:=b) I N (J _ hm)
   have Uv:=Lt hw hp
   have VS:=uv o.1
   have VT:=hw.opt ho
   dsimp only at Uv
   refine eS U (MN U)<|eS U (D0 10 U bX U)<|eS U (SX (bI U U) U U)<|eS U (FA 10 U fu U)<|eS U (Ih (vS e_A e.length e_C) 9 U bX U U)<|eS U (D0 7 U bX U) ?_
   obtain ⟨y,hy⟩:=aJ e b I
   have In:=bG iC hy
   refine eS U (IA b U (aD 11 U) cp dc I I)<|eS U (fV b 0 (vI y) U bX (aD 11 U) In U dc U) ?_
   have VO:=hw.least y (aR hy)
   refine eS U (BI U (rI ⟨I,I⟩))<|eS U (LW 3 U bX U U)<|eS U (MV U)<|eS U (CL (JD o.1) (aI) U)<|eS U (CL (v_ t (fc o.1) I I) (aI) U)<|eS U (AG U)<|eU U<|bY U fun T101 GE=>AL U tx fun V4=>aC (GE _ _ (aH [1,2,3,4,5,6,7,8,9,10,11,12,13,14,15,16,17]) ?_)
   refine bY U fun T103 GT=>fP U rL U<|aC (GT _ _ (aH [1,2,3,4,5,6,7,8,9,10,11,12,13,14,15,16,17]) ?_)
   refine fF U<|KK Do<|ah fun _ Dt=>dB cu 14 kr<|mP 1 [] (mc 11 U mn) U<|dS (SX (bI U U) U U)<|dP 3 [0,1] (mr 10 U (mc 8 U mn)) ?_
   have IO:(List.map oC (gW (A::bb) (ln.ae.n+1)))[b]? =some (oC (some A)):=rQ (tL (i:=0) rfl (by simp; omega))
   refine dS (IA b U (ai (n:=(ln.ae.n+1)) 15 U sq) oq dc I I) ?_
   refine dS (fV b 0 (Value.map (some A)) U bX (ai (n:=(gW (A::bb) (ln.ae.n+1)).length) 15 U sm) IO U dc U)<|mP 1 [] (mc 0 U mn) U<|dS (SX (jW (kV:=dU) (x:=(di t (fc o.1))) (l:=O) (f:=iV) (z:=0) U U U o2 oO VC (by exact aD 7 U)) U U)<|lH 5 U<|cM<|RK Dt<|WS fun _ Y=>fw 3 [0,1] (mc 3 U (mc 2 U mn)) U<|rS (MN U)<|rP 4 [] (mc 2 U mn) ?_
   refine b_ (t:=217) U (aM fun T=>?_) (aL fun T=>?_)
   ·refine rP 8 [] mn ?_
    refine RK Y<|aW U<|bZ<|aG ?_
    exact AB O _ _ (by exact D.skip (Np T)) (aH [1,3,4,5,6,7,8,9,10,11,12,13,14,15,16,17])
   refine rP 3 [] mn ?_
   refine cQ (t:=220) U (fun AA=>?_) (fun AA=>?_)
   ·rw [Bool.not_eq_true'] at AA
    refine bf 5 U<|RK Y<|aO U<|dB cu 9 kr<|mP 1 [] (mc 11 U mn) U<|dS (SX (bI U U) U U)<|dP 3 [0,1] (mr 10 U (mc 8 U mn)) ?_
    have IR:(List.map oC (gW (A::bb) (ln.ae.n+1)))[b]? =some (oC (some A)):=rQ (tL (i:=0) rfl (by simp; omega))
    refine dS (IA b U (ai (n:=(ln.ae.n+1)) 15 U sq) oq dc I I) ?_
    refine dS (fV b 0 (Value.map (some A)) U bX (ai (n:=(gW (A::bb) (ln.ae.n+1)).length) 15 U sm) IR U dc U)<|dP 2 [] (mc 0 U mn) ?_
    refine cM<|hP (kV:=dU) (x:=(di t (fc o.1))) (C':=[_,_,_,_,_,_,_,(gZ dU A (bL iV (dL O (di t (fc o.1)) ((min v o.2.Hi)-y)))),_,_,_,_,_,_,_,_,_,_]) 7 U U U U o2 oO U (fK _ _ _ _).symm U<|aC<|aG ?_
    exact AB (dL O (di t (fc o.1)) ((min v o.2.Hi)-y)) _ _ (by exact D.set (by show b<e.length; omega) hp ho (Aq hy T) (.inl (by simpa using AA))) (aH [1,3,4,5,6,7,8,9,10,11,12,13,14,15,16,17])
   rw [Bool.not_eq_false'] at AA
   refine rP 5 [] mn ?_
   refine RK Y<|bK U (aM fun AC=>?_) (aL fun AC=>?_)
   ·refine bZ<|aG ?_
    exact AB O _ _ (by exact D.oG (Aq hy T) (by simpa using AA) AC) (aH [1,3,4,5,6,7,8,9,10,11,12,13,14,15,16,17])
   refine dB cu 9 kr<|mP 1 [] (mc 11 U mn) U<|dS (SX (bI U U) U U)<|dP 3 [0,1] (mr 10 U (mc 8 U mn)) ?_
   have IX:(List.map oC (gW (A::bb) (ln.ae.n+1)))[b]? =some (oC (some A)):=rQ (tL (i:=0) rfl (by simp; omega))
   refine dS (IA b U (ai (n:=(ln.ae.n+1)) 15 U sq) oq dc I I) ?_
   refine dS (fV b 0 (Value.map (some A)) U bX (ai (n:=(gW (A::bb) (ln.ae.n+1)).length) 15 U sm) IX U dc U)<|dP 2 [] (mc 0 U mn) ?_
   refine cM<|hP (kV:=dU) (x:=(di t (fc o.1))) (C':=[_,_,_,_,_,_,_,(gZ dU A (bL iV (dL O (di t (fc o.1)) ((min v o.2.Hi)-y)))),_,_,_,_,_,_,_,_,_,_]) 7 U U U U o2 oO U (fK _ _ _ _).symm U<|aC<|aG ?_
   exact AB (dL O (di t (fc o.1)) ((min v o.2.Hi)-y)) _ _ (by exact D.set (by show b<e.length; omega) hp ho (Aq hy T) (.inr AC)) (aH [1,3,4,5,6,7,8,9,10,11,12,13,14,15,16,17])
  refine dG cu [4,11,12,14] [10] [0,1,2] [0,1,2,3,4,6] [0,1,2,3,4,5,6] U U U U U<|eS U (D0 1 U bX U)<|eS U (SX (bI U U) U U)<|eS U (FA 12 U fu U)<|eS U (Ih (vS fA (ln.ae.n+1) (ln.ae.n+1)) 0 U bX U U)<|eS U (SX (bh (xs:=[]) (cs:=(aB.cells (aB.mk 0 0))) U U (bg BE U)) U U)<|eS U (D0 1 U bX U)<|eS U (SX (bI U U) U U)<|eS U (FA 7 U fu U)<|eS U (FA 7 U fu U)<|eS U (Ih (vI ri.Start) 0 U bX U U) ?_
  obtain ⟨x6,VV⟩:=aJ (List.replicate (ln.ae.n+1) (none:Option Nat)) 0 I
  have hx7m:(List.map oC (List.replicate (ln.ae.n+1) (none:Option Nat)))[0]? =some (oC x6):=by rw [fq,VV]; rfl
  refine fS U (IA 0 U (ai (n:=(ln.ae.n+1)) 5 U sq) oq dc U I) ?_
  refine eU U<|iE U fun T8 Go=>mB (kV:=dU) U U fun r=>?_
  try dsimp only
  refine aC (Go _ _ (aH [1,2,3,4,5,7]) (aH [1,2,3,4,5,6,7]) ?_)
  refine iE U fun T10 G=>?_
  have R0:(dL ([]:List (aB×Int)) (aB.mk 0 0) ri.Start)=[((aB.mk 0 0),ri.Start)]:=by rfl
  refine zd (kV:=dU) (x:=(aB.mk 0 0)) (C':=[(gZ dU r (bL iV ([((aB.mk 0 0),ri.Start)]))),_,_,_,_,_,_,_]) 0 U U U U o2 oO U ((fK _ _ _ _).symm.trans (congrArg _ R0)) U<|aC (G _ _ (aH [1,2,3,4,5,7]) (aH [1,2,3,4,5,6,7]) ?_)
  refine iE U fun T12 QI=>rS (MV U)<|aC (QI _ _ (aH [1,2,3,4,5,7]) (aH [1,2,3,4,5,6,7]) ?_)
  refine bY U fun T13 Qa=>?_
  have R1:((List.replicate (ln.ae.n+1) (none:Option Nat)).set 0 (some r))=(ek [r] (ln.ae.n+1)):=by rw [yQ]; exact um rfl sm
  refine ew (k:=0) (o:=0) (vs:=[(Value.map (some r))]) (es':=(List.map oC (ek [r] (ln.ae.n+1)))) (C':=[_,_,_,_,_,_,(own fA (ln.ae.n+1) 278 1 (List.map oC (ek [r] (ln.ae.n+1)))),_]) 6 U U U Ku U U U U hx7m U dc (by exact (List.map_set (f:=oC) (l:=(List.replicate (ln.ae.n+1) (none:Option Nat))) (i:=0) (a:=(some r))).symm.trans (congrArg _ R1)) U<|aC (Qa _ _ (aH [1,2,3,4,5,7]) ?_)
  refine fF U<|ED<|B_ (X:=[]) (X':=aV nT [[((aB.mk 0 0),ri.Start)]] [r]) 0 1 U U U ?_
  try dsimp only
  refine aS (jE (aT U) (aH [1,2,3,4,5,7,0,6]) (Um ⟨r,trivial⟩))
 refine pn cu [0,1,2,3,5,6,8,9,11,12] [4,7,10,13] [false,false,false,false,false,false,false,false,false,false] [] [(bV W 263 [(vP gw)]),(rd e_A e.length 1 (e.map iC)).ro,(rd t_A tms.length 1 (List.zipWith gD tms tb)).ro,(eX (aV ru tms tb)).ro] [] kr (aH [0,2,3,4]) (aH [])<|eS U (D0 0 U bX U)<|eS U (D0 0 U bX U)<|eS U (MV U)<|eS U (BI U (ic ⟨I,I⟩))<|eS U (MV U)<|eS U (BI U (ic ⟨I,I⟩))<|eS U (SX (bI U U) U U)<|eS U (FA 12 U fu U)<|eS U (SX (bI U U) U U)<|eS U (FA 13 U fu U)<|eU U<|iJ [4,7] kr (eE ?_<|eE ?_<|kl)
 rotate_left 1
 ·refine NO U U [4,10,13] fun T5 Gf=>?_
  refine xz (n:=(ln.ae.n+1)) (es:=(List.map oC (List.replicate (ln.ae.n+1) (none:Option Nat)))) U U U Dj I I (by simp only [maxLen]; omega) (by rw [List.map_replicate]; rfl) U fun b6=>?_
  try dsimp only
  refine aC (Gf _ _ (aH [1,3,4,5]) ?_)
  refine N1 4<|NO U U [10,13] fun T7 A2=>?_
  refine xz (n:=(ln.ae.n+1)) (es:=(List.map oC (List.replicate (ln.ae.n+1) (none:Option Nat)))) U U U Dj I I (by simp only [maxLen]; omega) (by rw [List.map_replicate]; rfl) U fun b8=>?_
  try dsimp only
  refine aC (A2 _ _ (aH [2,4,5,6]) ?_)
  refine N1 10<|NO U U [13] fun T9 Gr=>SQ (bW.cells (bW.mk ln ri (br.mk e_A e.length e_C) (br.mk t_A tms.length t_C) (br.mk (some ⟨b8,0,none⟩) (ln.ae.n+1) (ln.ae.n+1)) (br.mk none 0 0))) U yY U U<|aC (Gr _ _ (aH [2,4,5,6]) ?_)
  refine N1 13<|NO U U [] fun T10 G=>SQ (bW.cells (bW.mk ln ri (br.mk e_A e.length e_C) (br.mk t_A tms.length t_C) (br.mk (some ⟨b8,0,none⟩) (ln.ae.n+1) (ln.ae.n+1)) (br.mk (some ⟨b6,0,none⟩) (ln.ae.n+1) (ln.ae.n+1)))) U yY U U<|aC (G _ _ (aH [2,4,5,6]) ?_)
  refine pR ?_
  refine aS (jE (aT U) (aH [2,4,5,6,0,1,3]) (Eq ⟨((some ⟨b8,0,none⟩),(some ⟨b6,0,none⟩)),trivial⟩))
 refine NO U U [7,10,13] fun T5 Gf=>?_
 refine xz (n:=(ln.ae.n+1)) (es:=(List.map oC (List.replicate (ln.ae.n+1) (none:Option Nat)))) U U U Dj I I (by simp only [maxLen]; omega) (by rw [List.map_replicate]; rfl) U fun b6=>?_
 try dsimp only
 refine aC (Gf _ _ (aH [1,3,4,5]) ?_)
 refine iJ [7,10] kr (eE ?_<|eE ?_<|kl)
 rotate_left 1
 ·refine NO U U [7,13] fun T7 A2=>VE (bW.cells (bW.mk ln ri (br.mk e_A e.length e_C) (br.mk t_A tms.length t_C) (br.mk (some ⟨b6,0,none⟩) (ln.ae.n+1) (ln.ae.n+1)) (br.mk none 0 0))) U yY U U<|aC (A2 _ _ (aH [1,3,4,5]) ?_)
  refine N1 7<|NO U U [13] fun T8 Go=>?_
  refine xz (n:=(ln.ae.n+1)) (es:=(List.map oC (List.replicate (ln.ae.n+1) (none:Option Nat)))) U U U Dj I I (by simp only [maxLen]; omega) (by rw [List.map_replicate]; rfl) U fun r=>?_
  try dsimp only
  refine aC (Go _ _ (aH [2,4,5,6]) ?_)
  refine N1 13<|NO U U [] fun T10 G=>SQ (bW.cells (bW.mk ln ri (br.mk e_A e.length e_C) (br.mk t_A tms.length t_C) (br.mk (some ⟨b6,0,none⟩) (ln.ae.n+1) (ln.ae.n+1)) (br.mk (some ⟨r,0,none⟩) (ln.ae.n+1) (ln.ae.n+1)))) U yY U U<|aC (G _ _ (aH [2,4,5,6]) ?_)
  refine pR ?_
  refine aS (jE (aT U) (aH [2,4,5,6,1,0,3]) (Eq ⟨((some ⟨b6,0,none⟩),(some ⟨r,0,none⟩)),trivial⟩))
 refine NO U U [10,13] fun T7 A2=>?_
 refine xz (n:=(ln.ae.n+1)) (es:=(List.map oC (List.replicate (ln.ae.n+1) (none:Option Nat)))) U U U Dj I I (by simp only [maxLen]; omega) (by rw [List.map_replicate]; rfl) U fun b8=>?_
 try dsimp only
 refine aC (A2 _ _ (aH [2,4,5,6]) ?_)
 refine N1 10<|NO U U [13] fun T9 Gr=>SQ (bW.cells (bW.mk ln ri (br.mk e_A e.length e_C) (br.mk t_A tms.length t_C) (br.mk (some ⟨b6,0,none⟩) (ln.ae.n+1) (ln.ae.n+1)) (br.mk none 0 0))) U yY U U<|aC (Gr _ _ (aH [2,4,5,6]) ?_)
 refine N1 13<|NO U U [] fun T10 G=>SQ (bW.cells (bW.mk ln ri (br.mk e_A e.length e_C) (br.mk t_A tms.length t_C) (br.mk (some ⟨b6,0,none⟩) (ln.ae.n+1) (ln.ae.n+1)) (br.mk (some ⟨b8,0,none⟩) (ln.ae.n+1) (ln.ae.n+1)))) U yY U U<|aC (G _ _ (aH [2,4,5,6]) ?_)
 refine pR ?_
 refine aS (jE (aT U) (aH [2,4,5,6,1,0,3]) (Eq ⟨((some ⟨b6,0,none⟩),(some ⟨b8,0,none⟩)),trivial⟩))
end
section
open Go.RowKit
theorem D1 (l:a_) (kA:OA) (kC:Nat) (az:List RA) (cA:OA) (cC:Nat) (bA:OA) (bC g1:Nat) (bm:Int) (g2:Nat) (hin:ep l az):
 dT Tryz.prog 206 [(vP g1),(vP g2)] [(rd kA l.aP.length 9 (l.aP.map al.cells)),(rd cA l.ak.length 2 (List.zipWith ar.cells l.ak az)),(eX (aV ar.g0 l.ak az)),(rd bA l.ae.length 4 (l.ae.map bD.cells)),(bV g1 31 (ck.cells (lk l kA kC cA cC bA bC))),(bV g2 3 [(vI bm)])] (vI (jA l bm)):=by
 have K:=hin.sJ
 have J:=hin.sI
 have H:=hin.oF
 have AA:=hin.sE
 refine bx kr Tryz.func206 U U fun L Q hQ hN=>?_
 try dsimp only
 refine WS fun _ B=>bf 1 U<|RK B<|ah fun _ C=>WS fun _ D=>rP 5 [0,1] (mr 4 U (mr 5 U mn)) ?_
 refine cY (xs:=[.tmp 7]) (cs:=[(vI bm)]) U cp jf U U U U (by simp [Value.cells]) U U fun G=>?_
 refine rS (CL (dT.eq (iP 0 ((l.ae.length:Int)-1) ([bm]) (some ⟨G,0,none⟩) 1 (by (simp; done))) cS) (aw (aZ 0 U U (by simp [bB]) U)<|aI) U) ?_
 refine rP 1 [] mn ?_
 refine RK D<|cy U (bp fun A=>?_) (bq fun A=>?_)
 ·refine WS fun _ E=>rP 1 [] mn ?_
  refine RK E<|an<|Q1 hQ U U U ?_
  exact cI (if_neg I).symm
 refine WK C<|WS fun _ F=>rP 1 [] mn ?_
 refine RK F<|an<|Q1 hQ U U U ?_
 exact cI (if_pos I).symm
end
section
open Go.RowKit
theorem MF (l:a_) (kA:OA) (kC:Nat) (az:List RA) (cA:OA) (cC:Nat) (bA:OA) (bC:Nat) (r:cv) (sgA:OA) (sgC:Nat) (f:Value) (X:aq) (me:Int) (gm:Nat) (hf:EB Tryz.prog f [] [X] (.int .i64 me)) (hin:ep l az) (hsl:r.ag.length≤1000000):
 lv Tryz.prog 205 [(vA (ck.cells (lk l kA kC cA cC bA bC))),(vA (eB.cells (mF r sgA sgC))),(vS (some ⟨gm,0,none⟩) 1 1)] [(rd kA l.aP.length 9 (l.aP.map al.cells)),(rd cA l.ak.length 2 (List.zipWith ar.cells l.ak az)),(eX (aV ar.g0 l.ak az)),(rd bA l.ae.length 4 (l.ae.map bD.cells)),(rd sgA r.ag.length 2 (r.ag.map aK.cells)),X,(bV gm 266 [f])] (fun (x:Bool×Int×Nat×(OA)×Nat×(OA)×Nat×(List Nat)×(List FM)×(List Nat)×(OA)×Nat×(List FM)×(List Nat)×(OA)×Nat)=>bif x.1 then (vT [(Value.pointer (some ⟨x.2.2.1,0,none⟩)),(vI 0)]) else (vT [(Value.pointer none),(vI x.2.1)])) (fun (x:Bool×Int×Nat×(OA)×Nat×(OA)×Nat×(List Nat)×(List FM)×(List Nat)×(OA)×Nat×(List FM)×(List Nat)×(OA)×Nat)=>(x.1=true→(eu l r me=0∧xL (cj l r) x.2.2.2.2.2.2.2.2.1∧uI (cj l r) x.2.2.2.2.2.2.2.2.2.2.2.2.1∧x.2.2.2.2.2.2.2.2.2.1.length=x.2.2.2.2.2.2.2.2.1.length∧x.2.2.2.2.2.2.2.2.2.2.2.2.2.1.length=x.2.2.2.2.2.2.2.2.2.2.2.2.1.length∧x.2.2.2.2.2.2.2.1.length=(dQ l r.ag r.ag.length).length))∧(x.1=false→(x.2.1=eu l r me∧ ¬ eu l r me=0))) (fun (x:Bool×Int×Nat×(OA)×Nat×(OA)×Nat×(List Nat)×(List FM)×(List Nat)×(OA)×Nat×(List FM)×(List Nat)×(OA)×Nat)=>bif x.1 then [(bV x.2.2.1 274 (bW.cells (bW.mk (lk l kA kC cA cC bA bC) (mF r sgA sgC) (br.mk x.2.2.2.1 ((cJ l l.ae.length).length) x.2.2.2.2.1) (br.mk x.2.2.2.2.2.1 ((dQ l r.ag r.ag.length).length) x.2.2.2.2.2.2.1) (br.mk x.2.2.2.2.2.2.2.2.2.2.1 x.2.2.2.2.2.2.2.2.1.length x.2.2.2.2.2.2.2.2.2.2.2.1) (br.mk x.2.2.2.2.2.2.2.2.2.2.2.2.2.2.1 x.2.2.2.2.2.2.2.2.2.2.2.2.1.length x.2.2.2.2.2.2.2.2.2.2.2.2.2.2.2)))),(own x.2.2.2.1 x.2.2.2.2.1 3 1 ((cJ l l.ae.length).map iC)),(own x.2.2.2.2.2.1 x.2.2.2.2.2.2.1 64 1 (List.zipWith gD (dQ l r.ag r.ag.length) x.2.2.2.2.2.2.2.1)),(bw (aV ru (dQ l r.ag r.ag.length) x.2.2.2.2.2.2.2.1)),(own x.2.2.2.2.2.2.2.2.2.2.1 x.2.2.2.2.2.2.2.2.2.2.2.1 278 1 (List.zipWith gD x.2.2.2.2.2.2.2.2.1 x.2.2.2.2.2.2.2.2.2.1)),(bw (aV nT x.2.2.2.2.2.2.2.2.1 x.2.2.2.2.2.2.2.2.2.1)),(own x.2.2.2.2.2.2.2.2.2.2.2.2.2.2.1 x.2.2.2.2.2.2.2.2.2.2.2.2.2.2.2 278 1 (List.zipWith gD x.2.2.2.2.2.2.2.2.2.2.2.2.1 x.2.2.2.2.2.2.2.2.2.2.2.2.2.1)),(bw (aV nT x.2.2.2.2.2.2.2.2.2.2.2.2.1 x.2.2.2.2.2.2.2.2.2.2.2.2.2.1))] else []):=by
 have TC:=hin.sJ
 have S1:=hin.sI
 have ST:=hin.oF
 have Sz:=hin.sE
 have S2:=hin.side
 refine dj kr Tryz.func205 U U fun w0 Q hQ hN=>?_
 try dsimp only
 refine WS fun _ Pi=>fM U fun b2=>fM U fun b3=>bf 2 U<|RK Pi<|ah fun _ Pl=>WS fun _ Pu=>fw 1 [] (mc 1 U mn) U<|rS (CL (CD l kA kC az cA cC bA bC hin) (bj [2,3,4,5]) U)<|bf 1 U<|RK Pu<|WS fun _ P5=>rP 2 [] mn ?_
 refine RK P5<|cy U (bp fun h=>?_) (bq fun h=>?_)
 ·refine WS fun _ QB=>rP 3 [] mn ?_
  refine RK QB<|an<|LX hQ (false,(dq l),0,none,0,none,0,[],[],[],none,0,[],[],none,0) [] [] mn U (by rfl) U U ?_
  exact rv<|Jq (od (r:=r) (me:=me) h) h
 refine WK Pl<|ah fun _ QI=>WS fun _ AO=>?_
 have C:dq l=0:=h
 obtain ⟨Li,d⟩:=gF C
 have Qf:=d.head
 unfold gj at Qf
 refine rP 2 [] (mc 0 U mn) ?_
 refine cY (xs:=[.tmp 24]) (cs:=[(vI r.Start)]) U cp jf U U U U (by simp [Value.cells]) U U fun L3=>?_
 refine rS (CL (dT.eq (iP 0 86400000 ([r.Start]) (some ⟨L3,0,none⟩) 1 (by (simp; done))) cS) (aw (aZ 0 U U (by simp [bB]) U)<|aI) U) ?_
 refine rP 2 [] mn ?_
 refine cQ (t:=28) U (bp fun Ne=>?_) (bq fun Ne=>?_)
 ·refine bf 14 U<|RK AO<|aO U<|WS fun _ A6=>rP 2 [] mn ?_
  refine RK A6<|an<|LX hQ (false,51,0,none,0,none,0,[],[],[],none,0,[],[],none,0) [] [] mn U (by rfl) U U ?_
  exact rv<|pO (jd (me:=me) C (fun q:e9 l r=>by have q1:=q.time; have q2:=q.len; omega))
 refine rP 4 [] (mc 1 U mn) ?_
 refine cY (xs:=[.tmp 32]) (cs:=[(vI r.fZ)]) U cp jf U U U U (by simp [Value.cells]) U U fun M2=>?_
 refine rS (CL (dT.eq (iP r.Start 86400000 ([r.fZ]) (some ⟨M2,0,none⟩) 1 (by (simp; done))) cS) (aw (aZ 0 U U (by simp [bB]) U)<|aI) U) ?_
 refine rP 3 [] mn ?_
 refine cQ (t:=37) U (bp fun Or=>?_) (bq fun Or=>?_)
 ·refine bf 5 U<|RK AO<|aO U<|WS fun _ A7=>rP 2 [] mn ?_
  refine RK A7<|an<|LX hQ (false,51,0,none,0,none,0,[],[],[],none,0,[],[],none,0) [] [] mn U (by rfl) U U ?_
  exact rv<|pO (jd (me:=me) C (fun q:e9 l r=>by have q1:=q.time; have q2:=q.len; omega))
 refine rP 5 [] (mc 2 U mn) ?_
 refine RK AO<|cy U (aL fun Os=>?_) (aM fun Os=>?_)
 ·refine WS fun _ A8=>rP 2 [] mn ?_
  refine RK A8<|an<|LX hQ (false,51,0,none,0,none,0,[],[],[],none,0,[],[],none,0) [] [] mn U (by rfl) U U ?_
  exact rv<|pO (jd (me:=me) C (fun q:e9 l r=>by have q1:=q.time; have q2:=q.len; omega))
 refine WK QI<|WS fun _ A9=>rS (SX (bh (xs:=[(0,.const (vI (-1)))]) (cs:=(aK.cells (aK.mk (-1) 0))) U U (bg F3 U)) U U)<|AL U FY fun V=>fP U wM U<|RK A9<|ah fun _ Bi=>dG cu [5,6,7,8] [] [] [0,1,2,3,4,5,6,7,8,9,10,11] [] U U U U U<|eS U (LW 4 U bX U U)<|eS U (LW 3 U bX U U)<|eS U (FA 3 U fu U)<|eS U (L1 (vS bA l.ae.length bC) 4 U bX U U)<|eS U (LN U Qe)<|eU U<|bY U fun T18 If=>?_
 refine xz (n:=l.ae.length) (es:=(List.map oC (List.replicate l.ae.length (none:Option Nat)))) U U U TG I I (by simp only [maxLen]; omega) (by rw [List.map_replicate]; rfl) U fun B=>?_
 try dsimp only
 refine aC (If _ _ (aH [1,2,3,4,5,6,7,8,9,10,11,12]) ?_)
 refine bY U fun T20 Ik=>rS (SX (bh (xs:=[(0,.tmp 44),(1,.tmp 45),(3,.tmp 49)]) (cs:=(bW.cells (bW.mk (lk l kA kC cA cC bA bC) (mF r sgA sgC) (br.mk none 0 0) (br.mk (some ⟨B,0,none⟩) l.ae.length l.ae.length) (br.mk none 0 0) (br.mk none 0 0)))) U U (bg RV U)) U U)<|aC (Ik _ _ (aH [1,2,3,4,5,6,7,8,9,10,11,12]) ?_)
 refine bY U fun T21 In=>fM U fun AB=>aC (In _ _ (aH [2,3,4,5,6,7,8,9,10,11,12,13]) ?_)
 refine bY U fun T23 Jg=>rS (AG U)<|aC (Jg _ _ (aH [2,3,4,5,6,7,8,9,10,11,12,13]) ?_)
 refine fF U<|KK Bi<|ah fun _ B3=>WS fun _ B7=>rP 4 [] (mc 6 U mn) ?_
 refine RK B7<|av ?_
 rw [yQ]
 refine fQ 3 1<|oy ?_
 have E:(0≤l.ae.length)∧(([]:List Nat).length=0):=by exact ⟨Nat.zero_le _,rfl⟩
 refine bH (ι:={z:Nat×(OA)×Nat×(List Nat) // (z.1≤l.ae.length)∧(z.2.2.2.length=z.1)}) [2,3,4,6,7,9,10,54] [4,7,8,9,10,11,12,13,14,15] U U (fun z=>[(55,(vI (z.1.1:Int)))]) (fun z=>[(bw (aV ru (List.replicate z.1.1 ([]:TM)) z.1.2.2.2)),(own z.1.2.1 z.1.2.2.1 3 1 ((cJ l z.1.1).map iC)),(bV AB 274 (bW.cells (bW.mk (lk l kA kC cA cC bA bC) (mF r sgA sgC) (br.mk z.1.2.1 ((cJ l z.1.1).length) z.1.2.2.1) (br.mk (some ⟨B,0,none⟩) l.ae.length l.ae.length) (br.mk none 0 0) (br.mk none 0 0)))),(own (some ⟨B,0,none⟩) l.ae.length 64 1 (List.map oC (ek z.1.2.2.2 l.ae.length)))]) (fun _=>rfl) (fun _=>rfl) (fun z=>l.ae.length-z.1.1) ⟨(0,none,0,([]:List Nat)),E⟩ (aT U) (aH [4,7,8,9,10,11,12,13,14,15,0,1,2,3]) ?_
 clear E
 rintro ⟨⟨b,a,c,fb⟩,⟨Ah,Y⟩⟩ J26 A5
 try dsimp only at Ah Y
 try dsimp only
 have Qp:(ek fb l.ae.length).length=l.ae.length:=q7 I
 refine WS fun _ B9=>rP 1 [] mn ?_
 refine RK B9<|ah fun _ Ci=>cy U (aL fun Op=>?_) (aM fun Op=>?_)
 ·refine WK Ci<|ah fun _ Ck=>av<|WS fun _ Cp=>rP 2 [] mn ?_
  refine RK Cp<|ah fun _ Cx=>dG cu [12,13,16] [4] [0] [0,1,2,3,4,5,6,7,8,9,10,13] [0,1,2,3,4,5,6,7,8,9,10,11,12,13] U U U U U<|eS U (MV U)<|eS U (MV U)<|eS U (SX (bI U U) U U)<|eS U (FA 10 U fu U)<|fS U (L1 (vS a ((cJ l b).length) c) 12 U bX U U)<|eS U (LW 2 U bX U U)<|eS U (MV U)<|eS U (CL (Ph l kA kC az cA cC bA bC (b:Int) hin asm (by exact d.vG) I) (bj [3,4,5,6]) U) ?_
  have Tm:=Gn Li d.vG b
  have T0:=d.Rc b I
  simp only [Int.toNat_natCast]
  refine eS U (BI U (Ff ⟨I,I⟩))<|eS U (FA 1 U fu U)<|eS U (L1 (vI l.g9) 2 U bX U U) ?_
  refine eS U (CL (O7 (1000*(lW l (b:Int).toNat)) l.g9 I (by (simp; omega))) (aI) U) ?_
  refine eS U (SX (bI U U) U U)<|eS U (FA 10 U fu U)<|eU U<|iE U fun T33 Jm=>cY (xs:=[.tmp 69]) (cs:=[(vI (pa (1000*(lW l (b:Int).toNat)) l.g9))]) U cp jf U U U U (by simp [Value.cells]) U U fun R6=>aC (Jm _ _ (aH [1,2,3,4,5,6,7,8,9,10,11,14]) (aH [1,2,3,4,5,6,7,8,9,10,11,12,13,14]) ?_)
  refine bY U fun T35 J2=>?_
  refine db (es2:=(List.map iC (cJ l (b+1)))) (m':=(cJ l (b+1)).length) 12 U U U p5 U U (by simp [dV]) (aZ (es:=List.map iC [(pa (1000*(lW l (b:Int).toNat)) l.g9)]) 0 U U (by simp [bB]) U) (kd _) (by have:=dV (l:=l) (n:=b); first|omega|(simp; omega)) (by simp only [maxLen,dV]; omega) (by rw [vw]; simp [dN]) (by simp [dV]) U fun e g=>?_
  try dsimp only
  refine aC (J2 _ _ (aH [1,2,3,4,5,6,7,8,9,10,11,14]) ?_)
  refine bY U fun T38 J3=>jm (vs:=[(vS e ((cJ l (b+1)).length) g)]) (cs':=(bW.cells (bW.mk (lk l kA kC cA cC bA bC) (mF r sgA sgC) (br.mk e ((cJ l (b+1)).length) g) (br.mk (some ⟨B,0,none⟩) l.ae.length l.ae.length) (br.mk none 0 0) (br.mk none 0 0)))) (C':=[_,_,_,_,_,_,_,_,_,_,_,_,_,(bV AB 274 (bW.cells (bW.mk (lk l kA kC cA cC bA bC) (mF r sgA sgC) (br.mk e ((cJ l (b+1)).length) g) (br.mk (some ⟨B,0,none⟩) l.ae.length l.ae.length) (br.mk none 0 0) (br.mk none 0 0)))),_]) 13 U U U zS U U U U U U U<|aC (J3 _ _ (aH [1,2,3,4,5,6,7,8,9,10,11,14]) ?_)
  refine fF U<|KK Cx<|aj<|bf 1 U<|rS (SX (bI U U) U U)<|rP 3 [] (mc 13 U mn) ?_
  refine mB (kV:=iV) U U fun J=>?_
  try dsimp only
  obtain ⟨Rb,Lo⟩:=aJ (ek fb l.ae.length) b I
  have hx41m:(List.map oC (ek fb l.ae.length))[b]? =some (oC Rb):=by rw [fq,Lo]; rfl
  refine rS (IA b U (ai (n:=l.ae.length) 15 U sq) F6 dc I I) ?_
  have J4:((ek fb l.ae.length).set b (some J))=(ek (fb++[J]) l.ae.length):=by exact um I I
  refine ew (k:=b) (o:=0) (vs:=[(Value.map (some J))]) (es':=(List.map oC (ek (fb++[J]) l.ae.length))) (C':=[_,_,_,_,_,_,_,_,_,_,_,_,_,_,_,(own (some ⟨B,0,none⟩) l.ae.length 64 1 (List.map oC (ek (fb++[J]) l.ae.length)))]) 15 U U U MI U U U U hx41m U dc (by exact (List.map_set (f:=oC) (l:=(ek fb l.ae.length)) (i:=b) (a:=(some J))).symm.trans (congrArg _ J4)) U<|aC<|aG<|KK Ck<|aj<|rP 2 [] mn ?_
  refine aC<|B_ (X':=aV ru (List.replicate (b+1) ([]:TM)) (fb++[J])) 12 0 U U (Og Y) ?_
  try dsimp only
  have J5:(vI (((b+1):Nat):Int))=(vI ((b:Int)+1)):=by exact cI I
  refine aS (A5 ⟨((b+1),e,g,(fb++[J])),⟨I,by simp; omega⟩⟩ _ _ _ U os (ct 8<|aX U J5<|dh.nil _) (aH [2,3,4,5,6,7,8,9,10,11,0,12,13,14]))
 refine bu<|ab<|ab<|au<|KK B3<|ah fun _ C0=>WS fun _ C1=>rP 4 [] (mc 1 U mn) ?_
 refine RK C1<|av ?_
 rw [show (List.replicate b ([]:TM))=dQ l r.ag 0 from by rw [DS,show b=l.ae.length by omega]]
 rw [show cJ l b=cJ l l.ae.length from by rw [show b=l.ae.length by omega]]
 have E:(0≤r.ag.length)∧(qn l r.ag 0):=by exact ⟨Nat.zero_le _,zL⟩
 refine bH (ι:={z:Nat // (z≤r.ag.length)∧(qn l r.ag z)}) [2,3,4,6,7,9,10,83,84] [1,2,3,4,5,6,7,8,9,11,12,13] U U (fun z=>[(85,(vI (z.1:Int)))]) (fun z=>[(bV V 123 (aK.cells (mN r.ag z.1))),(bw (aV ru (dQ l r.ag z.1) fb))]) (fun _=>rfl) (fun _=>rfl) (fun z=>r.ag.length-z.1) ⟨0,E⟩ (aT U) (aH [1,2,3,4,5,6,7,8,9,11,12,13,0,10]) ?_
 clear E
 rintro ⟨i,⟨L2,A⟩⟩ J46 T
 try dsimp only
 have Qr:(dQ l r.ag i).length=l.ae.length:=jl
 have Qp:(ek fb l.ae.length).length=l.ae.length:=q7 I
 refine WS fun _ C2=>rP 1 [] mn ?_
 refine RK C2<|ah fun _ C3=>bK U (aM fun PC=>?_) (aL fun PC=>?_)
 ·refine bu<|ab<|ab<|au<|KK C0<|ah fun _ GT=>ah fun _ Gf=>?_
  have j:e9 l r:=BM I I A I
  refine aj<|bf 3 U<|RK Gf<|av<|jL 2<|ed fun R81 Id=>WS fun _ Go=>rS (SX (bU (r:= .bool true) U U U gQ) U U)<|RK Go<|ah fun _ Gr=>aO U<|WK Gr<|ah fun _ G2=>av<|WS fun _ Hi=>rS (TW 0 0 U Pn U dc U)<|fw 2 [] (mr 8 U mn) U<|RK Hi<|WS fun _ H1=>bf 1 U<|rS (SX (sx U U U (hf) (bj [7])) U U)<|bf 1 U<|RK H1<|WS fun _ IB=>rP 2 [] mn ?_
  refine RK IB<|cy U (bp fun K=>?_) (bq fun K=>?_)
  ·refine WS fun _ IO=>rP 3 [] mn ?_
   refine RK IO<|an<|LX hQ (false,me,0,none,0,none,0,[],[],[],none,0,[],[],none,0) [] [] mn U (by rfl) U U ?_
   exact rv<|Jq (qJ C j K) K
  refine bZ<|aG<|KK G2<|aj<|rS (SX (bU (r:= .int .i64 1) U U U (ic ⟨dc,dc⟩)) U U)<|rP 1 [] mn ?_
  refine RK Id<|ed fun R89 R2=>WS fun _ IR=>rS (SX (bU (r:= .bool false) U U U gQ) U U)<|RK IR<|ah fun _ R1=>aW U<|bu<|ab<|ab<|au<|KK GT<|ah fun _ IX=>?_
  rw [show dQ l r.ag i=dQ l r.ag r.ag.length from by rw [show i=r.ag.length by omega]]
  have A0:(dQ l r.ag r.ag.length).length=l.ae.length:=jl
  rw [show (List.map oC (ek fb l.ae.length))=(List.zipWith gD (dQ l r.ag r.ag.length) fb) from Vp I A0]
  rw [show (bV AB 274 (bW.cells (bW.mk (lk l kA kC cA cC bA bC) (mF r sgA sgC) (br.mk a ((cJ l l.ae.length).length) c) (br.mk (some ⟨B,0,none⟩) l.ae.length l.ae.length) (br.mk none 0 0) (br.mk none 0 0))))=(bV AB 274 (bW.cells (bW.mk (lk l kA kC cA cC bA bC) (mF r sgA sgC) (br.mk a ((cJ l l.ae.length).length) c) (br.mk (some ⟨B,0,none⟩) ((dQ l r.ag r.ag.length).length) l.ae.length) (br.mk none 0 0) (br.mk none 0 0)))) from by rw [A0]]
  have Lk:=o4 Li d j
  have R3:(cJ l l.ae.length).length=l.ae.length:=dV
  refine aj<|rP 1 [] mn ?_
  refine iQ 10 U U U U (K9 (lk l kA kC cA cC bA bC) (mF r sgA sgC) (cJ l l.ae.length) (dQ l r.ag r.ag.length) a c fb (some ⟨B,0,none⟩) l.ae.length AB (by exact Lk) (by exact dV.symm) (by rw [A0]; omega)) U (dR 9 U U (j4 sm) (dR 11 U U (j4 (by rw [List.length_zipWith]; omega)) (dR 13 U U th kh))) U (fun Ly Qa=>?_)
  obtain ⟨G,S,P,R,F,O,N,H⟩:=Ly
  refine Nd (X:=[(bV AB 274 (bW.cells (bW.mk (lk l kA kC cA cC bA bC) (mF r sgA sgC) (br.mk a ((cJ l l.ae.length).length) c) (br.mk (some ⟨B,0,none⟩) ((dQ l r.ag r.ag.length).length) l.ae.length) (br.mk P G.length R) (br.mk N F.length H)))),(own P R 278 1 (List.zipWith gD G S)),(bw (aV nT G S)),(own N H 278 1 (List.zipWith gD F O)),(bw (aV nT F O))]) 10 U U ?_
  try dsimp only
  obtain ⟨Al,LE,LT,La⟩:=Qa
  dsimp only at Al LE LT La
  refine RK IX<|ah fun _ v=>WS fun _ w=>rP 1 [] mn ?_
  refine cX (GK (lk l kA kC cA cC bA bC) (mF r sgA sgC) (cJ l l.ae.length) (dQ l r.ag r.ag.length) a c fb (some ⟨B,0,none⟩) l.ae.length G F S P R O N H AB (by exact Lk) (by (simp; omega)) (by exact dV.symm) (by exact Al) asm) (aw (ai (n:=(cJ l l.ae.length).length) 14 U sm)<|aw (ai (n:=(dQ l r.ag r.ag.length).length) 15 U (by rw [List.length_zipWith]; omega))<|aw (cL 17 U wW)<|aw (ai (n:=G.length) 1 U (by rw [List.length_zipWith]; omega))<|aw (cL 2 U wW)<|aw (ai (n:=F.length) 3 U (by rw [List.length_zipWith]; omega))<|aw (cL 4 U wW)<|fD 0 U U<|aI) U fun L0 Qx=>?_
  obtain ⟨Ru,R0⟩:=L0
  try dsimp only
  refine rP 2 [] mn ?_
  refine RK w<|bK U (aM fun W=>?_) (aL fun W=>?_)
  ·refine WK v<|WS fun _ AC=>rP 3 [] mn ?_
   refine RK AC<|an ?_
   refine LX hQ (true,0,AB,a,c,(some ⟨B,0,none⟩),l.ae.length,fb,G,S,P,R,F,O,N,H) [1,15,16,18,2,3,4,5] [] mn U (by (show List.all _ _=true; simp only [cond_true,fB,List.all_nil,Im,Sy,Bool.and_true]; rfl)) U U ?_
   exact ⟨fun _=>⟨lS C j (by first|rfl|exact K) (fun q=>W (congrArg (fun z:List Int=>(z.length:Int)) q)),Al,LE,LT,La,dso⟩,M5⟩
  refine WS fun _ y=>rP 2 [] mn ?_
  refine RK y<|an<|LX hQ (false,8,0,none,0,none,0,[],[],[],none,0,[],[],none,0) [] [] mn U (by rfl) U U ?_
  exact rv<|pO (pf (me:=me) C j (by first|rfl|exact K) (show jC (cj l r)=[] from jD (Int.natCast_eq_zero.1 W)))
 refine WK C3<|ah fun _ AA=>av<|WS fun _ Di=>rP 1 [] mn ?_
 obtain ⟨x,hx⟩:=aJ r.ag i I
 have Qs:=bG aK.cells hx
 refine rS (IA i U (aD 6 U) z5 dc I I)<|rS (oH i 0 (aK.cells x) U bX (aD 6 U) Qs U dc U U)<|AL U FY fun R7=>bf 1 U<|fP U wM U<|RK Di<|ah fun _ p=>WS fun _ L=>rP 6 [0,1] (mc 2 U (mc 0 U mn)) ?_
 refine cY (xs:=[.tmp 95]) (cs:=[(vI x.gd)]) U cp jf U U U U (by simp [Value.cells]) U U fun NE=>?_
 refine rS (CL (dT.eq (iP 0 ((l.ae.length:Int)-1) ([x.gd]) (some ⟨NE,0,none⟩) 1 (by (simp; done))) cS) (aw (aZ 0 U U (by simp [bB]) U)<|aI) U) ?_
 refine rP 2 [] mn ?_
 refine cQ (t:=99) U (bp fun PP=>?_) (bq fun PP=>?_)
 ·refine bf 27 U<|RK L<|aO U<|WS fun _ Do=>rP 2 [] mn ?_
  refine RK Do<|an<|LX hQ (false,51,0,none,0,none,0,[],[],[],none,0,[],[],none,0) [] [] mn U (by rfl) U U ?_
  exact rv<|pO (jd (me:=me) C (wc hx (by unfold kb lf; omega)))
 refine rP 2 [] (mc 1 U mn) ?_
 refine cY (xs:=[.tmp 101]) (cs:=[(vI x.Read)]) U cp jf U U U U (by simp [Value.cells]) U U fun NN=>?_
 refine rS (CL (dT.eq (iP 0 86400000 ([x.Read]) (some ⟨NN,0,none⟩) 1 (by (simp; done))) cS) (aw (aZ 0 U U (by simp [bB]) U)<|aI) U) ?_
 refine rP 3 [] mn ?_
 refine cQ (t:=106) U (bp fun A1=>?_) (bq fun A1=>?_)
 ·refine bf 20 U<|RK L<|aO U<|WS fun _ Dt=>rP 2 [] mn ?_
  refine RK Dt<|an<|LX hQ (false,51,0,none,0,none,0,[],[],[],none,0,[],[],none,0) [] [] mn U (by rfl) U U ?_
  exact rv<|pO (jd (me:=me) C (wc hx (by unfold kb lf; omega)))
 refine rP 7 [0,1] (mc 2 U (mc 15 U mn)) ?_
 refine cQ (t:=113) U (aL fun A2=>?_) (aM fun A2=>?_)
 ·refine bf 13 U<|RK L<|aO U<|WS fun _ EQ=>rP 2 [] mn ?_
  refine RK EQ<|an<|LX hQ (false,51,0,none,0,none,0,[],[],[],none,0,[],[],none,0) [] [] mn U (by rfl) U U ?_
  exact rv<|pO (jd (me:=me) C (wc hx (by unfold kb lf; omega)))
 refine rP 6 [0,1] (mc 2 U (mc 15 U mn)) ?_
 refine b_ (t:=119) U (aM fun A3=>?_) (aL fun A3=>?_)
 ·refine bf 7 U<|RK L<|aW U<|WK p<|ah fun _ u=>WS fun _ Fn=>fw 2 [0,1] (mc 4 U (mc 2 U mn)) U<|rS (CL (K3 l kA kC az cA cC bA bC x hin asm I) (bj [5,6,7,8]) U)<|AL U de fun R9=>fP U cm U<|RK Fn<|WS fun _ GE=>rP 5 [] (mc 0 U mn) ?_
  refine RK GE<|bK U (aM fun D=>?_) (aL fun D=>?_)
  ·refine WK u<|aj<|rP 1 [] (mc 3 U mn) ?_
   refine jm (vs:=(aK.cells x)) (cs':=(aK.cells x)) (C':=[_,_,_,_,_,_,_,_,_,_,_,_,_,_,_,_,(bV V 123 (aK.cells x)),_]) 16 U U U wM U U U U U U U<|aC<|aG<|KK AA ?_
   have K4:(aK.cells x)=(aK.cells (mN r.ag (i+1))):=by rw [py hx]
   rw [K4]
   refine aj<|rP 2 [] mn ?_
   refine aC ?_
   rw [show (dQ l r.ag i)=(dQ l r.ag (i+1)) from (wF hx D).symm]
   have K5:(vI (((i+1):Nat):Int))=(vI ((i:Int)+1)):=by exact cI I
   refine aS (T ⟨(i+1),⟨I,lz A hx (by unfold kb lf; omega)⟩⟩ _ _ _ U os (ct 9<|aX U K5<|dh.nil _) (aH [4,5,6,7,8,9,10,11,12,13,14,15,16,17]))
  obtain ⟨mb,Z⟩:=aJ (dQ l r.ag i) ((x.gd).toNat) I
  obtain ⟨ga,M⟩:=aJ fb ((x.gd).toNat) I
  refine Gs 17 Z M U U U ?_
  try dsimp only
  refine dB cu 10 kr<|lH 1 U<|dS (SX (bI U U) U U)<|dP 4 [0,1] (mc 16 U (mc 5 U mn)) ?_
  have LA:(List.map oC (ek fb l.ae.length))[(x.gd).toNat]? =some (oC (some ga)):=rQ (oY M)
  refine dS (IA ((x.gd).toNat) U (ai (n:=l.ae.length) 17 U sq) F6 dc I I) ?_
  refine dS (fV ((x.gd).toNat) 0 (Value.map (some ga)) U bX (ai (n:=(ek fb l.ae.length).length) 17 U sm) LA U dc U)<|mP 2 [] (mc 2 U mn) U<|cM<|hP (kV:=iV) (x:=(i:Int)) (C':=[(gZ iV ga (bL dw (dL mb (i:Int) (cz l x)))),_,_,_,_,_,_,_,_,_,_,_,_,_,_,_,_,_,_]) 0 U U U U mm (dC oJ) U (fK _ _ _ _).symm U<|RK u<|aj<|rP 1 [] (mc 5 U mn) ?_
  refine jm (vs:=(aK.cells x)) (cs':=(aK.cells x)) (C':=[_,_,_,_,_,_,_,_,_,_,_,_,_,_,_,_,_,_,(bV V 123 (aK.cells x))]) 18 U U U wM U U U U U U U<|aC<|aG<|KK AA ?_
  have Kg:(aK.cells x)=(aK.cells (mN r.ag (i+1))):=by rw [py hx]
  rw [Kg]
  refine aj<|rP 2 [] mn ?_
  refine aC ?_
  refine Kt (f:=ru) (ms:=(dQ l r.ag i)) (m:=(dL mb (i:Int) (cz l x))) 1 0 (by rw [jl]; omega) M U U U ?_
  rw [yL hx I D Z]
  have K0:(vI (((i+1):Nat):Int))=(vI ((i:Int)+1)):=by exact cI I
  refine aS (T ⟨(i+1),⟨I,lz A hx (by unfold kb lf; omega)⟩⟩ _ _ _ U os (ct 9<|aX U K0<|dh.nil _) (aH [5,6,7,8,9,10,11,12,13,14,15,16,17,0]))
 refine rP 7 [0,1] (mc 2 U (mc 15 U mn)) ?_
 refine RK L<|cy U (aL fun A4=>?_) (aM fun A4=>?_)
 ·refine WS fun _ Eq=>rP 2 [] mn ?_
  refine RK Eq<|an<|LX hQ (false,51,0,none,0,none,0,[],[],[],none,0,[],[],none,0) [] [] mn U (by rfl) U U ?_
  exact rv<|pO (jd (me:=me) C (wc hx (by unfold kb lf; omega)))
 refine WK p<|ah fun _ s=>WS fun _ FS=>fw 2 [0,1] (mc 4 U (mc 2 U mn)) U<|rS (CL (K3 l kA kC az cA cC bA bC x hin asm I) (bj [5,6,7,8]) U)<|AL U de fun R8=>fP U cm U<|RK FS<|WS fun _ Fd=>rP 5 [] (mc 0 U mn) ?_
 refine RK Fd<|bK U (aM fun D=>?_) (aL fun D=>?_)
 ·refine WK s<|aj<|rP 1 [] (mc 3 U mn) ?_
  refine jm (vs:=(aK.cells x)) (cs':=(aK.cells x)) (C':=[_,_,_,_,_,_,_,_,_,_,_,_,_,_,_,_,(bV V 123 (aK.cells x)),_]) 16 U U U wM U U U U U U U<|aC<|aG<|KK AA ?_
  have J8:(aK.cells x)=(aK.cells (mN r.ag (i+1))):=by rw [py hx]
  rw [J8]
  refine aj<|rP 2 [] mn ?_
  refine aC ?_
  rw [show (dQ l r.ag i)=(dQ l r.ag (i+1)) from (wF hx D).symm]
  have J9:(vI (((i+1):Nat):Int))=(vI ((i:Int)+1)):=by exact cI I
  refine aS (T ⟨(i+1),⟨I,lz A hx (by unfold kb lf; omega)⟩⟩ _ _ _ U os (ct 9<|aX U J9<|dh.nil _) (aH [4,5,6,7,8,9,10,11,12,13,14,15,16,17]))
 obtain ⟨mb,Z⟩:=aJ (dQ l r.ag i) ((x.gd).toNat) I
 obtain ⟨ga,M⟩:=aJ fb ((x.gd).toNat) I
 refine Gs 17 Z M U U U ?_
 try dsimp only
 refine dB cu 10 kr<|lH 1 U<|dS (SX (bI U U) U U)<|dP 4 [0,1] (mc 16 U (mc 5 U mn)) ?_
 have K8:(List.map oC (ek fb l.ae.length))[(x.gd).toNat]? =some (oC (some ga)):=rQ (oY M)
 refine dS (IA ((x.gd).toNat) U (ai (n:=l.ae.length) 17 U sq) F6 dc I I) ?_
 refine dS (fV ((x.gd).toNat) 0 (Value.map (some ga)) U bX (ai (n:=(ek fb l.ae.length).length) 17 U sm) K8 U dc U)<|mP 2 [] (mc 2 U mn) U<|cM<|hP (kV:=iV) (x:=(i:Int)) (C':=[(gZ iV ga (bL dw (dL mb (i:Int) (cz l x)))),_,_,_,_,_,_,_,_,_,_,_,_,_,_,_,_,_,_]) 0 U U U U mm (dC oJ) U (fK _ _ _ _).symm U<|RK s<|aj<|rP 1 [] (mc 5 U mn) ?_
 refine jm (vs:=(aK.cells x)) (cs':=(aK.cells x)) (C':=[_,_,_,_,_,_,_,_,_,_,_,_,_,_,_,_,_,_,(bV V 123 (aK.cells x))]) 18 U U U wM U U U U U U U<|aC<|aG<|KK AA ?_
 have J6:(aK.cells x)=(aK.cells (mN r.ag (i+1))):=by rw [py hx]
 rw [J6]
 refine aj<|rP 2 [] mn ?_
 refine aC ?_
 refine Kt (f:=ru) (ms:=(dQ l r.ag i)) (m:=(dL mb (i:Int) (cz l x))) 1 0 (by rw [jl]; omega) M U U U ?_
 rw [yL hx I D Z]
 have J7:(vI (((i+1):Nat):Int))=(vI ((i:Int)+1)):=by exact cI I
 refine aS (T ⟨(i+1),⟨I,lz A hx (by unfold kb lf; omega)⟩⟩ _ _ _ U os (ct 9<|aX U J7<|dh.nil _) (aH [5,6,7,8,9,10,11,12,13,14,15,16,17,0]))
end
section
open Go.RowKit
theorem IZ (l:a_) (kA:OA) (kC:Nat) (az:List RA) (cA:OA) (cC:Nat) (bA:OA) (bC:Nat) (r:cv) (sgA:OA) (sgC:Nat) (bq_:Int) (hin:ep l az) (hsl:r.ag.length≤1000000):
 dT Tryz.prog 204 [(vA (ck.cells (lk l kA kC cA cC bA bC))),(vA (eB.cells (mF r sgA sgC))),(vI bq_)] [(rd kA l.aP.length 9 (l.aP.map al.cells)),(rd cA l.ak.length 2 (List.zipWith ar.cells l.ak az)),(eX (aV ar.g0 l.ak az)),(rd bA l.ae.length 4 (l.ae.map bD.cells)),(rd sgA r.ag.length 2 (r.ag.map aK.cells))] (vT [(vA (aa.cells (eQ l r bq_))),(vI (eK l r bq_))]):=by
 have J4:=hin.sJ
 have If:=hin.sI
 have IB:=hin.oF
 have IX:=hin.sE
 have J2:=hin.side
 refine bx kr Tryz.func204 U U fun w0 Q hQ hN=>?_
 try dsimp only
 refine WS fun _ A1=>fM U fun b2=>fM U fun b3=>uc U U fun b4=>AL U de fun b5=>bf 1 U<|RK A1<|WS fun _ p=>rP 2 [0,1] (mc 3 U (mc 2 U mn)) ?_
 refine rS (FU U)<|cY (xs:=[.tmp 17]) (cs:=[(Value.func (.func 206) [].toArray [(vP b2),(vP b4)].toArray)]) U Pn Ri U U U U (by simp [Value.cells]) U U fun b7=>cX (MF l kA kC az cA cC bA bC r sgA sgC (Value.func (.func 206) [].toArray [(vP b2),(vP b4)].toArray) (eX [(rd kA l.aP.length 9 (l.aP.map al.cells)),(rd cA l.ak.length 2 (List.zipWith ar.cells l.ak az)),(eX (aV ar.g0 l.ak az)),(rd bA l.ae.length 4 (l.ae.map bD.cells)),(bV b2 31 (ck.cells (lk l kA kC cA cC bA bC))),(bV b4 3 [(vI bq_)])]) (jA l bq_) b7 (by exact nE (fi:=[]) (ca:=[(vP b2),(vP b4)]) (l0 (D1 l kA kC az cA cC bA bC b2 bq_ b4 (by first|assumption|omega)) (bj [0,1,2,3,4,5]))) hin hsl) (lB [5,6,7,8,9]<|aw (l5 (bj [5,6,7,8,4,2]))<|fD 0 U U<|aI) U fun y8 Cx=>?_
 obtain ⟨C0,Gf,E,H,AB,g,j,m,B,L,J,K,A,G,d,f⟩:=y8
 cases C0
 ·obtain ⟨B9,he⟩:=Cx.2 rfl
  try dsimp only at B9 he
  subst B9
  try dsimp only [cond_true,cond_false,List.cons_append,List.nil_append]
  refine bf 5 U<|RK p<|ah fun _ Go=>WS fun _ A9=>rP 2 [] mn ?_
  refine RK A9<|bK U (bq fun A8=>?_) (bp fun A8=>?_)
  ·exact absurd A8 he
  refine WS fun _ Bi=>rS (SX (bh (xs:=[]) (cs:=(aa.cells (aa.mk 0 0))) U U (bg gf U)) U U)<|bf 1 U<|ub U cm U<|rP 1 [] mn ?_
  refine RK Bi<|an<|lp hQ [0] (mc 1 U mn) U ?_
  (have e:=nO (b:=bq_) he; rw [e.1,e.2]<;>rfl)
 obtain ⟨he,D,C,Di,C3,EQ⟩:=Cx.1 rfl
 try dsimp only [cond_true,cond_false,List.cons_append,List.nil_append]
 dsimp only at D C Di C3 EQ
 obtain ⟨C2,A5,Dt,In⟩:=jY he
 obtain ⟨Eq,Ck⟩:=gF C2
 have Do:=Ck.head
 unfold gj at Do
 have FS:=o4 Eq Ck A5
 have Jm:=A5.time
 have Jg:=A5.len
 have Ci:(cJ l l.ae.length).length=l.ae.length:=dV
 have Cp:(dQ l r.ag r.ag.length).length=l.ae.length:=jl
 have Ik:B.length=l.ae.length+1:=by have:=D.len; rw [show (cj l r).n=l.ae.length from dV] at this; exact this
 have Id:A.length=l.ae.length+1:=by have:=C.len; rw [show (cj l r).n=l.ae.length from dV] at this; exact this
 obtain ⟨IO,IR⟩:=Dy Dt
 obtain ⟨b,A2⟩: ∃ b:Nat,bq_=(b:Int):=⟨bq_.toNat,I⟩
 rw [A2]
 refine bf 5 U<|RK p<|ah fun _ N=>WS fun _ O=>bf 1 U<|rS (SX (bU (r:= .bool false) U U U mA) U U)<|RK O<|aW U<|WK N<|WS fun _ P=>rS (SX (bh (xs:=[(0,.const (vI 1))]) (cs:=(aa.cells (aa.mk 1 0))) U U (bg gf U)) U U)<|AL U de fun A6=>fP U cm U<|RK P<|WS fun _ R=>fw 1 [] (mc 0 U mn) U<|AL U de fun A7=>fP U cm U<|RK R<|ah fun _ T=>WS fun _ AA=>rP 2 [] (mc 12 U mn) ?_
 obtain ⟨mf,Y⟩:=aJ B b I
 obtain ⟨mb,Z⟩:=aJ A (b+1) I
 refine cX (Js E b) (aI) U fun Fn Gr=>?_
 obtain ⟨AC,AO⟩:=Fn
 try dsimp only
 refine RK AA<|av ?_
 refine nx (L0:=[(3,(vP b2)),(4,(vP b3)),(5,(vP b4)),(6,(vP b5)),(7,(vI 0)),(10,(vP A6)),(11,(vP A7))]) (F:=[(own H AB 3 1 ((cJ l l.ae.length).map iC)),(own g j 64 1 (List.zipWith gD (dQ l r.ag r.ag.length) m)),(bw (aV ru (dQ l r.ag r.ag.length) m)),(own J K 278 1 (List.zipWith gD B L)),(bw (aV nT B L)),(own d f 278 1 (List.zipWith gD A G)),(bw (aV nT A G)),(bV E 274 (bW.cells (bW.mk (lk l kA kC cA cC bA bC) (mF r sgA sgC) (br.mk H ((cJ l l.ae.length).length) AB) (br.mk g ((dQ l r.ag r.ag.length).length) j) (br.mk J B.length K) (br.mk d A.length f)))),(bV AC 263 [(vP E)]),(bV AO 3 [(vI (b:Int))])]) (fun k (y:aa)=>(ki k y)∧(∀ q∈k,q∈pU (cj l r) b mf mb)) (fun k y=>[(bV A7 40 (aa.cells y)),(bV A6 40 (aa.cells (aa.mk 1 0))),(bV b5 40 (aa.cells (aa.mk 0 0))),(bV b4 3 [(vI (b:Int))]),(bV b3 43 (eB.cells (mF r sgA sgC))),(bV b2 31 (ck.cells (lk l kA kC cA cC bA bC))),(rd kA l.aP.length 9 (l.aP.map al.cells)).ro,(rd cA l.ak.length 2 (List.zipWith ar.cells l.ak az)).ro,(eX (aV ar.g0 l.ak az)).ro,(rd bA l.ae.length 4 (l.ae.map bD.cells)).ro,(rd sgA r.ag.length 2 (r.ag.map aK.cells)).ro]) (fun _ (_:Unit)=>False) (fun _ _=>[]) [2,3,13,14,15,16,17,18,19,20,21] [5,6,7,8,9,10,11,4,0,1] mE rfl rfl (GV (lk l kA kC cA cC bA bC) (mF r sgA sgC) (cJ l l.ae.length) (dQ l r.ag r.ag.length) H AB m g j B A L J K G d f E b AC AO mf mb (by rw [Ci]; omega) (by exact FS) (by rw [Cp]; omega) (by exact D) I (by exact C) I (by show r.ag.length≤1000; omega) (by exact Y) (by exact Z)) rfl rfl rfl (by exact ⟨CK,fun q hq=>by cases hq⟩) (by simp only [List.forall_mem_cons,List.not_mem_nil,false_imp_iff,implies_true,and_true]; exact ⟨⟨_,aR (i:=0) rfl,(j4 sm)⟩,⟨_,aR (i:=1) rfl,(j4 (by rw [List.length_zipWith]; omega))⟩,⟨_,aR (i:=2) rfl,th⟩,⟨_,aR (i:=3) rfl,(j4 (by rw [List.length_zipWith]; omega))⟩,⟨_,aR (i:=4) rfl,th⟩,⟨_,aR (i:=5) rfl,(j4 (by rw [List.length_zipWith]; omega))⟩,⟨_,aR (i:=6) rfl,th⟩,⟨_,aR (i:=7) rfl,(bP _)⟩,⟨_,aR (i:=8) rfl,(bP _)⟩,⟨_,aR (i:=9) rfl,(bP _)⟩⟩) (by rintro k x k2 ⟨o,_,rfl,_⟩; rfl) rfl (aT rfl) ?_ ?_ (fun _ _ _ h=>h.elim) (fun _ _ h=>h.elim)
 ·rintro k x k2 h lr ra rb S w1 K41 Qr42 J3 hx A3 B3 X Fd GE
  obtain ⟨q,hq,rfl,rfl⟩:=hx
  obtain ⟨a,c⟩:=A3
  try dsimp only
  refine aj<|AL U de fun G2=>fP U cm U<|aC<|jE (fun _ _ h=>h) (aH [1,0,2,3,4,5,6,7,8,9,10,11,12])<|aS (B3 _ _ ?_)
  refine av<|ah fun _ s=>WS fun _ B7=>rP 2 [0,1] (mc 2 U (mc 3 U mn)) ?_
  refine rS (BI U (Tk _ _ h (aa.mk 1 0)))<|RK B7<|bK U (bq fun M=>?_) (bp fun M=>?_)
  ·refine WK s<|aj<|rP 1 [] (mc 1 U mn) ?_
   refine HT U cm U<|aC<|aG ?_
   exact X q.2 _ _ (by refine ⟨zm a (mY hq) ?_,fun z hz=>?_⟩; (first|exact if_neg M|exact if_pos M); (rcases List.mem_append.1 hz with hz|hz; exact c z hz; (rw [List.mem_singleton.1 hz]; exact hq))) (aH [0,2,3,4,5,6,7,8,9,10,11,12])
  refine aj<|fw 4 [0,1] (mc 1 U (mc 2 U mn)) U<|rS (MN U)<|fw 4 [0,1] (mc 1 U (mc 2 U mn)) U<|rS (MX U)<|rS (SX (bh (xs:=[(0,.tmp 40),(1,.tmp 45)]) (cs:=(aa.cells (aa.mk (min q.2.Lo h.Lo) (max q.2.Hi h.Hi)))) U U (bg gf U)) U U)<|ub U cm U<|RK s<|aj<|rP 1 [] (mc 1 U mn) ?_
  refine HT U cm U<|aC<|aG ?_
  exact X (aa.mk (min q.2.Lo h.Lo) (max q.2.Hi h.Hi)) _ _ (by refine ⟨zm a (mY hq) ?_,fun z hz=>?_⟩; (first|exact if_neg M|exact if_pos M); (rcases List.mem_append.1 hz with hz|hz; exact c z hz; (rw [List.mem_singleton.1 hz]; exact hq))) (aH [0,2,3,4,5,6,7,8,9,10,11,12])
 rintro J6 k h v A4
 obtain ⟨a,c⟩:=A4
 try dsimp only
 refine aG<|KK T<|ah fun _ V=>WS fun _ W=>rP 2 [0,1] (mc 11 U (mc 12 U mn)) ?_
 refine rS (BI U (tI _ _ h (aa.mk 1 0)))<|RK W<|bK U (aM fun A0=>?_) (aL fun A0=>?_)
 ·refine WK V<|WS fun _ u=>fw 1 [] (mc 11 U mn) U<|jm (vs:=(aa.cells h)) (cs':=(aa.cells h)) (C':=[_,_,_,_,_,_,_,_,_,_,_,_,_,(bV b5 40 (aa.cells h)),_,_,_,_,_,_,_,_]) 13 U U U cm U U U U U U U<|rP 1 [] mn ?_
  refine RK u<|an<|hQ _ _ _ (ou 0 U U<|gX (vs:=[(vA (aa.cells h)),(vI 0)]) ⟨⟨_,U,.inl ⟨_,_,bX,pd (vs:=(aa.cells h)) 13 U U,U,U⟩⟩,U,trivial⟩ fun w hs=>D7 ?_ hs)
  show (vT [(vA (aa.cells h)),(vI 0)])=(vT [(vA (aa.cells (eQ l r bq_))),(vI (eK l r bq_))])
  clear hs w hQ hN u W V AA T R P O N p A1
  (rw [A2] at he ⊢; have hh:h=mz l r b:=zB (D.min _ _ Y) (C.max _ _ Z) (D.keys _ _ Y) (C.keys _ _ Z) c v a; (have e:=oi he (fun q=>A0 (hh.trans q)); rw [e.1,e.2,hh]<;>rfl))
 refine WS fun _ t=>rS (SX (bh (xs:=[]) (cs:=(aa.cells (aa.mk 0 0))) U U (bg gf U)) U U)<|jm (vs:=(aa.cells (aa.mk 0 0))) (cs':=(aa.cells (aa.mk 0 0))) (C':=[_,_,_,_,_,_,_,_,_,_,_,_,_,(bV b5 40 (aa.cells (aa.mk 0 0))),_,_,_,_,_,_,_,_]) 13 U U U cm U U U U U U U<|rP 1 [] mn ?_
 refine RK t<|an<|hQ _ _ _ (ou 0 U U<|gX (vs:=[(vA (aa.cells (aa.mk 0 0))),(vI 6)]) ⟨⟨_,U,.inl ⟨_,_,bX,pd (vs:=(aa.cells (aa.mk 0 0))) 13 U U,U,U⟩⟩,U,trivial⟩ fun w hs=>D7 ?_ hs)
 show (vT [(vA (aa.cells (aa.mk 0 0))),(vI 6)])=(vT [(vA (aa.cells (eQ l r bq_))),(vI (eK l r bq_))])
 clear hs w hQ hN t W V AA T R P O N p A1
 (rw [A2] at he ⊢; have hh:h=mz l r b:=zB (D.min _ _ Y) (C.max _ _ Z) (D.keys _ _ Y) (C.keys _ _ Z) c v a; (have e:=qa he (hh.symm.trans A0); rw [e.1,e.2]<;>rfl))
theorem SM (l:a_) (kA:OA) (kC:Nat) (az:List RA) (cA:OA) (cC:Nat) (bA:OA) (bC:Nat) (r:cv) (sgA:OA) (sgC:Nat) (hin:ep l az) (hsl:r.ag.length≤1000000):
 dT Tryz.prog 203 [(vA (ck.cells (lk l kA kC cA cC bA bC))),(vA (eB.cells (mF r sgA sgC)))] [(rd kA l.aP.length 9 (l.aP.map al.cells)),(rd cA l.ak.length 2 (List.zipWith ar.cells l.ak az)),(eX (aV ar.g0 l.ak az)),(rd bA l.ae.length 4 (l.ae.map bD.cells)),(rd sgA r.ag.length 2 (r.ag.map aK.cells))] (vT [(vA (aa.cells (Ao l r))),(vI (eK l r l.cH))]):=by
 have N:=hin.sJ
 have J:=hin.sI
 have H:=hin.oF
 have AA:=hin.sE
 have M:=hin.side
 refine bx kr Tryz.func203 U U fun T Q hQ hN=>?_
 try dsimp only
 refine WS fun _ C=>fM U fun O=>fM U fun P=>AL U de fun R=>bf 1 U<|RK C<|WS fun _ D=>fw 4 [0,1] (mc 2 U (mc 1 U mn)) U<|rS (CL (IZ l kA kC az cA cC bA bC r sgA sgC l.cH hin hsl) (bj [3,4,5,6,7]) U)<|bf 3 U<|AL U de fun S=>fP U cm U<|bf 1 U<|RK D<|ah fun _ E=>WS fun _ F=>rP 2 [] mn ?_
 refine RK F<|cy U (bp fun A=>?_) (bq fun A=>?_)
 ·refine WS fun _ G=>rS (SX (bh (xs:=[]) (cs:=(aa.cells (aa.mk 0 0))) U U (bg gf U)) U U)<|bf 1 U<|ub U cm U<|rP 1 [] mn ?_
  refine RK G<|an<|lp hQ [0] (mc 1 U mn) U ?_
  (rw [DN A]<;>rfl)
 refine WK E<|WS fun _ B=>rP 4 [0,1] (mc 0 U (mc 2 U mn)) ?_
 have K:=xj A
 have L:=(u7 A).time
 refine fw 6 [0,1] (mc 0 U (mc 2 U mn)) U<|rS (SX (bh (xs:=[(0,.tmp 24),(1,.tmp 29)]) (cs:=(aa.cells (aa.mk (((eQ l r l.cH).Lo)-r.Start) (((eQ l r l.cH).Hi)-r.Start)))) U U (bg gf U)) U U)<|ub U cm U<|rP 1 [] mn ?_
 refine RK B<|an<|lp hQ [0] (mc 1 U mn) U ?_
 (rw [AJ A,A]<;>rfl)
end
section
open Go.RowKit
theorem NJ (l:a_) (kA:OA) (kC:Nat) (az:List RA) (cA:OA) (cC:Nat) (bA:OA) (bC:Nat) (d:ax) (sgA:OA) (sgC:Nat) (hin:ep l az):
 dT Tryz.prog 197 [(vA (ck.cells (lk l kA kC cA cC bA bC))),(vA (bk.cells (bk.mk d.Out d.eI d.Time (mF d.cr sgA sgC))))] [(rd kA l.aP.length 9 (l.aP.map al.cells)),(rd cA l.ak.length 2 (List.zipWith ar.cells l.ak az)),(eX (aV ar.g0 l.ak az)),(rd bA l.ae.length 4 (l.ae.map bD.cells)),(rd sgA d.cr.ag.length 2 (d.cr.ag.map aK.cells))] (vT [(vA (aa.cells d.Time)),(vB (decide (d.eI=false∧d.Time=dx∧my d.cr)))]):=by
 refine bx kr Tryz.func197 U U fun K Q hQ hN=>?_
 try dsimp only
 refine WS fun _ B=>fM U fun H=>fM U fun AA=>AL U de fun J=>rP 1 [] mn ?_
 refine RK B<|ah fun _ A=>dG cu [15] [] [] [1,2,3,4,5,6,7] [] U U U U U<|eS U (FA 2 U fu U)<|eS U (LP (aa.cells d.Time) 0 U bX U U U)<|eS U (FA 1 U fu U)<|eS U (L1 (vB d.eI) 0 U bX U U)<|eS U (NT U)<|eS U (MV U)<|q_ (t:=11) U (fun G=>?_) (fun G=>?_)
 rotate_left 1
 ·rw [Bool.not_eq_false'] at G
  refine eS U (OX U)<|eS U (OX U)<|eS U (OX U)<|eS U (OX U)<|eS U (PK U)<|eS U (MV U)<|eS U (OX U)<|eS U (OX U)<|eS U (PK U)<|eS U (AG U)<|eU U<|bY U fun T10 C=>fP U cm U<|aC (C _ _ (aH [1,2,3,4,5,6,7]) ?_)
  refine fF U<|KK A<|an<|lp hQ [0] (mc 0 U mn) U ?_
  clear hQ hN C T10 A B
  refine congrArg (fun z=>Value.tuple #[_,vB z]) ?_
  first|rfl|(simp_all [dx]; done)
 rw [Bool.not_eq_true'] at G
 refine eS U (FA 2 U fu U)<|eS U (LP (aa.cells d.Time) 0 U bX U U U)<|eS U (SX (bh (xs:=[]) (cs:=(aa.cells (aa.mk 0 0))) U U (bg gf U)) U U)<|eS U (BI U (tI _ _ d.Time (aa.mk 0 0)))<|eS U (PK U)<|eS U (MV U)<|q_ (t:=17) U (fun D=>?_) (fun D=>?_)
 rotate_left 1
 ·replace D:=DF D
  refine eS U (OX U)<|eS U (OX U)<|eS U (PK U)<|eS U (AG U)<|eU U<|bY U fun T9 F=>fP U cm U<|aC (F _ _ (aH [1,2,3,4,5,6,7]) ?_)
  refine fF U<|KK A<|an<|lp hQ [0] (mc 0 U mn) U ?_
  clear hQ hN F T9 A B
  refine congrArg (fun z=>Value.tuple #[_,vB z]) ?_
  first|rfl|(simp_all [dx]; done)
 replace D:=DT D
 refine eS U (LW 0 U bX U U)<|eS U (CL (JL d sgA sgC) (bj [6]) U)<|eS U (PK U)<|eS U (AG U)<|eU U<|bY U fun T8 E=>fP U cm U<|aC (E _ _ (aH [1,2,3,4,5,6,7]) ?_)
 refine fF U<|KK A<|an<|lp hQ [0] (mc 0 U mn) U ?_
 clear hQ hN E T8 A B
 refine congrArg (fun z=>Value.tuple #[_,vB z]) ?_
 first|rfl|(simp_all [dx]; done)
theorem Nt (l:a_) (kA:OA) (kC:Nat) (az:List RA) (cA:OA) (cC:Nat) (bA:OA) (bC:Nat) (d:ax) (sgA:OA) (sgC:Nat) (hin:ep l az):
 dT Tryz.prog 200 [(vA (ck.cells (lk l kA kC cA cC bA bC))),(vA (bk.cells (bk.mk d.Out d.eI d.Time (mF d.cr sgA sgC))))] [(rd kA l.aP.length 9 (l.aP.map al.cells)),(rd cA l.ak.length 2 (List.zipWith ar.cells l.ak az)),(eX (aV ar.g0 l.ak az)),(rd bA l.ae.length 4 (l.ae.map bD.cells)),(rd sgA d.cr.ag.length 2 (d.cr.ag.map aK.cells))] (vT [(vA (aa.cells d.Time)),(vB (decide (iL d.Time∧my d.cr)))]):=by
 refine bx kr Tryz.func200 U U fun AA Q hQ hN=>?_
 try dsimp only
 refine WS fun _ B=>fM U fun F=>fM U fun G=>AL U de fun H=>rP 1 [] mn ?_
 refine RK B<|ah fun _ A=>dG cu [9] [] [] [1,2,3,4,5,6,7] [] U U U U U<|eS U (FA 2 U fu U)<|eS U (LP (aa.cells d.Time) 0 U bX U U U)<|eS U (FA 2 U fu U)<|eS U (LP (aa.cells d.Time) 0 U bX U U U)<|eS U (CL (FX d.Time) (aI) U)<|eS U (MV U)<|q_ (t:=11) U (fun C=>?_) (fun C=>?_)
 rotate_left 1
 ·replace C:=DF C
  refine eS U (OX U)<|eS U (OX U)<|eS U (PK U)<|eS U (AG U)<|eU U<|bY U fun T8 E=>fP U cm U<|aC (E _ _ (aH [1,2,3,4,5,6,7]) ?_)
  refine fF U<|KK A<|an<|lp hQ [0] (mc 0 U mn) U ?_
  clear hQ hN E T8 A B
  refine congrArg (fun z=>Value.tuple #[_,vB z]) ?_
  first|rfl|(simp_all; done)
 replace C:=DT C
 refine eS U (LW 0 U bX U U)<|eS U (CL (JL d sgA sgC) (bj [6]) U)<|eS U (PK U)<|eS U (AG U)<|eU U<|bY U fun T7 D=>fP U cm U<|aC (D _ _ (aH [1,2,3,4,5,6,7]) ?_)
 refine fF U<|KK A<|an<|lp hQ [0] (mc 0 U mn) U ?_
 clear hQ hN D T7 A B
 refine congrArg (fun z=>Value.tuple #[_,vB z]) ?_
 first|rfl|(simp_all; done)
theorem Oi (l:a_) (kA:OA) (kC:Nat) (az:List RA) (cA:OA) (cC:Nat) (bA:OA) (bC:Nat) (d:ax) (sgA:OA) (sgC:Nat) (hin:ep l az) (hsl:d.cr.ag.length≤1000000):
 dT Tryz.prog 202 [(vA (ck.cells (lk l kA kC cA cC bA bC))),(vA (bk.cells (bk.mk d.Out d.eI d.Time (mF d.cr sgA sgC))))] [(rd kA l.aP.length 9 (l.aP.map al.cells)),(rd cA l.ak.length 2 (List.zipWith ar.cells l.ak az)),(eX (aV ar.g0 l.ak az)),(rd bA l.ae.length 4 (l.ae.map bD.cells)),(rd sgA d.cr.ag.length 2 (d.cr.ag.map aK.cells))] (vT [(vA (aa.cells (Ao l d.cr))),(vB (decide (eK l d.cr l.cH=0∧d.Time=dx)))]):=by
 have K:=hin.sJ
 have AA:=hin.sI
 have G:=hin.oF
 have H:=hin.sE
 have J:=hin.side
 refine bx kr Tryz.func202 U U fun P Q hQ hN=>?_
 try dsimp only
 refine WS fun _ C=>fM U fun L=>fM U fun M=>AL U de fun N=>bf 1 U<|RK C<|WS fun _ D=>fw 2 [] (mc 2 U mn) U<|rS (LP (eB.cells (mF d.cr sgA sgC)) 1 U bX U U U)<|rS (CL (SM l kA kC az cA cC bA bC d.cr sgA sgC hin hsl) (bj [3,4,5,6,7]) U)<|bf 3 U<|AL U de fun O=>fP U cm U<|rP 1 [] mn ?_
 refine RK D<|ah fun _ A=>dG cu [9] [] [] [0,2,3,4,5,6,7,8] [] U U U U U<|eS U (LW 0 U bX U U)<|eS U (MV U)<|eS U (BI U lx)<|eS U (MV U)<|q_ (t:=18) U (fun E=>?_) (fun E=>?_)
 rotate_left 1
 ·replace E:=DF E
  refine eS U (OX U)<|eS U (OX U)<|eS U (OX U)<|eS U (OX U)<|eS U (PK U)<|eS U (AG U)<|eU U<|bY U fun T10 B=>ub U cm U<|aC (B _ _ (aH [0,2,3,4,5,6,7,8]) ?_)
  refine fF U<|KK A<|an<|lp hQ [0] (mc 1 U mn) U ?_
  clear hQ hN B T10 A D C
  refine congrArg (fun z=>Value.tuple #[_,vB z]) ?_
  first|rfl|(simp_all [dx]; done)
 replace E:=DT E
 refine eS U (FA 2 U fu U)<|eS U (LP (aa.cells d.Time) 1 U bX U U U)<|eS U (SX (bh (xs:=[]) (cs:=(aa.cells (aa.mk 0 0))) U U (bg gf U)) U U)<|eS U (BI U (tI _ _ d.Time (aa.mk 0 0)))<|eS U (PK U)<|eS U (AG U)<|eU U<|bY U fun T9 F=>ub U cm U<|aC (F _ _ (aH [0,2,3,4,5,6,7,8]) ?_)
 refine fF U<|KK A<|an<|lp hQ [0] (mc 1 U mn) U ?_
 clear hQ hN F T9 A D C
 refine congrArg (fun z=>Value.tuple #[_,vB z]) ?_
 first|rfl|(simp_all [dx]; done)
theorem Hk (d:ax) (sgA:OA) (sgC g1:Nat):
 dT Tryz.prog 85 [(vA (mL.cells (mL.mk (Value.func (.func 196) [].toArray [].toArray) (Value.func (.func 197) [].toArray [].toArray)))),(vP g1)] [(rd sgA d.cr.ag.length 2 (d.cr.ag.map aK.cells)),(bV g1 45 (bk.cells (bk.mk d.Out d.eI d.Time (mF d.cr sgA sgC))))] (vB d.Out):=by
 refine bx kr Tryz.func85 U U fun D Q hQ hN=>?_
 try dsimp only
 refine WS fun _ A=>fM U fun C=>bf 1 U<|RK A<|WS fun _ B=>fw 3 [0,1] (mc 0 U (mr 2 U mn)) U<|rS (CL (RC d sgA sgC) (bj [1]) U)<|rP 1 [] mn ?_
 refine RK B<|an<|Q1 hQ U U U ?_
 rfl
theorem GH (d:ax) (sgA:OA) (sgC g1:Nat):
 dT Tryz.prog 85 [(vA (mL.cells (mL.mk (Value.func (.func 199) [].toArray [].toArray) (Value.func (.func 200) [].toArray [].toArray)))),(vP g1)] [(rd sgA d.cr.ag.length 2 (d.cr.ag.map aK.cells)),(bV g1 45 (bk.cells (bk.mk d.Out d.eI d.Time (mF d.cr sgA sgC))))] (vB d.eI):=by
 refine bx kr Tryz.func85 U U fun D Q hQ hN=>?_
 try dsimp only
 refine WS fun _ A=>fM U fun C=>bf 1 U<|RK A<|WS fun _ B=>fw 3 [0,1] (mc 0 U (mr 2 U mn)) U<|rS (CL (S9 d sgA sgC) (bj [1]) U)<|rP 1 [] mn ?_
 refine RK B<|an<|Q1 hQ U U U ?_
 rfl
theorem G7 (d:ax) (sgA:OA) (sgC g1:Nat):
 dT Tryz.prog 85 [(vA (mL.cells (mL.mk (Value.func (.func 201) [].toArray [].toArray) (Value.func (.func 202) [].toArray [].toArray)))),(vP g1)] [(rd sgA d.cr.ag.length 2 (d.cr.ag.map aK.cells)),(bV g1 45 (bk.cells (bk.mk d.Out d.eI d.Time (mF d.cr sgA sgC))))] (vB true):=by
 refine bx kr Tryz.func85 U U fun D Q hQ hN=>?_
 try dsimp only
 refine WS fun _ A=>fM U fun C=>bf 1 U<|RK A<|WS fun _ B=>fw 3 [0,1] (mc 0 U (mr 2 U mn)) U<|rS (CL (RB d sgA sgC) (bj [1]) U)<|rP 1 [] mn ?_
 refine RK B<|an<|Q1 hQ U U U ?_
 rfl
end
section
open Go.RowKit
theorem xE (d:ax) (sgA:OA) (sgC g1:Nat):
 dT Tryz.prog 84 [(vS eW 3 3),(Value.func (.func 85) [].toArray [(vP g1)].toArray)] [(rd eW 3 2 dZ),(rd sgA d.cr.ag.length 2 (d.cr.ag.map aK.cells)),(bV g1 45 (bk.cells (bk.mk d.Out d.eI d.Time (mF d.cr sgA sgC))))] (vI (ot d)):=by
 refine bx kr Tryz.func84 U U fun b Q hQ hN=>?_
 try dsimp only
 refine WS fun _ F=>bf 1 U<|RK F<|ah fun _ AA=>WS fun _ G=>bf 3 U<|RK G<|av<|jL 4<|ed fun R4 Z=>WS fun _ H=>rS (SX (bU (r:= .bool true) U U U gQ) U U)<|RK H<|ah fun _ AB=>aO U<|WK AB<|ah fun _ J=>av<|WS fun _ K=>bf 2 U<|RK K<|WS fun _ L=>rP 3 [] mn ?_
 refine rS (IA 0 U (aD 0 U) Ko dc U I)<|rS (oH 0 0 (mL.cells (mL.mk (Value.func (.func 196) [].toArray [].toArray) (Value.func (.func 197) [].toArray [].toArray))) U bX (aD 0 U) (show dZ[0]? =some [(Value.func (.func 196) [].toArray [].toArray),(Value.func (.func 197) [].toArray [].toArray)] from U) U dc U U)<|rS (CL (Hk d sgA sgC g1) (bj [1,2]) U)<|RK L<|cy U (fun X=>?_) (fun X=>?_)
 ·refine WS fun _ M=>rP 2 [] mn ?_
  refine RK M<|an<|Q1 hQ U U U ?_
  clear hQ hN M L K J AB H G AA F
  refine cI ?_
  simp [ot, *]
 refine bZ<|aG<|KK J<|aj<|rS (SX (bU (r:= .int .i64 1) U U U (ic ⟨dc,dc⟩)) U U)<|bf 1 U<|RK Z<|ed fun R12 W=>WS fun _ A=>rS (SX (bU (r:= .bool true) U U U gQ) U U)<|RK A<|ah fun _ B=>aO U<|WK B<|ah fun _ C=>av<|WS fun _ D=>bf 2 U<|RK D<|WS fun _ E=>rP 3 [] mn ?_
 refine rS (IA 1 U (aD 0 U) Ko dc U I)<|rS (oH 1 0 (mL.cells (mL.mk (Value.func (.func 199) [].toArray [].toArray) (Value.func (.func 200) [].toArray [].toArray))) U bX (aD 0 U) (show dZ[1]? =some [(Value.func (.func 199) [].toArray [].toArray),(Value.func (.func 200) [].toArray [].toArray)] from U) U dc U U)<|rS (CL (GH d sgA sgC g1) (bj [1,2]) U)<|RK E<|cy U (fun Y=>?_) (fun Y=>?_)
 ·refine WS fun _ N=>rP 2 [] mn ?_
  refine RK N<|an<|Q1 hQ U U U ?_
  clear hQ hN N E D C B A L K J AB H G AA F
  refine cI ?_
  simp [ot, *]
 refine bZ<|aG<|KK C<|aj<|rS (SX (bU (r:= .int .i64 2) U U U (ic ⟨dc,dc⟩)) U U)<|bf 1 U<|RK W<|ed fun R20 a=>WS fun _ O=>rS (SX (bU (r:= .bool true) U U U gQ) U U)<|RK O<|ah fun _ P=>aO U<|WK P<|ah fun _ V=>av<|WS fun _ R=>bf 2 U<|RK R<|WS fun _ S=>bf 3 U<|rS (IA 2 U (aD 0 U) Ko dc U I)<|rS (oH 2 0 (mL.cells (mL.mk (Value.func (.func 201) [].toArray [].toArray) (Value.func (.func 202) [].toArray [].toArray))) U bX (aD 0 U) (show dZ[2]? =some [(Value.func (.func 201) [].toArray [].toArray),(Value.func (.func 202) [].toArray [].toArray)] from U) U dc U U)<|rS (CL (G7 d sgA sgC g1) (bj [1,2]) U)<|RK S<|aO U<|WS fun _ T=>rP 2 [] mn ?_
 refine RK T<|an<|Q1 hQ U U U ?_
 clear hQ hN T S R V P O E D C B A L K J AB H G AA F
 refine cI ?_
 simp [ot, *]
end
section
open Go.RowKit
theorem Te (d:ax) (sgA:OA) (sgC g1:Nat) (hk:d.Out=true):
 dT Tryz.prog 84 [(vS eW 3 3),(Value.func (.func 85) [].toArray [(vP g1)].toArray)] [(rd eW 3 2 dZ),(rd sgA d.cr.ag.length 2 (d.cr.ag.map aK.cells)),(bV g1 45 (bk.cells (bk.mk d.Out d.eI d.Time (mF d.cr sgA sgC))))] (vI 0):=by
 have h:=xE d sgA sgC g1
 have e:ot d=0:=by simp [ot,hk]
 rw [e] at h
 exact h
theorem RQ (d:ax) (sgA:OA) (sgC g1:Nat) (hk:d.Out=false∧d.eI=true):
 dT Tryz.prog 84 [(vS eW 3 3),(Value.func (.func 85) [].toArray [(vP g1)].toArray)] [(rd eW 3 2 dZ),(rd sgA d.cr.ag.length 2 (d.cr.ag.map aK.cells)),(bV g1 45 (bk.cells (bk.mk d.Out d.eI d.Time (mF d.cr sgA sgC))))] (vI 1):=by
 have h:=xE d sgA sgC g1
 have e:ot d=1:=by simp [ot,hk]
 rw [e] at h
 exact h
theorem TI (d:ax) (sgA:OA) (sgC g1:Nat) (hk:d.Out=false∧d.eI=false):
 dT Tryz.prog 84 [(vS eW 3 3),(Value.func (.func 85) [].toArray [(vP g1)].toArray)] [(rd eW 3 2 dZ),(rd sgA d.cr.ag.length 2 (d.cr.ag.map aK.cells)),(bV g1 45 (bk.cells (bk.mk d.Out d.eI d.Time (mF d.cr sgA sgC))))] (vI 2):=by
 have h:=xE d sgA sgC g1
 have e:ot d=2:=by simp [ot,hk]
 rw [e] at h
 exact h
theorem Dl (l:a_) (kA:OA) (kC:Nat) (az:List RA) (cA:OA) (cC:Nat) (bA:OA) (bC:Nat) (d:ax) (sgA:OA) (sgC:Nat) (hin:ep l az) (hsl:d.cr.ag.length≤1000000) (hk:d.Out=true):
 dT Tryz.prog 62 [(vA (ck.cells (lk l kA kC cA cC bA bC))),(vA (bk.cells (bk.mk d.Out d.eI d.Time (mF d.cr sgA sgC))))] [(rd eW 3 2 dZ),(rd kA l.aP.length 9 (l.aP.map al.cells)),(rd cA l.ak.length 2 (List.zipWith ar.cells l.ak az)),(eX (aV ar.g0 l.ak az)),(rd bA l.ae.length 4 (l.ae.map bD.cells)),(rd sgA d.cr.ag.length 2 (d.cr.ag.map aK.cells))] (vT [(vA (aa.cells (dv l d))),(vB (decide (hU l d)))]):=by
 refine bx kr Tryz.func62 U U fun AA Q hQ hN=>?_
 try dsimp only
 refine WS fun _ A=>fM U fun G=>fM U fun D=>AL U de fun H=>bf 1 U<|RK A<|WS fun _ B=>rS (SX (D6 U U zo) U U)<|rS (FU U)<|rS (CL (Te d sgA sgC D hk) (No 3 8 1 U U U U U U) U)<|bf 1 U<|RK B<|ah fun _ C=>dB cu 9 kr<|lH 1 U<|dS (SX (E8 (k:=0) U U U zo U I) U U)<|dS (nS ((0*2)+1) U (aD 3 U) (Nat.mul_pos I dc) fu U)<|dS (fV 0 1 (Value.func (.func 197) [].toArray [].toArray) U bX (aD 3 U) (show dZ[0]? =some [(Value.func (.func 196) [].toArray [].toArray),(Value.func (.func 197) [].toArray [].toArray)] from U) U dc U)<|mP 2 [0,1] (mc 2 U (mc 1 U mn)) U<|dS (CL (NJ l kA kC az cA cC bA bC d sgA sgC hin) (bj [4,5,6,7,8]) U)<|lH 2 U<|cM<|fP U cm U<|rP 1 [] mn ?_
 refine RK C<|an<|lp hQ [0] (mc 0 U mn) U ?_
 have E:=Gt (l:=l) hk
 have F:=qs (l:=l) hk
 simp only [E,F]
theorem B4 (l:a_) (kA:OA) (kC:Nat) (az:List RA) (cA:OA) (cC:Nat) (bA:OA) (bC:Nat) (d:ax) (sgA:OA) (sgC:Nat) (hin:ep l az) (hsl:d.cr.ag.length≤1000000) (hk:d.Out=false∧d.eI=true):
 dT Tryz.prog 62 [(vA (ck.cells (lk l kA kC cA cC bA bC))),(vA (bk.cells (bk.mk d.Out d.eI d.Time (mF d.cr sgA sgC))))] [(rd eW 3 2 dZ),(rd kA l.aP.length 9 (l.aP.map al.cells)),(rd cA l.ak.length 2 (List.zipWith ar.cells l.ak az)),(eX (aV ar.g0 l.ak az)),(rd bA l.ae.length 4 (l.ae.map bD.cells)),(rd sgA d.cr.ag.length 2 (d.cr.ag.map aK.cells))] (vT [(vA (aa.cells (dv l d))),(vB (decide (hU l d)))]):=by
 refine bx kr Tryz.func62 U U fun AA Q hQ hN=>?_
 try dsimp only
 refine WS fun _ A=>fM U fun G=>fM U fun D=>AL U de fun H=>bf 1 U<|RK A<|WS fun _ B=>rS (SX (D6 U U zo) U U)<|rS (FU U)<|rS (CL (RQ d sgA sgC D hk) (No 3 8 1 U U U U U U) U)<|bf 1 U<|RK B<|ah fun _ C=>dB cu 9 kr<|lH 1 U<|dS (SX (E8 (k:=1) U U U zo U I) U U)<|dS (nS ((1*2)+1) U (aD 3 U) (Nat.mul_pos I dc) fu U)<|dS (fV 1 1 (Value.func (.func 200) [].toArray [].toArray) U bX (aD 3 U) (show dZ[1]? =some [(Value.func (.func 199) [].toArray [].toArray),(Value.func (.func 200) [].toArray [].toArray)] from U) U dc U)<|mP 2 [0,1] (mc 2 U (mc 1 U mn)) U<|dS (CL (Nt l kA kC az cA cC bA bC d sgA sgC hin) (bj [4,5,6,7,8]) U)<|lH 2 U<|cM<|fP U cm U<|rP 1 [] mn ?_
 refine RK C<|an<|lp hQ [0] (mc 0 U mn) U ?_
 have E:=AR (l:=l) hk
 have F:=tf (l:=l) hk
 simp only [E,F]
theorem BZ (l:a_) (kA:OA) (kC:Nat) (az:List RA) (cA:OA) (cC:Nat) (bA:OA) (bC:Nat) (d:ax) (sgA:OA) (sgC:Nat) (hin:ep l az) (hsl:d.cr.ag.length≤1000000) (hk:d.Out=false∧d.eI=false):
 dT Tryz.prog 62 [(vA (ck.cells (lk l kA kC cA cC bA bC))),(vA (bk.cells (bk.mk d.Out d.eI d.Time (mF d.cr sgA sgC))))] [(rd eW 3 2 dZ),(rd kA l.aP.length 9 (l.aP.map al.cells)),(rd cA l.ak.length 2 (List.zipWith ar.cells l.ak az)),(eX (aV ar.g0 l.ak az)),(rd bA l.ae.length 4 (l.ae.map bD.cells)),(rd sgA d.cr.ag.length 2 (d.cr.ag.map aK.cells))] (vT [(vA (aa.cells (dv l d))),(vB (decide (hU l d)))]):=by
 refine bx kr Tryz.func62 U U fun AA Q hQ hN=>?_
 try dsimp only
 refine WS fun _ A=>fM U fun G=>fM U fun D=>AL U de fun H=>bf 1 U<|RK A<|WS fun _ B=>rS (SX (D6 U U zo) U U)<|rS (FU U)<|rS (CL (TI d sgA sgC D hk) (No 3 8 1 U U U U U U) U)<|bf 1 U<|RK B<|ah fun _ C=>dB cu 9 kr<|lH 1 U<|dS (SX (E8 (k:=2) U U U zo U I) U U)<|dS (nS ((2*2)+1) U (aD 3 U) (Nat.mul_pos I dc) fu U)<|dS (fV 2 1 (Value.func (.func 202) [].toArray [].toArray) U bX (aD 3 U) (show dZ[2]? =some [(Value.func (.func 201) [].toArray [].toArray),(Value.func (.func 202) [].toArray [].toArray)] from U) U dc U)<|mP 2 [0,1] (mc 2 U (mc 1 U mn)) U<|dS (CL (Oi l kA kC az cA cC bA bC d sgA sgC hin hsl) (bj [4,5,6,7,8]) U)<|lH 2 U<|cM<|fP U cm U<|rP 1 [] mn ?_
 refine RK C<|an<|lp hQ [0] (mc 0 U mn) U ?_
 have E:=wb (l:=l) hk
 have F:=sM (l:=l) hk
 simp only [E,F]
theorem EK (l:a_) (kA:OA) (kC:Nat) (az:List RA) (cA:OA) (cC:Nat) (bA:OA) (bC:Nat) (d:ax) (sgA:OA) (sgC:Nat) (hin:ep l az) (hsl:d.cr.ag.length≤1000000):
 dT Tryz.prog 62 [(vA (ck.cells (lk l kA kC cA cC bA bC))),(vA (bk.cells (bk.mk d.Out d.eI d.Time (mF d.cr sgA sgC))))] [(rd eW 3 2 dZ),(rd kA l.aP.length 9 (l.aP.map al.cells)),(rd cA l.ak.length 2 (List.zipWith ar.cells l.ak az)),(eX (aV ar.g0 l.ak az)),(rd bA l.ae.length 4 (l.ae.map bD.cells)),(rd sgA d.cr.ag.length 2 (d.cr.ag.map aK.cells))] (vT [(vA (aa.cells (dv l d))),(vB (decide (hU l d)))]):=by
 by_cases ho:d.Out=true
 ·exact Dl l kA kC az cA cC bA bC d sgA sgC hin hsl ho
 by_cases hf:d.eI=true
 ·exact B4 l kA kC az cA cC bA bC d sgA sgC hin hsl ⟨by simpa using ho,hf⟩
 ·exact BZ l kA kC az cA cC bA bC d sgA sgC hin hsl ⟨by simpa using ho,by simpa using hf⟩
end
section
open Go.RowKit
theorem LH (r:bT) (kA:OA) (kC:Nat) (az:List RA) (cA:OA) (cC:Nat) (bA:OA) (bC:Nat) (slA:OA) (slC:Nat) (drA:OA) (drC:Nat) (ha:List cO) (heA:OA) (heC:Nat) (tz:List RA) (tA:OA) (tC:Nat) (ms:Value) (gw h:Nat) (gm g1 g2:Nat) (hin:e7 r az ha) (htz:tz.length=r.ay.length) (hh:h<r.ay.length) (hok:j_ r (h+1)):
 Dr Tryz.prog 72 [(vI (h:Int)),(vP g1),(vP g2)] [(rd kA r.ao.aP.length 9 (r.ao.aP.map al.cells)),(rd cA r.ao.ak.length 2 (List.zipWith ar.cells r.ao.ak az)),(eX (aV ar.g0 r.ao.ak az)),(rd bA r.ao.ae.length 4 (r.ao.ae.map bD.cells)),(rd slA r.aQ.length 1 (r.aQ.map iC)),(rd drA r.bQ.length 1 (r.bQ.map iC)),(rd heA r.ay.length 1 (List.zipWith cP r.ay ha)),(eX (aV ir r.ay ha)),(rd tA ((cN r).length) 1 (List.zipWith El (cN r) tz)),(eX (aV MA (cN r) tz)),(bV gw 91 (fH.cells (fH.mk (oI r kA kC cA cC bA bC slA slC drA drC heA heC) (br.mk tA ((cN r).length) tC) ms))),(bV g1 81 [(vP gw)]),(bV g2 64 [(Value.map (some gm))])] (gZ iV gm (bL dw (dW r.ao r.ay r.aQ.length h 0))) (fun (x:Unit)=>(vT [])) (fun (x:Unit)=>True) (fun (x:Unit)=>(gZ iV gm (bL dw (dW r.ao r.ay r.aQ.length (h+1) 0)))):=by
 have v:=hin.line
 have A4:=hin.iO
 have A5:=hin.has
 have Ah:=hin.iN
 have AC:=hin.draw
 have Al:=dy (r:=r)
 refine mI kr Tryz.func72 U U fun w0 Q hQ hN=>?_
 try dsimp only
 refine WS fun _ g=>fw 1 [] (mr 12 U mn) U<|rS (SX (bI U U) U U)<|rP 3 [] (mr 11 U mn) ?_
 obtain ⟨ht,B⟩:=aJ r.ay h I
 obtain ⟨A,C⟩:=aJ ha h I
 have Z:(List.zipWith cP r.ay ha)[h]? =some (cP ht A):=dA B C
 have s:=hin.oM _ _ _ B C
 have AO:=s.oF
 have N:=hok h ht I B
 obtain ⟨tr,G⟩:=aJ (cN r) h I
 obtain ⟨tra,F⟩:=aJ tz h I
 have c:(List.zipWith El (cN r) tz)[h]? =some (El tr tra):=dA G F
 refine rS (IA h U (aD 9 U) OM dc I I)<|rS (fV h 0 (vS tra.1 tr.length tra.2) U bX (aD 9 U) c U dc U) ?_
 have AB:=zI B G
 have A1:tr.length=r.aQ.length:=by rw [AB,List.length_map]; exact N.1
 have A0:=N.1
 refine rP 2 [] mn ?_
 refine RK g<|av ?_
 have E:(0≤r.aQ.length):=by exact Nat.zero_le _
 refine bH (ι:={z:Nat // (z≤r.aQ.length)}) [0,1,2,14,15] [1,2,3,4,5,6,7,8,9,10,11,12,13] U U (fun z=>[(16,(vI (z.1:Int)))]) (fun z=>[(gZ iV gm (bL dw (dW r.ao r.ay r.aQ.length h z.1)))]) (fun _=>rfl) (fun _=>rfl) (fun z=>r.aQ.length-z.1) ⟨0,E⟩ (aT U) (aH [1,2,3,4,5,6,7,8,9,10,11,12,13,0]) ?_
 clear E
 rintro ⟨i,u⟩ J2 K
 try dsimp only
 have a:i<r.aQ.length→(dW r.ao r.ay r.aQ.length h i).lookup (i:Int)=fJ r.ao r.ay i h:=KD
 refine WS fun _ k=>rP 1 [] mn ?_
 refine RK k<|ah fun _ m=>bK U (aM fun h5=>?_) (aL fun h5=>?_)
 ·refine bu<|ab<|ab<|au ?_
  rw [show (dW r.ao r.ay r.aQ.length h i)=(dW r.ao r.ay r.aQ.length (h+1) 0) from by rw [show i=r.aQ.length by omega]; exact NX]
  refine LM hN () 13 [] mn U U U U ?_
  trivial
 refine WK m<|ah fun _ L=>av<|WS fun _ n=>rP 1 [] mn ?_
 obtain ⟨x,hx⟩:=aJ tr i I
 have y:=bG aa.cells hx
 refine rS (IA i U (show il _ (rd tra.1 tr.length 2 (tr.map aa.cells)).holds from (du 9 U (bM G F (by simp [MA])))) jQ dc I I)<|rS (oH i 0 (aa.cells x) U bX (show il _ (rd tra.1 tr.length 2 (tr.map aa.cells)).holds from (du 9 U (bM G F (by simp [MA])))) y U dc U U)<|AL U de fun b8=>bf 1 U<|fP U cm U<|RK n<|WS fun _ o=>fw 2 [] (mr 13 U mn) U<|rS (SX (jW (kV:=iV) (x:=(i:Int)) (l:=(dW r.ao r.ay r.aQ.length h i)) (f:=dw) (z:=(aa.mk 0 0)) U U U mm (dC oJ) vz (by exact aD 14 U)) U U)<|bf 3 U<|AL U de fun A2=>fP U cm U<|bf 1 U<|RK o<|ah fun _ P=>WS fun _ H=>fw 1 [] (mr 13 U mn) U<|rS (SX (bI U U) U U)<|fw 4 [] (mr 12 U mn) U<|rS (IA h U (aD 8 U) ry dc I I)<|rS (fV h 0 (vS A.1.1 ht.length A.1.2) U bX (aD 8 U) Z U dc U)<|rP 1 [] mn ?_
 obtain ⟨d,hd⟩:=aJ ht i I
 obtain ⟨da,p⟩:=aJ A.2 i I
 have q:(List.zipWith ax.cells ht A.2)[i]? =some (ax.cells d da):=dA hd p
 refine rS (IA i U (show il _ (rd A.1.1 ht.length 7 (List.zipWith ax.cells ht A.2)).holds from (du 9 U (bM B C cb))) xM dc I I)<|rS (nS (i*7) U (show il _ (rd A.1.1 ht.length 7 (List.zipWith ax.cells ht A.2)).holds from (du 9 U (bM B C cb))) (Nat.mul_pos I dc) fu U)<|rS (fV i 0 (vB d.Out) U bX (show il _ (rd A.1.1 ht.length 7 (List.zipWith ax.cells ht A.2)).holds from (du 9 U (bM B C cb))) q U dc U)<|rP 1 [] mn ?_
 refine cQ (t:=39) U (fun J=>?_) (fun J=>?_)
 ·refine bf 3 U<|RK H<|aO U<|WS fun _ R=>rP 2 [] (mr 14 U mn) ?_
  have T:(cq (dW r.ao r.ay r.aQ.length h i) (i:Int))=(dW r.ao r.ay r.aQ.length h (i+1)):=by exact FG (by exact GL B hd J)
  refine pb (kV:=iV) (x:=(i:Int)) (C':=[_,_,_,_,_,_,_,_,_,_,_,_,_,_,_,(gZ iV gm (bL dw (dW r.ao r.ay r.aQ.length h (i+1))))]) 15 U U U U mm (dC oJ) U ((lK _ _ _).symm.trans (congrArg _ T)) U<|RK R<|bu<|ab<|au<|KK L<|aj<|rP 2 [] mn ?_
  refine aC ?_
  have AA:(vI (((i+1):Nat):Int))=(vI ((i:Int)+1)):=by exact cI I
  refine aS (K ⟨(i+1),(by first|omega|(simp only []; omega))⟩ _ _ _ U os (ct 5<|aX U AA<|dh.nil _) (aH [2,3,4,5,6,7,8,9,10,11,12,13,14,15]))
 refine rP 3 [] mn ?_
 refine RK H<|cy U (fun D=>?_) (fun D=>?_)
 ·rw [Bool.not_eq_true'] at D
  refine WS fun _ S=>rP 2 [] (mr 14 U mn) ?_
  have V:(cq (dW r.ao r.ay r.aQ.length h i) (i:Int))=(dW r.ao r.ay r.aQ.length h (i+1)):=by exact FG (by exact E4 ((a I).symm.trans (Option.not_isSome_iff_eq_none.1 (by rw [D]; decide))))
  refine pb (kV:=iV) (x:=(i:Int)) (C':=[_,_,_,_,_,_,_,_,_,_,_,_,_,_,_,(gZ iV gm (bL dw (dW r.ao r.ay r.aQ.length h (i+1))))]) 15 U U U U mm (dC oJ) U ((lK _ _ _).symm.trans (congrArg _ V)) U<|RK S<|bu<|ab<|au<|KK L<|aj<|rP 2 [] mn ?_
  refine aC ?_
  have W:(vI (((i+1):Nat):Int))=(vI ((i:Int)+1)):=by exact cI I
  refine aS (K ⟨(i+1),(by first|omega|(simp only []; omega))⟩ _ _ _ U os (ct 5<|aX U W<|dh.nil _) (aH [2,3,4,5,6,7,8,9,10,11,12,13,14,15]))
 rw [Bool.not_eq_false'] at D
 refine WK P<|aj ?_
 obtain ⟨O,b⟩:=Option.isSome_iff_exists.1 D
 have M:fJ r.ao r.ay i h=some O:=(a I).symm.trans b
 have e:=Iq AB hx hd
 have A6:=z7 (fun j x hj hx=>hok j x I hx) I M
 have w:=FI (N.2 d (aR hd))
 rw [← e] at w
 rw [show ((List.lookup (i:Int) (dW r.ao r.ay r.aQ.length h i)).getD (aa.mk 0 0))=O from by rw [b]; rfl]
 refine fw 6 [0,1,2] (mr 14 U (mc 0 U (mc 1 U mn))) U<|rS (BI U (tn I I I))<|fw 5 [0,1] (mc 0 U (mc 1 U mn)) U<|rS (BI U (tn I I I))<|rP 1 [] mn ?_
 refine rS (SX (bh (xs:=[(0,.tmp 52),(1,.tmp 58)]) (cs:=(aa.cells (aa.mk (O.Lo+(x.Lo/10)) (O.Hi+(x.Hi/10))))) U U (bg gf U)) U U) ?_
 have X:(dL (dW r.ao r.ay r.aQ.length h i) (i:Int) (aa.mk (O.Lo+(x.Lo/10)) (O.Hi+(x.Hi/10))))=(dW r.ao r.ay r.aQ.length h (i+1)):=by exact MG I (by rw [M]; rfl) (by rw [e]; exact DM B hd (by rw [J]; decide) M)
 refine hP (kV:=iV) (x:=(i:Int)) (C':=[_,_,_,_,_,_,_,_,_,_,_,_,_,_,_,(gZ iV gm (bL dw (dW r.ao r.ay r.aQ.length h (i+1))))]) 15 U U U U mm (dC oJ) U ((fK _ _ _ _).symm.trans (congrArg _ X)) U<|aC<|aG<|KK L<|aj<|rP 2 [] mn ?_
 refine aC ?_
 have Y:(vI (((i+1):Nat):Int))=(vI ((i:Int)+1)):=by exact cI I
 refine aS (K ⟨(i+1),(by first|omega|(simp only []; omega))⟩ _ _ _ U os (ct 5<|aX U Y<|dh.nil _) (aH [2,3,4,5,6,7,8,9,10,11,12,13,14,15]))
theorem Pd (r:bT) (kA:OA) (kC:Nat) (az:List RA) (cA:OA) (cC:Nat) (bA:OA) (bC:Nat) (slA:OA) (slC:Nat) (drA:OA) (drC:Nat) (ha:List cO) (heA:OA) (heC:Nat) (tz:List RA) (tA:OA) (tC:Nat) (ms:Value) (gw n:Nat) (hin:e7 r az ha) (htz:tz.length=r.ay.length) (hn:n≤r.ay.length) (hok:j_ r n):
 lv Tryz.prog 46 [(vP gw),(vI (n:Int))] [(rd kA r.ao.aP.length 9 (r.ao.aP.map al.cells)),(rd cA r.ao.ak.length 2 (List.zipWith ar.cells r.ao.ak az)),(eX (aV ar.g0 r.ao.ak az)),(rd bA r.ao.ae.length 4 (r.ao.ae.map bD.cells)),(rd slA r.aQ.length 1 (r.aQ.map iC)),(rd drA r.bQ.length 1 (r.bQ.map iC)),(rd heA r.ay.length 1 (List.zipWith cP r.ay ha)),(eX (aV ir r.ay ha)),(rd tA ((cN r).length) 1 (List.zipWith El (cN r) tz)),(eX (aV MA (cN r) tz)),(bV gw 91 (fH.cells (fH.mk (oI r kA kC cA cC bA bC slA slC drA drC heA heC) (br.mk tA ((cN r).length) tC) ms)))] (fun (x:Nat)=>(Value.map (some x))) (fun (x:Nat)=>True) (fun (x:Nat)=>[(gZ iV x (bL dw (eD r n)))]):=by
 have c:=hin.line
 have m:=hin.iO
 have o:=hin.has
 have e:=hin.iN
 have d:=hin.draw
 have f:=dy (r:=r)
 refine dj kr Tryz.func46 U U fun q Q hQ hN=>?_
 try dsimp only
 refine WS fun _ V=>uc U U fun k=>rP 1 [] mn ?_
 refine RK V<|WS fun _ W=>mB (kV:=iV) U U fun B=>?_
 try dsimp only
 refine AL U Rk fun l=>GA U MI U U<|RK W<|ah fun _ X=>WS fun _ Y=>fw 1 [] (mc 2 U mn) U<|rS (SX (bI U U) U U)<|rP 5 [] (mr 13 U mn) ?_
 refine RK Y<|av ?_
 skip
 have A:(0≤r.aQ.length):=by exact Nat.zero_le _
 refine bH (ι:={z:Nat // (z≤r.aQ.length)}) [1,2,5,15] [0,2,3,4,5,6,7,8,9,10,11,12,13] U U (fun z=>[(16,(vI (z.1:Int)))]) (fun z=>[(gZ iV B (bL dw (dW r.ao r.ay z.1 0 0)))]) (fun _=>rfl) (fun _=>rfl) (fun z=>r.aQ.length-z.1) ⟨0,A⟩ (aT U) (aH [0,2,3,4,5,6,7,8,9,10,11,12,13,1]) ?_
 clear A
 rintro ⟨i,a⟩ J8 AA
 try dsimp only
 refine WS fun _ Z=>rP 1 [] mn ?_
 refine RK Z<|ah fun _ D=>cy U (aL fun S=>?_) (aM fun S=>?_)
 ·refine WK D<|ah fun _ E=>av<|WS fun _ F=>bf 2 U<|RK F<|aj<|rP 2 [] (mc 0 U mn) ?_
  refine rS (SX (bh (xs:=[]) (cs:=(aa.cells (aa.mk 0 0))) U U (bg gf U)) U U) ?_
  have O:(dL (dW r.ao r.ay i 0 0) (i:Int) (aa.mk 0 0))=(dW r.ao r.ay (i+1) 0 0):=by exact Nm
  refine hP (kV:=iV) (x:=(i:Int)) (C':=[_,_,_,_,_,_,_,_,_,_,_,_,_,(gZ iV B (bL dw (dW r.ao r.ay (i+1) 0 0)))]) 13 U U U U mm (dC oJ) U ((fK _ _ _ _).symm.trans (congrArg _ O)) U<|aC<|aG<|KK E<|aj<|rP 2 [] mn ?_
  refine aC ?_
  have P:(vI (((i+1):Nat):Int))=(vI ((i:Int)+1)):=by exact cI I
  refine aS (AA ⟨(i+1),(by first|omega|(simp only []; omega))⟩ _ _ _ U os (ct 4<|aX U P<|dh.nil _) (aH [0,1,2,3,4,5,6,7,8,9,10,11,12,13]))
 refine bu<|ab<|ab<|au<|KK X<|WS fun _ G=>rS (FU U)<|bf 1 U<|RK G<|ah fun _ H=>WS fun _ AB=>rP 2 [] mn ?_
 refine RK AB<|av ?_
 rw [show (dW r.ao r.ay i 0 0)=(dW r.ao r.ay r.aQ.length 0 0) from by rw [show i=r.aQ.length by omega]]
 have A:(0≤n):=by exact Nat.zero_le _
 refine bH (ι:={z:Nat // (z≤n)}) [2,5,7,24] [0,1,2,3,4,5,6,7,8,9,10,11,12] U U (fun z=>[(25,(vI (z.1:Int)))]) (fun z=>[(gZ iV B (bL dw (dW r.ao r.ay r.aQ.length z.1 0)))]) (fun _=>rfl) (fun _=>rfl) (fun z=>n-z.1) ⟨0,A⟩ (aT U) (aH [0,1,2,3,4,5,6,7,8,9,10,11,12,13]) ?_
 clear A
 rintro ⟨h,b⟩ J19 C
 try dsimp only
 refine WS fun _ J=>rP 1 [] mn ?_
 refine RK J<|ah fun _ K=>bK U (aM fun T=>?_) (aL fun T=>?_)
 ·refine bu<|ab<|ab<|au<|KK H<|ah fun _ N=>?_
  rw [show (dW r.ao r.ay r.aQ.length h 0)=(eD r n) from by rw [show h=n by omega]; exact Od]
  refine aj<|rP 2 [] (mc 0 U mn) ?_
  refine RK N<|an<|LX hQ B [13] [] mn U U U U ?_
  trivial
 refine WK K<|ah fun _ L=>av<|WS fun _ M=>bf 2 U<|RK M<|aj<|rP 2 [] mn ?_
 refine iQ 13 U U U U (LH r kA kC az cA cC bA bC slA slC drA drC ha heA heC tz tA tC ms gw h B k l hin htz I (by exact fun j x hj hx=>hok j x I hx)) U (dR 2 U U (dD (bP _)) (dR 3 U U (dD (bP _)) (dR 4 U U (dD (bP _)) (dR 5 U U (dD (bP _)) (dR 6 U U (dD (bP _)) (dR 7 U U (dD (bP _)) (dR 8 U U (dD (bP _)) (dR 9 U U (dD (bP _)) (dR 10 U U (dD (bP _)) (dR 11 U U (dD (bP _)) (dR 12 U U (dD (bP _)) (dR 1 U U (bP _) (dR 0 U U (bP _) kh))))))))))))) U (fun p g=>?_)
 try dsimp only
 refine aC<|aG<|KK L<|aj<|rP 2 [] mn ?_
 refine aC ?_
 have R:(vI (((h+1):Nat):Int))=(vI ((h:Int)+1)):=by exact cI I
 refine aS (C ⟨(h+1),(by first|omega|(simp only []; omega))⟩ _ _ _ U os (ct 4<|aX U R<|dh.nil _) (aH [0,1,2,3,4,5,6,7,8,9,10,11,12,13]))
end
section
open Go.RowKit
theorem nZ (r:bT) (kA:OA) (kC:Nat) (az:List RA) (cA:OA) (cC:Nat) (bA:OA) (bC:Nat) (slA:OA) (slC:Nat) (drA:OA) (drC:Nat) (ha:List cO) (heA:OA) (heC:Nat) (hin:e7 r az ha):
 lv Tryz.prog 36 [(vA (cx.cells (oI r kA kC cA cC bA bC slA slC drA drC heA heC)))] [(rd eW 3 2 dZ),(rd kA r.ao.aP.length 9 (r.ao.aP.map al.cells)),(rd cA r.ao.ak.length 2 (List.zipWith ar.cells r.ao.ak az)),(eX (aV ar.g0 r.ao.ak az)),(rd bA r.ao.ae.length 4 (r.ao.ae.map bD.cells)),(rd slA r.aQ.length 1 (r.aQ.map iC)),(rd drA r.bQ.length 1 (r.bQ.map iC)),(rd heA r.ay.length 1 (List.zipWith cP r.ay ha)),(eX (aV ir r.ay ha))] (fun (x:Bool×Int×Nat×Nat×(OA)×Nat×(List RA))=>bif x.1 then (vT [(Value.pointer (some ⟨x.2.2.1,0,none⟩)),(vI 0)]) else (vT [(Value.pointer none),(vI x.2.1)])) (fun (x:Bool×Int×Nat×Nat×(OA)×Nat×(List RA))=>(x.1=true→(cK r=0∧x.2.2.2.2.2.2.length=r.ay.length))∧(x.1=false→(x.2.1=cK r∧ ¬ cK r=0))) (fun (x:Bool×Int×Nat×Nat×(OA)×Nat×(List RA))=>bif x.1 then [(bV x.2.2.1 91 (fH.cells (fH.mk (oI r kA kC cA cC bA bC slA slC drA drC heA heC) (br.mk x.2.2.2.2.1 ((cN r).length) x.2.2.2.2.2.1) (Value.map (some x.2.2.2.1))))),(own x.2.2.2.2.1 x.2.2.2.2.2.1 82 1 (List.zipWith El (cN r) x.2.2.2.2.2.2)),(bw (aV Du (cN r) x.2.2.2.2.2.2)),(gZ iV x.2.2.2.1 (bL dw (aF r)))] else []):=by
 have K4:=hin.line
 have Os:=hin.iO
 have PC:=hin.has
 have Ly:=hin.iN
 have Lk:=hin.draw
 have GE:=dy (r:=r)
 refine dj kr Tryz.func36 U U fun w0 Q hQ hN=>?_
 try dsimp only
 refine WS fun _ J2=>fM U fun b2=>bf 2 U<|RK J2<|ah fun _ J3=>WS fun _ J4=>bf 1 U<|rS (LP (ck.cells (lk r.ao kA kC cA cC bA bC)) 0 U bX U U U)<|rS (CL (CD r.ao kA kC az cA cC bA bC asm) (bj [2,3,4,5]) U)<|bf 1 U<|RK J4<|WS fun _ J5=>rP 2 [] mn ?_
 refine RK J5<|cy U (bp fun B=>?_) (bq fun B=>?_)
 ·refine WS fun _ J6=>rP 3 [] mn ?_
  refine RK J6<|an<|LX hQ (false,(dq r.ao),0,0,none,0,[]) [] [] mn U (by rfl) U U ?_
  exact rv<|Jq (yX B) B
 refine WK J3<|WS fun _ J7=>fw 4 [] (mc 0 U mn) U<|RK J7<|WS fun _ J8=>rP 2 [] (mc 0 U mn) ?_
 refine cX (xX drA r.bQ.length drC) (aI) U fun Gr L0=>?_
 try dsimp only
 refine cX (ye r.bQ drA drC Gr asm) (bj [8,0]) U fun Li L2=>?_
 obtain ⟨M2,Or⟩:=Li
 try dsimp only
 refine bf 1 U<|RK J8<|ah fun _ e=>WS fun _ H=>rP 1 [] mn ?_
 refine cY (xs:=[.tmp 29]) (cs:=[(vI (r.aQ.length:Int))]) U cp jf U U U U (by simp [Value.cells]) U U fun G2=>?_
 refine rS (CL (dT.eq (j9 1 5 ([(r.aQ.length:Int)]) (some ⟨G2,0,none⟩) 1 (by (simp; done))) cS) (aw (aZ 0 U U (by simp [bB]) U)<|aI) U) ?_
 refine rP 2 [] mn ?_
 refine cQ (t:=33) U (bp fun IO=>?_) (bq fun IO=>?_)
 ·refine bf 26 U<|RK H<|aO U<|WS fun _ f=>rP 2 [] mn ?_
  refine RK f<|an<|LX hQ (false,60,0,0,none,0,[]) [] [] mn U (by rfl) U U ?_
  exact rv<|pO (kx B (fun q:eP r=>by have q1:=q.num; have q2:=q.x7; have q3:=q.nh; have q4:=q.yn; omega))
 refine rP 6 [] mn ?_
 refine cQ (t:=39) U (bp fun IR=>?_) (bq fun IR=>?_)
 ·refine bf 20 U<|RK H<|aO U<|WS fun _ g=>rP 2 [] mn ?_
  refine RK g<|an<|LX hQ (false,60,0,0,none,0,[]) [] [] mn U (by rfl) U U ?_
  exact rv<|pO (kx B (fun q:eP r=>by have q1:=q.num; have q2:=q.x7; have q3:=q.nh; have q4:=q.yn; omega))
 refine rP 2 [] (mc 3 U mn) ?_
 refine cY (xs:=[.tmp 41]) (cs:=[(vI r.iK)]) U cp jf U U U U (by simp [Value.cells]) U U fun Hi=>?_
 refine rS (CL (dT.eq (j9 0 5 ([r.iK]) (some ⟨Hi,0,none⟩) 1 (by (simp; done))) cS) (aw (aZ 0 U U (by simp [bB]) U)<|aI) U) ?_
 refine rP 3 [] mn ?_
 refine cQ (t:=46) U (bp fun IX=>?_) (bq fun IX=>?_)
 ·refine bf 13 U<|RK H<|aO U<|WS fun _ k=>rP 2 [] mn ?_
  refine RK k<|an<|LX hQ (false,60,0,0,none,0,[]) [] [] mn U (by rfl) U U ?_
  exact rv<|pO (kx B (fun q:eP r=>by have q1:=q.num; have q2:=q.x7; have q3:=q.nh; have q4:=q.yn; omega))
 refine rP 3 [] (mc 4 U mn) ?_
 refine cY (xs:=[.tmp 49]) (cs:=[(vI (r.ay.length:Int))]) U cp jf U U U U (by simp [Value.cells]) U U fun H1=>?_
 refine rS (CL (dT.eq (j9 1 3 ([(r.ay.length:Int)]) (some ⟨H1,0,none⟩) 1 (by (simp; done))) cS) (aw (aZ 0 U U (by simp [bB]) U)<|aI) U) ?_
 refine rP 3 [] mn ?_
 refine cQ (t:=54) U (bp fun Id=>?_) (bq fun Id=>?_)
 ·refine bf 5 U<|RK H<|aO U<|WS fun _ l=>rP 2 [] mn ?_
  refine RK l<|an<|LX hQ (false,60,0,0,none,0,[]) [] [] mn U (by rfl) U U ?_
  exact rv<|pO (kx B (fun q:eP r=>by have q1:=q.num; have q2:=q.x7; have q3:=q.nh; have q4:=q.yn; omega))
 refine fw 2 [] (mc 5 U mn) U<|rS (CL (j9 0 9999 r.aQ slA slC asm) (bj [11]) U)<|rP 2 [] mn ?_
 refine RK H<|cy U (fun N=>?_) (fun N=>?_)
 ·rw [Bool.not_eq_true'] at N
  refine WS fun _ m=>rP 2 [] mn ?_
  refine RK m<|an<|LX hQ (false,60,0,0,none,0,[]) [] [] mn U (by rfl) U U ?_
  exact rv<|pO (kx B (fun q:eP r=>by exact absurd (q.ins.symm.trans N) dc))
 rw [Bool.not_eq_false'] at N
 refine WK e<|ah fun _ o=>WS fun _ p=>?_
 have PP:(df r.bQ).length=r.aQ.length:=by rw [gl]; omega
 refine rP 2 [] mn ?_
 refine RK p<|av ?_
 have A:(0≤r.aQ.length)∧(qV r 0):=by exact ⟨Nat.zero_le _,Ex⟩
 refine bH (ι:={z:Nat // (z≤r.aQ.length)∧(qV r z)}) [1,5,6,60] [3,5,6,7,8,9,10,11,12,13,14] U U (fun z=>[(61,(vI (z.1:Int)))]) (fun z=>[]) (fun _=>rfl) (fun _=>rfl) (fun z=>r.aQ.length-z.1) ⟨0,A⟩ (aT U) (aH [3,5,6,7,8,9,10,11,12,13,14]) ?_
 clear A
 rintro ⟨i,⟨K0,J⟩⟩ J28 V
 try dsimp only
 refine WS fun _ s=>rP 1 [] mn ?_
 refine RK s<|ah fun _ w=>cy U (aL fun Ik=>?_) (aM fun Ik=>?_)
 ·refine WK w<|ah fun _ W=>av<|WS fun _ AC=>bf 2 U<|RK AC<|ah fun _ O=>dB cu 24 kr<|dP 2 [] mn ?_
  obtain ⟨x,hx⟩:=aJ (df r.bQ) i I
  have K5:=bG iC hx
  refine dS (IA i U (ai (n:=r.bQ.length) 0 U sq) cp dc I I) ?_
  refine dS (fV i 0 (vI x) U bX (ai (n:=(df r.bQ).length) 0 U sm) K5 U dc U)<|dP 3 [] mn ?_
  refine iX (t:=70) U (bp fun S=>?_) (bq fun S=>?_)
  ·refine lH 17 U<|cM<|RK O<|aO U<|WS fun _ AO=>rP 2 [] mn ?_
   refine RK AO<|an<|LX hQ (false,60,0,0,none,0,[]) [] [] mn U (by rfl) U U ?_
   exact rv<|pO (kx B (fun q:eP r=>by exact absurd (q.drawn hx) S))
  refine dP 3 [] mn ?_
  refine jk (t:=73) U (aM fun In=>?_) (aL fun In=>?_)
  ·refine lH 14 U<|cM<|RK O<|aW U<|bZ<|aG<|KK W<|aj<|rP 2 [] mn ?_
   refine aC ?_
   have Dt:(vI (((i+1):Nat):Int))=(vI ((i:Int)+1)):=by exact cI I
   refine aS (V ⟨(i+1),⟨I,w7 J hx S (fun u v hu hv hw=>by omega)⟩⟩ _ _ _ U os (ct 4<|aX U Dt<|dh.nil _) (aH [0,1,2,3,4,5,6,7,8,9,10]))
  refine dP 3 [] (mc 1 U mn) ?_
  obtain ⟨y,hy⟩:=aJ r.aQ i I
  have K8:=bG iC hy
  refine dS (IA i U (aD 7 U) cp dc I I)<|dS (fV i 0 (vI y) U bX (aD 7 U) K8 U dc U)<|dP 4 [] (mc 1 U mn) ?_
  obtain ⟨z,hz⟩:=aJ r.aQ (i-1) I
  have LA:=bG iC hz
  refine dS (IA (i-1) U (aD 7 U) cp dc I I)<|dS (fV (i-1) 0 (vI z) U bX (aD 7 U) LA U dc U)<|dP 3 [] mn ?_
  refine cM<|RK O<|bK U (aM fun Jg=>?_) (aL fun Jg=>?_)
  ·refine bZ<|aG<|KK W<|aj<|rP 2 [] mn ?_
   refine aC ?_
   have Do:(vI (((i+1):Nat):Int))=(vI ((i:Int)+1)):=by exact cI I
   refine aS (V ⟨(i+1),⟨I,w7 J hx S (fun u v hu hv hw=>by (rw [hy] at hu; cases hu; rw [hz] at hw; cases hw; omega))⟩⟩ _ _ _ rfl os (ct 4<|aX rfl Do<|dh.nil _) (aH [0,1,2,3,4,5,6,7,8,9,10]))
  refine WS fun _ Al=>rP 2 [] mn ?_
  refine RK Al<|an<|LX hQ (false,60,0,0,none,0,[]) [] [] mn U (by rfl) U U ?_
  exact rv<|pO (kx B (fun q:eP r=>by have q1:=(q.ids i y hy).2 z I hz; omega))
 refine bu<|ab<|ab<|au<|KK o<|WS fun _ A0=>fw 1 [] (mc 1 U mn) U<|rS (SX (bh (xs:=[(0,.tmp 89)]) (cs:=(fH.cells (fH.mk (oI r kA kC cA cC bA bC slA slC drA drC heA heC) (br.mk none 0 0) (Value.map none)))) U U (bg Vf U)) U U)<|fM U fun L=>bf 1 U<|RK A0<|ah fun _ A1=>WS fun _ A2=>rP 4 [] (mc 2 U mn) ?_
 refine RK A2<|av<|fQ 82 1<|oy ?_
 have A:(0≤r.ay.length)∧(([]:List RA).length=0)∧(j_ r 0):=by exact ⟨Nat.zero_le _,rfl,wQ⟩
 refine bH (ι:={z:Nat×(List RA)×(OA)×Nat // (z.1≤r.ay.length)∧(z.2.1.length=z.1)∧(j_ r z.1)}) [1,5,8,93,94] [3,4,5,6,7,8,9,10,11,12,13] U U (fun z=>[(95,(vI (z.1.1:Int)))]) (fun z=>[(bw (aV Du (gu r z.1.1) z.1.2.1)),(own z.1.2.2.1 z.1.2.2.2 82 1 (List.map sC (List.zipWith CQ (gu r z.1.1) z.1.2.1))),(bV L 91 (fH.cells (fH.mk (oI r kA kC cA cC bA bC slA slC drA drC heA heC) (br.mk z.1.2.2.1 ((List.zipWith CQ (gu r z.1.1) z.1.2.1).length) z.1.2.2.2) (Value.map none))))]) (fun _=>rfl) (fun _=>rfl) (fun z=>r.ay.length-z.1.1) ⟨(0,([]:List RA),none,0),A⟩ (aT U) (aH [3,4,5,6,7,8,9,10,11,12,13,0,1,2]) ?_
 clear A
 rintro ⟨⟨h,tz,a,c⟩,⟨T,C,E⟩⟩ J42 Z
 try dsimp only at T C E
 try dsimp only
 refine WS fun _ A3=>rP 1 [] mn ?_
 refine RK A3<|ah fun _ A4=>bK U (aM fun Jm=>?_) (aL fun Jm=>?_)
 ·refine bu<|ab<|ab<|au<|KK A1<|ah fun _ C3=>?_
  have Kg:gu r h=cN r:=by unfold cN; rw [show h=r.ay.length by omega]
  have GT:tz.length=r.ay.length:=by omega
  rw [Kg,zc,show (List.zipWith CQ (cN r) tz).length=(cN r).length from by rw [List.length_zipWith]; omega]
  have X:eP r:=Jy (n:=i) I I I I I N J E I
  refine aj<|rP 5 [] (mc 1 U mn) ?_
  refine cX (Pd r kA kC az cA cC bA bC slA slC drA drC ha heA heC tz a c (Value.map none) L r.ay.length hin asm I (by exact X.Ah)) (lB [3,4,5,6,7,8,9,10]<|aw (ai (n:=(cN r).length) 12 U (mS (by rw [GE]; exact GT)))<|aw (cL 11 U tT)<|fD 13 U U<|aI) U fun K L3=>?_
  try dsimp only
  refine rS (SX (bI U U) U U)<|rP 1 [] mn ?_
  refine jm (vs:=[(Value.map (some K))]) (cs':=(fH.cells (fH.mk (oI r kA kC cA cC bA bC slA slC drA drC heA heC) (br.mk a ((cN r).length) c) (Value.map (some K))))) (C':=[_,_,_,_,_,_,_,_,_,_,_,_,_,_,(bV L 91 (fH.cells (fH.mk (oI r kA kC cA cC bA bC slA slC drA drC heA heC) (br.mk a ((cN r).length) c) (Value.map (some K)))))]) 14 U U U MI U U U U U U U<|RK C3<|ah fun _ Di=>?_
  rw [show eD r r.ay.length=aF r from rfl]
  refine aj<|rP 3 [] mn ?_
  refine RK Di<|an ?_
  refine LX hQ (true,0,L,K,a,c,tz) [14,13,12,0] [] mn U (by (show List.all _ _=true; simp only [cond_true,fB,List.all_nil,wX,Bool.and_true]; rfl)) U U ?_
  exact ⟨fun _=>⟨C6 B X,GT⟩,M5⟩
 refine WK A4<|ah fun _ A5=>av<|WS fun _ A6=>?_
 obtain ⟨ht,D⟩:=aJ r.ay h I
 obtain ⟨G,AB⟩:=aJ ha h I
 have Fn:(List.zipWith cP r.ay ha)[h]? =some (cP ht G):=dA D AB
 refine rS (IA h U (aD 9 U) ry dc I I)<|rS (fV h 0 (vS G.1.1 ht.length G.1.2) U bX (aD 9 U) Fn U dc U)<|rP 1 [] mn ?_
 refine RK A6<|ah fun _ A7=>WS fun _ A8=>?_
 have Fd:=hin.oM _ _ _ D AB
 have Lo:=Fd.oF
 refine rP 4 [] mn ?_
 refine RK A8<|cy U (bp fun Y=>?_) (bq fun Y=>?_)
 ·refine WS fun _ A9=>rP 2 [] mn ?_
  refine RK A9<|an<|LX hQ (false,60,0,0,none,0,[]) [] [] mn U (by rfl) U U ?_
  exact rv<|pO (kx B (fun q:eP r=>by have q1:=(q.oM ht (aR D)).1; omega))
 refine WK A7<|WS fun _ Bi=>bf 1 U<|RK Bi<|ah fun _ B3=>WS fun _ B7=>rP 3 [] mn ?_
 refine RK B7<|av<|fQ 40 2 ?_
 have A:(0≤ht.length)∧(oj r.ao ht 0):=by exact ⟨Nat.zero_le _,u0⟩
 refine bH (ι:={z:Nat×(OA)×Nat // (z.1≤ht.length)∧(oj r.ao ht z.1)}) [1,5,8,10,93,94,95,103,104] [1,2,3,4,5,6,7,8,9,10,11,12,13,14] U U (fun z=>[(11,(vS z.1.2.1 (((ht.take z.1.1).map (dv r.ao)).length) z.1.2.2)),(105,(vI (z.1.1:Int)))]) (fun z=>[(own z.1.2.1 z.1.2.2 40 2 (((ht.take z.1.1).map (dv r.ao)).map aa.cells))]) (fun _=>rfl) (fun _=>rfl) (fun z=>ht.length-z.1.1) ⟨(0,none,0),A⟩ (aT U) (aH [1,2,3,4,5,6,7,8,9,10,11,12,13,14,0]) ?_
 clear A
 rintro ⟨⟨j,la,lc⟩,⟨AA,F⟩⟩ J53 b
 try dsimp only at AA F
 try dsimp only
 refine WS fun _ B9=>rP 1 [] mn ?_
 refine RK B9<|ah fun _ Ci=>bK U (aM fun If=>?_) (aL fun If=>?_)
 ·refine bu<|ab<|ab<|au<|KK B3<|aj<|bf 2 U<|rS (SX (bI U U) U U)<|rP 2 [] (mc 13 U mn) ?_
  rw [show ((ht.take j).map (dv r.ao))=ht.map (dv r.ao) from by rw [List.take_of_length_le I]]
  refine rP 1 [] mn ?_
  refine cY (xs:=[.tmp 128]) (cs:=[(vS la ((ht.map (dv r.ao)).length) lc)]) U OM Tl U U U U (by simp [Value.cells]) U U fun Op=>?_
  refine db (es2:=(List.map sC (List.zipWith CQ (gu r (h+1)) (tz++[(la,lc)])))) (m':=(List.zipWith CQ (gu r (h+1)) (tz++[(la,lc)])).length) 13 U U U TH U U sm (aZ (es:=List.map sC [(br.mk la ((ht.map (dv r.ao)).length) lc)]) 0 U U (by simp [zh]) U) (I7 _) (by rw [List.length_zipWith,kG I]; omega) (by rw [List.length_zipWith,kG I]; simp only [maxLen]; omega) (by rw [tW D C,List.map_append]; rfl) (by rw [tW D C]; simp) U fun P R=>?_
  try dsimp only
  refine rS (SX (bI U U) U U)<|bf 1 U<|jm (vs:=[(vS P ((List.zipWith CQ (gu r (h+1)) (tz++[(la,lc)])).length) R)]) (cs':=(fH.cells (fH.mk (oI r kA kC cA cC bA bC slA slC drA drC heA heC) (br.mk P ((List.zipWith CQ (gu r (h+1)) (tz++[(la,lc)])).length) R) (Value.map none)))) (C':=[_,_,_,_,_,_,_,_,_,_,_,_,_,_,(bV L 91 (fH.cells (fH.mk (oI r kA kC cA cC bA bC slA slC drA drC heA heC) (br.mk P ((List.zipWith CQ (gu r (h+1)) (tz++[(la,lc)])).length) R) (Value.map none)))),_]) 14 U U U UL U U U U U U U<|aC<|aG<|KK A5<|aj<|rP 2 [] mn ?_
  refine aC<|B_ (X':=aV Du (gu r (h+1)) (tz++[(la,lc)])) 12 15 U U (Bs (a:=(la,lc)) D C) ?_
  have Eq:(vI (((h+1):Nat):Int))=(vI ((h:Int)+1)):=by exact cI I
  refine aS (Z ⟨((h+1),(tz++[(la,lc)]),P,R),⟨I,by simp; omega,xo E D (Fl I F I)⟩⟩ _ _ _ U os (ct 5<|aX U Eq<|dh.nil _) (aH [2,3,4,5,6,7,8,9,10,11,12,0,13,14]))
 refine WK Ci<|ah fun _ Ck=>av<|WS fun _ Cp=>?_
 obtain ⟨d,hd⟩:=aJ ht j I
 obtain ⟨da,FS⟩:=aJ G.2 j I
 have J9:(List.zipWith ax.cells ht G.2)[j]? =some (ax.cells d da):=dA hd FS
 refine rS (IA j U (show il _ (rd G.1.1 ht.length 7 (List.zipWith ax.cells ht G.2)).holds from (du 10 U (bM D AB cb))) xM dc I I)<|rS (oH j 0 (bk.cells (bk.mk d.Out d.eI d.Time (eB.mk d.cr.Start d.cr.fZ (br.mk da.1 d.cr.ag.length da.2)))) U bX (show il _ (rd G.1.1 ht.length 7 (List.zipWith ax.cells ht G.2)).holds from (du 10 U (bM D AB cb))) J9 U dc U U)<|AL U Oy fun NE=>fP U PR U<|RK Cp<|WS fun _ Cx=>bf 1 U<|rS (LP (ck.cells (lk r.ao kA kC cA cC bA bC)) 2 U bX U U U)<|rP 1 [] (mc 0 U mn) ?_
 have Pi:=Fd.sig d (aR hd)
 refine rS (CL (EK r.ao kA kC az cA cC bA bC d da.1 da.2 asm asm) (lB [3,4,5,6,7]<|aw (show il _ (rd da.1 d.cr.ag.length 2 (d.cr.ag.map aK.cells)).holds from (du 11 U (bM D AB (cR _ (bM hd FS (by simp [ax.g0]))))))<|aI) U)<|bf 3 U<|AL U de fun NN=>fP U cm U<|bf 1 U<|RK Cx<|ah fun _ C0=>WS fun _ C1=>rP 2 [] mn ?_
 refine RK C1<|bK U (bq fun M=>?_) (bp fun M=>?_)
 ·refine WK C0<|aj<|rP 2 [] (mc 0 U mn) ?_
  refine cY (xs:=[.tmp 119]) (cs:=(aa.cells (dv r.ao d))) U jQ de U U U U (by simp [Value.cells,aa.aU]) U U fun Ne=>?_
  refine db (es2:=(List.map aa.cells ((ht.take (j+1)).map (dv r.ao)))) (m':=((ht.take (j+1)).map (dv r.ao)).length) 17 U U U EN U U sm (aZ (es:=List.map aa.cells [(dv r.ao d)]) 0 U U (by simp [aa.aU]) U) (gT _) (by simp only [List.length_map,List.length_take]; omega) (by simp only [maxLen,List.length_map,List.length_take]; omega) (by rw [List.take_add_one,hd]; simp) sq U fun Go IB=>?_
  try dsimp only
  refine bf 1 U<|aC<|aG<|KK Ck<|aj<|rP 2 [] mn ?_
  refine aC ?_
  have EQ:(vI (((j+1):Nat):Int))=(vI ((j:Int)+1)):=by exact cI I
  refine aS (b ⟨((j+1),Go,IB),⟨I,uZ F hd M⟩⟩ _ _ _ U os (ct 10<|aX U EQ<|dh.nil _) (aH [3,4,5,6,7,8,9,10,11,12,13,14,15,16,17]))
 refine WS fun _ C2=>rP 2 [] mn ?_
 refine RK C2<|an<|LX hQ (false,60,0,0,none,0,[]) [] [] mn U (by rfl) U U ?_
 exact rv<|pO (kx B (fun q:eP r=>by exact M ((q.oM ht (aR D)).2 d (aR hd))))
end
section
open Go.RowKit
theorem E1 (l:List Int) (lA:OA) (lC:Nat) (hlen:l.length=1):
 Dr Tryz.prog 59 [(vS lA 1 lC)] [] (own lA lC 3 1 (l.map iC)) (fun (x:Unit)=>(vS lA 1 lC)) (fun (x:Unit)=>True) (fun (x:Unit)=>(own lA lC 3 1 (l.map iC))):=by
 refine mI kr Tryz.func59 U U fun E Q hQ hN=>?_
 try dsimp only
 refine WS fun _ A=>bf 1 U<|RK A<|ah fun _ D=>WS fun _ B=>bf 2 U<|rS (SX (bU (r:= .bool true) U U U gQ) U U)<|RK B<|aO U<|WS fun _ C=>rP 2 [] mn ?_
 refine RK C<|an<|LM hQ () 0 [] mn U U U U ?_
 trivial
theorem EF (l:List Int) (lA:OA) (lC:Nat) (hlen:l.length=2):
 Dr Tryz.prog 59 [(vS lA 2 lC)] [] (own lA lC 3 1 (l.map iC)) (fun (x:(List Int))=>(vS lA (LQ l) lC)) (fun (x:(List Int))=>True) (fun (x:(List Int))=>(own lA lC 3 1 (x.map iC))):=by
 refine mI kr Tryz.func59 U U fun c Q hQ hN=>?_
 try dsimp only
 refine WS fun _ M=>bf 1 U<|RK M<|ah fun _ N=>WS fun _ O=>bf 2 U<|rS (SX (bU (r:= .bool false) U U U gQ) U U)<|RK O<|aW U<|WK N<|ah fun _ P=>WS fun _ R=>bf 1 U<|RK R<|av<|jL 3<|ed fun R6 V=>ah fun _ S=>WS fun _ T=>bf 3 U<|rS (SX (bU (r:= .bool true) U U U gQ) U U)<|RK T<|aO U<|WK S<|ah fun _ AA=>av<|ah fun _ B=>dB cu 10 kr<|dP 2 [] mn ?_
 obtain ⟨x,hx⟩:=aJ l 1 I
 have W:=bG iC hx
 refine dS (IA 1 U (ai (n:=2) 0 U sq) cp dc U I) ?_
 refine dS (fV 1 0 (vI x) U bX (ai (n:=l.length) 0 U sm) W U dc U)<|dP 2 [] mn ?_
 refine dS (SX (bU (r:= .int .i64 0) U U U (rI ⟨dc,dc⟩)) U U) ?_
 obtain ⟨y,hy⟩:=aJ l 0 I
 have X:=bG iC hy
 refine dS (IA 0 U (ai (n:=2) 0 U sq) cp dc U I) ?_
 refine dS (fV 0 0 (vI y) U bX (ai (n:=l.length) 0 U sm) X U dc U)<|dP 1 [] mn ?_
 refine cM<|RK B<|bK U (aM fun A=>?_) (aL fun A=>?_)
 ·refine bZ<|aG<|KK AA<|aj<|bf 1 U<|rS (SX (bU (r:= .int .i64 2) U U U (ic ⟨dc,dc⟩)) U U)<|bf 1 U<|RK V<|ed fun R19 b=>ah fun _ Z=>WS fun _ AB=>bf 3 U<|rS (SX (bU (r:= .bool false) U U U gQ) U U)<|RK AB<|aW U<|bu<|ab<|ab<|au<|KK P<|WS fun _ J=>rP 2 [] mn ?_
  refine RK J<|an ?_
  refine LM hQ l 0 [] mn U U U ?_ ?_
  ·(rw [Cm hlen hy hx A,hlen]; rfl)
  ·trivial
 refine WS fun _ C=>rP 2 [] mn ?_
 refine rS (VA 1 U cp U os) ?_
 refine bf 1 U<|RK C<|ah fun _ D=>WS fun _ E=>bf 1 U<|RK E<|av<|jL 2<|ed fun R14 a=>ah fun _ Y=>WS fun _ F=>rP 4 [] mn ?_
 refine RK F<|cy U (aL fun L=>?_) (aM fun L=>?_)
 ·exfalso; omega
 refine bu<|ab<|ab<|au<|KK D<|WS fun _ G=>rP 2 [] mn ?_
 refine rS (VA 1 U cp U os) ?_
 refine M3 (k:=1) 0 rfl rfl p5 (by intro v hv; simp [Value.cells] at hv; subst hv; rfl) rfl os I ?_
 try dsimp only
 rw [show (own lA lC 3 1 ((l.map iC).take 1))=(own lA lC 3 1 ((l.take 1).map iC)) from by rw [List.map_take]]
 refine RK G<|WS fun _ H=>LG 0 U fun K=>?_
 simp only [List.length_map,List.length_take] at K
 refine bf 2 U<|rS (Uu 1 U cp U I)<|rP 1 [] mn ?_
 refine RK H<|an ?_
 refine LM hQ (l.take 1) 0 [] mn U U U ?_ ?_
 ·(rw [zf hlen hy hx A]; rfl)
 ·trivial
end
section
open Go.RowKit
theorem yK (r:bT) (kA:OA) (kC:Nat) (az:List RA) (cA:OA) (cC:Nat) (bA:OA) (bC:Nat) (slA:OA) (slC:Nat) (drA:OA) (drC:Nat) (ha:List cO) (heA:OA) (heC:Nat) (a:Int) (gq:Nat) (hin:e7 r az ha):
 lv Tryz.prog 35 [(vA (cx.cells (oI r kA kC cA cC bA bC slA slC drA drC heA heC))),(vS (some ⟨gq,0,none⟩) 1 1)] [(rd eW 3 2 dZ),(rd kA r.ao.aP.length 9 (r.ao.aP.map al.cells)),(rd cA r.ao.ak.length 2 (List.zipWith ar.cells r.ao.ak az)),(eX (aV ar.g0 r.ao.ak az)),(rd bA r.ao.ae.length 4 (r.ao.ae.map bD.cells)),(rd slA r.aQ.length 1 (r.aQ.map iC)),(rd drA r.bQ.length 1 (r.bQ.map iC)),(rd heA r.ay.length 1 (List.zipWith cP r.ay ha)),(eX (aV ir r.ay ha)),(bV gq 3 [(vI a)])] (fun (x:Bool×Int×Nat×Nat×(OA)×Nat×(List RA)×(OA)×Nat)=>bif x.1 then (vT [(Value.pointer (some ⟨x.2.2.1,0,none⟩)),(vS x.2.2.2.2.2.2.2.1 1 x.2.2.2.2.2.2.2.2),(vI 0)]) else (vT [(Value.pointer none),(vS none 0 0),(vI x.2.1)])) (fun (x:Bool×Int×Nat×Nat×(OA)×Nat×(List RA)×(OA)×Nat)=>(x.1=true→(jG r a=0∧x.2.2.2.2.2.2.1.length=r.ay.length))∧(x.1=false→(x.2.1=jG r a∧ ¬ jG r a=0))) (fun (x:Bool×Int×Nat×Nat×(OA)×Nat×(List RA)×(OA)×Nat)=>bif x.1 then [(bV x.2.2.1 91 (fH.cells (fH.mk (oI r kA kC cA cC bA bC slA slC drA drC heA heC) (br.mk x.2.2.2.2.1 ((cN r).length) x.2.2.2.2.2.1) (Value.map (some x.2.2.2.1))))),(own x.2.2.2.2.1 x.2.2.2.2.2.1 82 1 (List.zipWith El (cN r) x.2.2.2.2.2.2.1)),(bw (aV Du (cN r) x.2.2.2.2.2.2.1)),(gZ iV x.2.2.2.1 (bL dw (aF r))),(own x.2.2.2.2.2.2.2.1 x.2.2.2.2.2.2.2.2 40 2 ([(aA (aF r) a)].map aa.cells))] else []):=by
 have y:=hin.line
 have A8:=hin.iO
 have A9:=hin.has
 have A1:=hin.iN
 have A0:=hin.draw
 have g:=dy (r:=r)
 refine dj kr Tryz.func35 U U fun w0 Q hQ hN=>?_
 try dsimp only
 refine WS fun _ w=>fM U fun b2=>bf 3 U<|RK w<|WS fun _ N=>rP 1 [] (mc 0 U mn) ?_
 refine cX (nZ r kA kC az cA cC bA bC slA slC drA drC ha heA heC hin) (bj [1,2,3,4,5,6,7,8,9]) U fun y4 j=>?_
 obtain ⟨k,A7,F,E,m,B,C⟩:=y4
 cases k
 ·obtain ⟨e,he⟩:=j.2 rfl
  try dsimp only at e he
  subst e
  try dsimp only [cond_true,cond_false,List.cons_append,List.nil_append]
  refine bf 5 U<|RK N<|ah fun _ AO=>WS fun _ H=>rP 2 [] mn ?_
  refine RK H<|bK U (bq fun G=>?_) (bp fun G=>?_)
  ·exact absurd G he
  refine WS fun _ AB=>rP 4 [] mn ?_
  refine RK AB<|an<|LX hQ (false,(cK r),0,0,none,0,[],none,0) [] [] mn U (by rfl) U U ?_
  exact rv<|Jq (Ke (i:=a) he) he
 obtain ⟨he,h⟩:=j.1 rfl
 try dsimp only [cond_true,cond_false,List.cons_append,List.nil_append]
 refine bf 5 U<|RK N<|ah fun _ J=>WS fun _ K=>bf 1 U<|rS (SX (bU (r:= .bool false) U U U mA) U U)<|RK K<|aW U<|WK J<|ah fun _ L=>WS fun _ A=>rP 2 [] mn ?_
 refine rS (CL (dT.eq (z6 r kA kC az cA cC bA bC slA slC drA drC ha heA heC C m B (Value.map (some E)) F ([a]) (some ⟨gq,0,none⟩) 1 hin (by (simp; done))) cS) (lB [6,7,8,9,10,11,12,13]<|aw (ai (n:=(cN r).length) 1 U (mS (by rw [g]; exact h)))<|aw (cL 2 U tT)<|fD 0 U U<|aw (og 14 U U (by simp [bB]) U)<|aI) U) ?_
 refine rP 2 [] mn ?_
 refine cQ (t:=26) U (bp fun v=>?_) (bq fun v=>?_)
 ·refine bf 3 U<|bf 4 U<|bf 2 U<|RK A<|aO U<|WS fun _ M=>rP 3 [] mn ?_
  refine RK M<|an<|LX hQ (false,2,0,0,none,0,[],none,0) [] [] mn U (by rfl) U U ?_
  exact rv<|pO (KS (i:=a) he I)
 refine rP 1 [] mn ?_
 refine cX (xX (some ⟨gq,0,none⟩) 1 1) (aI) U fun q A2=>?_
 try dsimp only
 refine cX (ye ([a]) (some ⟨gq,0,none⟩) 1 q (by (simp; done))) (aw (og 15 U U (by simp [bB]) U)<|fD 0 U U<|aI) U fun AC A3=>?_
 obtain ⟨o,s⟩:=AC
 try dsimp only
 try dsimp only
 refine iQ 0 U U U U (E1 (df ([a])) o s (by (simp; done))) U kh U (fun Bi A4=>?_)
 try dsimp only
 refine bf 3 U<|rS (SX (bU (r:= .bool false) U U U gQ) U U)<|bf 1 U<|RK A<|aW U<|WK L<|WS fun _ O=>bf 1 U<|RK O<|ah fun _ P=>WS fun _ R=>bf 3 U<|RK R<|av<|jL 2<|ed fun R33 d=>WS fun _ S=>rS (SX (bU (r:= .bool true) U U U gQ) U U)<|RK S<|ah fun _ T=>aO U<|WK T<|ah fun _ AA=>av<|WS fun _ V=>rS (TW 0 0 U cp U dc U)<|fw 2 [] (mr 16 U mn) U<|RK V<|WS fun _ W=>bf 1 U<|rS (SX (bI U U) U U)<|fw 3 [] (mc 2 U mn) U<|rS (SX (jW (kV:=iV) (x:=a) (l:=(aF r)) (f:=dw) (z:=(aa.mk 0 0)) U U U mm (dC oJ) vz (by exact aD 5 U)) U U)<|bf 3 U<|AL U de fun A5=>fP U cm U<|rP 1 [] mn ?_
 refine RK W<|ah fun _ X=>WS fun _ Y=>?_
 rw [show ((List.lookup a (aF r)).getD (aa.mk 0 0))=(aA (aF r) a) from rfl]
 refine rP 2 [] mn ?_
 refine RK Y<|cy U (fun D=>?_) (fun D=>?_)
 ·rw [Bool.not_eq_true'] at D
  refine WS fun _ Z=>rP 3 [] mn ?_
  refine RK Z<|an<|LX hQ (false,6,0,0,none,0,[],none,0) [] [] mn U (by rfl) U U ?_
  exact rv<|pO (yx (i:=a) he I asm)
 rw [Bool.not_eq_false'] at D
 refine WK X<|aj<|rP 2 [] (mc 0 U mn) ?_
 refine cY (xs:=[.tmp 54]) (cs:=(aa.cells (aA (aF r) a))) U jQ de U U U U (by simp [Value.cells,aa.aU]) U U fun A6=>dH 40 2<|db (es2:=(List.map aa.cells ([(aA (aF r) a)]))) (m':=([(aA (aF r) a)]).length) 0 U U U EN U U sm (aZ (es:=List.map aa.cells [(aA (aF r) a)]) 1 U U (by simp [aa.aU]) U) (gT _) sm (by simp [maxLen]) sm sm U fun p u=>?_
 try dsimp only
 refine bf 1 U<|aC<|aG<|KK AA<|aj<|rS (SX (bU (r:= .int .i64 1) U U U (ic ⟨dc,dc⟩)) U U)<|bf 1 U<|RK d<|ed fun R46 Al=>WS fun _ b=>rS (SX (bU (r:= .bool false) U U U gQ) U U)<|RK b<|ah fun _ Ah=>aW U<|bu<|ab<|ab<|au<|KK P<|WS fun _ c=>rP 5 [] mn ?_
 refine RK c<|an ?_
 refine LX hQ (true,0,F,E,m,B,C,p,u) [5,6,7,8,0] [] mn U (by (show List.all _ _=true; simp only [cond_true,fB,List.all_nil,wX,Bool.and_true]; rfl)) U U ?_
 exact ⟨fun _=>⟨Gi he I asm,h⟩,M5⟩
end
section
open Go.RowKit
theorem yU (r:bT) (kA:OA) (kC:Nat) (az:List RA) (cA:OA) (cC:Nat) (bA:OA) (bC:Nat) (slA:OA) (slC:Nat) (drA:OA) (drC:Nat) (ha:List cO) (heA:OA) (heC:Nat) (a b:Int) (gq:Nat) (hin:e7 r az ha):
 lv Tryz.prog 35 [(vA (cx.cells (oI r kA kC cA cC bA bC slA slC drA drC heA heC))),(vS (some ⟨gq,0,none⟩) 2 2)] [(rd eW 3 2 dZ),(rd kA r.ao.aP.length 9 (r.ao.aP.map al.cells)),(rd cA r.ao.ak.length 2 (List.zipWith ar.cells r.ao.ak az)),(eX (aV ar.g0 r.ao.ak az)),(rd bA r.ao.ae.length 4 (r.ao.ae.map bD.cells)),(rd slA r.aQ.length 1 (r.aQ.map iC)),(rd drA r.bQ.length 1 (r.bQ.map iC)),(rd heA r.ay.length 1 (List.zipWith cP r.ay ha)),(eX (aV ir r.ay ha)),(bV gq 3 [(vI a),(vI b)])] (fun (x:Bool×Int×Nat×Nat×(OA)×Nat×(List RA)×(OA)×Nat)=>bif x.1 then (vT [(Value.pointer (some ⟨x.2.2.1,0,none⟩)),(vS x.2.2.2.2.2.2.2.1 2 x.2.2.2.2.2.2.2.2),(vI 0)]) else (vT [(Value.pointer none),(vS none 0 0),(vI x.2.1)])) (fun (x:Bool×Int×Nat×Nat×(OA)×Nat×(List RA)×(OA)×Nat)=>(x.1=true→(l7 r a b=0∧x.2.2.2.2.2.2.1.length=r.ay.length))∧(x.1=false→(x.2.1=l7 r a b∧ ¬ l7 r a b=0))) (fun (x:Bool×Int×Nat×Nat×(OA)×Nat×(List RA)×(OA)×Nat)=>bif x.1 then [(bV x.2.2.1 91 (fH.cells (fH.mk (oI r kA kC cA cC bA bC slA slC drA drC heA heC) (br.mk x.2.2.2.2.1 ((cN r).length) x.2.2.2.2.2.1) (Value.map (some x.2.2.2.1))))),(own x.2.2.2.2.1 x.2.2.2.2.2.1 82 1 (List.zipWith El (cN r) x.2.2.2.2.2.2.1)),(bw (aV Du (cN r) x.2.2.2.2.2.2.1)),(gZ iV x.2.2.2.1 (bL dw (aF r))),(own x.2.2.2.2.2.2.2.1 x.2.2.2.2.2.2.2.2 40 2 ([(aA (aF r) a),(aA (aF r) b)].map aa.cells))] else []):=by
 have A6:=hin.line
 have Dt:=hin.iO
 have EQ:=hin.has
 have B7:=hin.iN
 have B3:=hin.draw
 have v:=dy (r:=r)
 refine dj kr Tryz.func35 U U fun w0 Q hQ hN=>?_
 try dsimp only
 refine WS fun _ A5=>fM U fun b2=>bf 3 U<|RK A5<|WS fun _ N=>rP 1 [] (mc 0 U mn) ?_
 refine cX (nZ r kA kC az cA cC bA bC slA slC drA drC ha heA heC hin) (bj [1,2,3,4,5,6,7,8,9]) U fun y4 y=>?_
 obtain ⟨AC,Di,F,E,AO,C,D⟩:=y4
 cases AC
 ·obtain ⟨u,he⟩:=y.2 rfl
  try dsimp only at u he
  subst u
  try dsimp only [cond_true,cond_false,List.cons_append,List.nil_append]
  refine bf 5 U<|RK N<|ah fun _ A8=>WS fun _ H=>rP 2 [] mn ?_
  refine RK H<|bK U (bq fun G=>?_) (bp fun G=>?_)
  ·exact absurd G he
  refine WS fun _ AB=>rP 4 [] mn ?_
  refine RK AB<|an<|LX hQ (false,(cK r),0,0,none,0,[],none,0) [] [] mn U (by rfl) U U ?_
  exact rv<|Jq (Lr (a:=a) (b:=b) he) he
 obtain ⟨he,w⟩:=y.1 rfl
 try dsimp only [cond_true,cond_false,List.cons_append,List.nil_append]
 refine bf 5 U<|RK N<|ah fun _ J=>WS fun _ K=>bf 1 U<|rS (SX (bU (r:= .bool false) U U U mA) U U)<|RK K<|aW U<|WK J<|ah fun _ L=>WS fun _ B=>rP 2 [] mn ?_
 refine rS (CL (dT.eq (z6 r kA kC az cA cC bA bC slA slC drA drC ha heA heC D AO C (Value.map (some E)) F ([a,b]) (some ⟨gq,0,none⟩) 2 hin (by (simp; done))) rf) (lB [6,7,8,9,10,11,12,13]<|aw (ai (n:=(cN r).length) 1 U (mS (by rw [v]; exact w)))<|aw (cL 2 U tT)<|fD 0 U U<|aw (og 14 U U (by simp [bB]) U)<|aI) U) ?_
 refine rP 2 [] mn ?_
 refine cQ (t:=26) U (bp fun A3=>?_) (bq fun A3=>?_)
 ·refine bf 3 U<|bf 4 U<|bf 2 U<|RK B<|aO U<|WS fun _ M=>rP 3 [] mn ?_
  refine RK M<|an<|LX hQ (false,2,0,0,none,0,[],none,0) [] [] mn U (by rfl) U U ?_
  exact rv<|pO (Bf (a:=a) (b:=b) he I)
 refine rP 1 [] mn ?_
 refine cX (xX (some ⟨gq,0,none⟩) 2 2) (aI) U fun A0 B9=>?_
 try dsimp only
 refine cX (ye ([a,b]) (some ⟨gq,0,none⟩) 2 A0 (by (simp; done))) (aw (og 15 U U (by simp [bB]) U)<|fD 0 U U<|aI) U fun A7 Ci=>?_
 obtain ⟨Ah,A1⟩:=A7
 try dsimp only
 try dsimp only
 refine iQ 0 U U U U (EF (df ([a,b])) Ah A1 (by (simp; done))) U kh U (fun Eq Ck=>?_)
 try dsimp only
 refine rP 3 [] mn ?_
 have Do:=J1 a b
 refine rP 2 [] mn ?_
 refine RK B<|cy U (aL fun A4=>?_) (aM fun A4=>?_)
 ·refine WS fun _ O=>rP 3 [] mn ?_
  refine RK O<|an<|LX hQ (false,2,0,0,none,0,[],none,0) [] [] mn U (by rfl) U U ?_
  exact rv<|pO (Bf (a:=a) (b:=b) he I)
 refine WK L<|WS fun _ P=>bf 1 U<|RK P<|ah fun _ R=>WS fun _ S=>bf 3 U<|RK S<|av<|jL 3<|ed fun R35 q=>WS fun _ T=>rS (SX (bU (r:= .bool true) U U U gQ) U U)<|RK T<|ah fun _ AA=>aO U<|WK AA<|ah fun _ V=>av<|WS fun _ W=>rS (TW 0 0 U cp U dc U)<|fw 2 [] (mr 16 U mn) U<|RK W<|WS fun _ X=>bf 1 U<|rS (SX (bI U U) U U)<|fw 3 [] (mc 2 U mn) U<|rS (SX (jW (kV:=iV) (x:=a) (l:=(aF r)) (f:=dw) (z:=(aa.mk 0 0)) U U U mm (dC oJ) vz (by exact aD 5 U)) U U)<|bf 3 U<|AL U de fun Cx=>fP U cm U<|rP 1 [] mn ?_
 refine RK X<|ah fun _ Y=>WS fun _ Z=>?_
 rw [show ((List.lookup a (aF r)).getD (aa.mk 0 0))=(aA (aF r) a) from rfl]
 refine rP 2 [] mn ?_
 refine RK Z<|cy U (fun A=>?_) (fun A=>?_)
 ·rw [Bool.not_eq_true'] at A
  refine WS fun _ c=>rP 3 [] mn ?_
  refine RK c<|an<|LX hQ (false,6,0,0,none,0,[],none,0) [] [] mn U (by rfl) U U ?_
  exact rv<|pO (zM (a:=a) (b:=b) he I (by exact .inl asm))
 rw [Bool.not_eq_false'] at A
 refine WK Y<|aj<|rP 2 [] (mc 0 U mn) ?_
 refine cY (xs:=[.tmp 54]) (cs:=(aa.cells (aA (aF r) a))) U jQ de U U U U (by simp [Value.cells,aa.aU]) U U fun C0=>dH 40 2<|db (es2:=(List.map aa.cells ([(aA (aF r) a)]))) (m':=([(aA (aF r) a)]).length) 0 U U U EN U U sm (aZ (es:=List.map aa.cells [(aA (aF r) a)]) 1 U U (by simp [aa.aU]) U) (gT _) sm (by simp [maxLen]) sm sm U fun Cp C3=>?_
 try dsimp only
 refine bf 1 U<|aC<|aG<|KK V<|aj<|rS (SX (bU (r:= .int .i64 1) U U U (ic ⟨dc,dc⟩)) U U)<|bf 1 U<|RK q<|ed fun R48 s=>WS fun _ d=>rS (SX (bU (r:= .bool true) U U U gQ) U U)<|RK d<|ah fun _ e=>aO U<|WK e<|ah fun _ g=>av<|WS fun _ h=>rS (TW 1 1 U cp U dc U)<|fw 2 [] (mr 19 U mn) U<|RK h<|WS fun _ i=>bf 1 U<|rS (SX (bI U U) U U)<|fw 3 [] (mc 5 U mn) U<|rS (SX (jW (kV:=iV) (x:=b) (l:=(aF r)) (f:=dw) (z:=(aa.mk 0 0)) U U U mm (dC oJ) vz (by exact aD 8 U)) U U)<|bf 3 U<|AL U de fun C1=>fP U cm U<|rP 1 [] mn ?_
 refine RK i<|ah fun _ j=>WS fun _ k=>?_
 rw [show ((List.lookup b (aF r)).getD (aa.mk 0 0))=(aA (aF r) b) from rfl]
 refine rP 2 [] mn ?_
 refine RK k<|cy U (fun A=>?_) (fun A=>?_)
 ·rw [Bool.not_eq_true'] at A
  refine WS fun _ m=>rP 3 [] mn ?_
  refine RK m<|an<|LX hQ (false,6,0,0,none,0,[],none,0) [] [] mn U (by rfl) U U ?_
  exact rv<|pO (zM (a:=a) (b:=b) he I (by exact .inr asm))
 rw [Bool.not_eq_false'] at A
 refine WK j<|aj<|rP 2 [] (mc 0 U mn) ?_
 refine cY (xs:=[.tmp 54]) (cs:=(aa.cells (aA (aF r) b))) U jQ de U U U U (by simp [Value.cells,aa.aU]) U U fun C2=>db (es2:=(List.map aa.cells ([(aA (aF r) a),(aA (aF r) b)]))) (m':=([(aA (aF r) a),(aA (aF r) b)]).length) 2 U U U EN U U sm (aZ (es:=List.map aa.cells [(aA (aF r) b)]) 0 U U (by simp [aa.aU]) U) (gT _) sm (by simp [maxLen]) sm sm U fun Al A2=>?_
 try dsimp only
 refine bf 1 U<|aC<|aG<|KK g<|aj<|rS (SX (bU (r:= .int .i64 2) U U U (ic ⟨dc,dc⟩)) U U)<|bf 1 U<|RK s<|ed fun R61 Bi=>WS fun _ o=>rS (SX (bU (r:= .bool false) U U U gQ) U U)<|RK o<|ah fun _ A9=>aW U<|bu<|ab<|ab<|au<|KK R<|WS fun _ p=>rP 5 [] mn ?_
 refine RK p<|an ?_
 refine LX hQ (true,0,F,E,AO,C,D,Al,A2) [7,8,9,10,2] [] mn U (by (show List.all _ _=true; simp only [cond_true,fB,List.all_nil,wX,Bool.and_true]; rfl)) U U ?_
 exact ⟨fun _=>⟨Ox he I asm asm,w⟩,M5⟩
end
section
open Go.RowKit
theorem Mm (m:qu) (gm g1:Nat):
 DL Tryz.prog 97 [] [(vP g1)] [(gZ iV gm (bL vB m)),(bV g1 67 [(Value.map (some gm))])] ([]:List Int) (fun ys x ys'=> ∃ n zs,(ys++[n]++zs).Perm (m.map (·.1))∧x=[vI n]∧ys'=ys++[n]) (fun ys=>ys.Perm (m.map (·.1))):=by
 refine tJ kr Tryz.func97 U U fun l J Z A0 S Q hY M L hQ hN=>?_
 try dsimp only
 refine WS fun _ O=>rP 1 [] (mr 2 U mn) ?_
 refine jR (kV:=iV) (m:=bL vB m) 1 U U vx U ⟨U,fun h=>h⟩ (by exact j8 1 U) U fun V=>?_
 try dsimp only
 refine RK O<|av ?_
 have G:(oB m m ([]:List Int))∧(∀ p∈m,p∈m)∧(J ([]:List Int) A0)∧(Fo A0 S A0):=by exact ⟨u3,fun p hp=>hp,M,L⟩
 refine bH (ι:={z:qu×(List Int)×aq // (oB m z.1 z.2.1)∧(∀ p∈z.1,p∈m)∧(J z.2.1 z.2.2)∧(Fo A0 S z.2.2)}) [0,1,5] [2,3] U U (fun z=>[]) (fun z=>[(zC iV V gm (bL vB m) (bL vB z.1.1) none),z.1.2.2]) (fun _=>rfl) (fun _=>rfl) (fun z=>z.1.1.length) ⟨(m,([]:List Int),A0),G⟩ (dh.nil _) (aH [2,3,0,1]) ?_
 clear G
 rintro ⟨⟨left,ys,A⟩,⟨B,H,C,D⟩⟩ J3 N
 try dsimp only at B H C D
 try dsimp only
 refine WS fun _ AB=>jg (dC oJ).inj (f:=Value.bool) 2 U U U U (fun T=>?_) (fun x y hm hn=>?_)
 ·refine rP 1 [] mn ?_
  refine RK AB<|ah fun _ AA=>aW U<|bu<|ab<|ab<|au ?_
  refine hN _ _ _ (gX (vs:=[]) trivial fun w hs=>Kp 3 U (by rw [T] at B; exact wO B) C D hs)
 try dsimp only
 refine bf 1 U<|RK AB<|ah fun _ P=>aO U<|WK P<|av<|WS fun _ R=>rS (SX (jc 2 U U U) U U)<|bf 2 U<|RK R<|WS fun _ K=>rP 2 [] mn ?_
 refine ku (k:=ys) (k':=(ys++[(x)])) 3 (by first|exact hsz|exact Nat.le_refl _) hY C D U U U (by exact ⟨x,_,oa hn hm B,U,U⟩) U U (fun B9 F E=>?_) (fun B9 F E=>?_)
 rotate_left 1
 ·refine rP 1 [] mn ?_
  refine RK K<|aO U<|an ?_
  refine hQ _ _ _ (gX (vs:=[]) trivial fun w hs=>rF 3 U F E hs)
 refine rP 1 [] mn ?_
 refine RK K<|aW U<|bZ<|aG<|gS 2 U fr U ?_
 refine aS (N ⟨((cq left x),(ys++[(x)]),B9),⟨oa hn hm B,fR H,F,E⟩⟩ _ _ _ U (eN hm) (aT U) (aH [0,1,2,3]))
theorem NW (gm:Nat):
 lv Tryz.prog 71 [(Value.map (some gm))] [] (fun (x:Nat)=>(Value.func (.func 97) [].toArray [(vP x)].toArray)) (fun (x:Nat)=>True) (fun (x:Nat)=>[(bV x 67 [(Value.map (some gm))])]):=by
 refine dj kr Tryz.func71 U U fun D Q hQ hN=>?_
 try dsimp only
 refine WS fun _ A=>uc U U fun C=>bf 1 U<|RK A<|WS fun _ B=>rS (FU U)<|rP 1 [] mn ?_
 refine RK B<|an<|LX hQ C [0] [] mn U U U U ?_
 trivial
end
section
open Go.RowKit
theorem GQ (m:qu) (gm g1:Nat) (hlen:m.length≤12):
 lv Tryz.prog 94 [(vS none 0 0),(Value.func (.func 97) [].toArray [(vP g1)].toArray)] [(gZ iV gm (bL vB m)),(bV g1 67 [(Value.map (some gm))])] (fun (x:(List Int)×(OA)×Nat)=>(vS x.2.1 x.1.length x.2.2)) (fun (x:(List Int)×(OA)×Nat)=>x.1.Perm (m.map (·.1))) (fun (x:(List Int)×(OA)×Nat)=>[(own x.2.1 x.2.2 3 1 (x.1.map iC))]):=by
 refine dj kr Tryz.func94 U U fun X Q hQ hN=>?_
 try dsimp only
 refine WS fun _ AB=>uc U U fun N=>bf 1 U<|RK AB<|ah fun _ J=>WS fun _ K=>rP 1 [] mn ?_
 refine RK K<|av<|ky 1 U (by exact fun _ h=>h)<|ky 3 U (by exact fun _ h=>h)<|fQ 3 1 ?_
 refine nx (L0:=[(2,(vP N))]) (F:=[(gZ iV gm (bL vB m)).ro,(bV g1 67 [(Value.map (some gm))]).ro]) (fun k (y:(OA)×Nat)=>(∃ zs,(k++zs).Perm (m.map (·.1)))) (fun k y=>[(own y.1 y.2 3 1 (k.map iC)),(bV N 32 [(vS y.1 k.length y.2)]),(gZ iV gm (bL vB m)).ro]) (fun _ (_:Unit)=>False) (fun _ _=>[]) [0,3,4] [2,1] (none,0) rfl rfl (Mm m gm g1) rfl rfl rfl (by exact ⟨_,List.Perm.refl _⟩) (by simp only [List.forall_mem_cons,List.not_mem_nil,false_imp_iff,implies_true,and_true]; exact ⟨⟨_,sm,(dD (bP _))⟩,⟨_,sm,(dD (bP _))⟩⟩) (by rintro k x AA ⟨n,zs,_,rfl,_⟩; rfl) rfl (aT rfl) ?_ ?_ (fun _ _ _ h=>h.elim) (fun _ _ h=>h.elim)
 rotate_left 1
 ·rintro V k ⟨a,c⟩ E A
  have B:=A
  try dsimp only at B
  try dsimp only
  refine aG<|KK J<|WS fun _ C=>rP 2 [] (mc 4 U mn) ?_
  refine RK C<|an<|hQ _ _ _ (ou 0 U U<|gX (vs:=[(vS a k.length c)]) ⟨U,trivial⟩ fun w hs=>It (k,a,c) [3] ?_ ?_ U U U hs)
  ·rfl
  ·first|exact E|exact hys
 rintro k x AA ⟨a,c⟩ l ra rb S Y K5 Qr6 T hx G L D O P
 obtain ⟨n,zs,hn,rfl,rfl⟩:=hx; have M:=hn.length_eq; simp only [List.length_append,List.length_map,List.length_singleton] at M
 have B:=G
 try dsimp only at B
 try dsimp only
 refine aj<|rP 1 [] mn ?_
 refine aC<|aS (L _ _ ?_)
 refine av<|aj<|rP 2 [] (mc 2 U mn) ?_
 refine cY (xs:=[.tmp 9]) (cs:=[(vI n)]) U cp jf U U U U (by simp [Value.cells]) U U fun W=>?_
 refine db (es2:=(List.map iC (k++[n]))) (m':=(k++[n]).length) 2 U U U p5 U U sm (aZ (es:=List.map iC [n]) 0 U U (by simp [bB]) U) (kd _) os (by simp only [maxLen]; omega) sm sm U fun R H=>?_
 try dsimp only
 refine Vl U zS U U<|aC<|aG ?_
 exact D (R,H) _ _ (by exact ⟨_,hn⟩) (aH [1,2,3,4])
end
section
open Go.RowKit
theorem Eo (m:qu) (gm g1:Nat) (hlen:m.length≤12):
 lv Tryz.prog 67 [(Value.func (.func 97) [].toArray [(vP g1)].toArray)] [(gZ iV gm (bL vB m)),(bV g1 67 [(Value.map (some gm))])] (fun (x:(List Int)×(OA)×Nat)=>(vS x.2.1 x.1.length x.2.2)) (fun (x:(List Int)×(OA)×Nat)=>x.1.Perm (m.map (·.1))) (fun (x:(List Int)×(OA)×Nat)=>[(own x.2.1 x.2.2 3 1 (x.1.map iC))]):=by
 refine dj kr Tryz.func67 U U fun AA Q hQ hN=>?_
 try dsimp only
 refine WS fun _ A=>bf 1 U<|RK A<|WS fun _ B=>rP 1 [] mn ?_
 refine cX (GQ m gm g1 hlen) (bj [0,1]) U fun H C=>?_
 obtain ⟨E,F,G⟩:=H
 try dsimp only
 have D:=C
 refine rP 1 [] mn ?_
 refine RK B<|an<|LX hQ (E,F,G) [0] [] mn U U U U ?_
 first|exact hfin|exact D
theorem G4 (m:qu) (gm g1:Nat) (hlen:m.length≤12):
 lv Tryz.prog 41 [(Value.func (.func 97) [].toArray [(vP g1)].toArray)] [(gZ iV gm (bL vB m)),(bV g1 67 [(Value.map (some gm))])] (fun (x:(OA)×Nat)=>(vS x.1 m.length x.2)) (fun (x:(OA)×Nat)=>True) (fun (x:(OA)×Nat)=>[(own x.1 x.2 3 1 ((df (m.map (·.1))).map iC))]):=by
 refine dj kr Tryz.func41 U U fun M Q hQ hN=>?_
 try dsimp only
 refine WS fun _ E=>bf 1 U<|RK E<|WS fun _ F=>rP 1 [] mn ?_
 refine cX (Eo m gm g1 hlen) (bj [0,1]) U fun L H=>?_
 obtain ⟨AA,J,K⟩:=L
 try dsimp only
 have D:=H
 refine bf 1 U<|RK F<|WS fun _ G=>rP 1 [] mn ?_
 have B:=D.length_eq
 simp only [List.length_map] at B
 refine iQ 0 U U U U (Af AA J K I) U kh U (fun ms C=>?_)
 try dsimp only
 refine RK G<|WS fun _ A=>?_
 obtain rfl:=qM (C.1.trans D) C.2
 skip
 refine rP 2 [] mn ?_
 refine RK A<|an ?_
 refine LX hQ (J,K) [0] [] mn U U U ?_ ?_
 ·first|rfl|(rw [B]; rfl)
 ·trivial
end
section
open Go.RowKit
theorem KF (m:qu) (gm:Nat):
 lv Tryz.prog 69 [(Value.map (some gm))] [(gZ iV gm (bL vB m))] (fun (x:Nat)=>(Value.map (some x))) (fun (x:Nat)=>True) (fun (x:Nat)=>[(gZ iV x (bL vB m))]):=by
 refine dj Uc Tryz.func69 U U fun F Q hQ hN=>?_
 try dsimp only
 refine WS fun _ A=>bf 1 U<|RK A<|ah fun _ B=>WS fun _ C=>bf 1 U<|rS (SX (bU (r:= .bool false) U U U (QK vx)) U U)<|RK C<|aW U<|WK B<|WS fun _ D=>rP 1 [] mn ?_
 refine rS (SX (N4 U U vx) U U)<|Lq (kV:=iV) (fn:=Tryz.f95) U U Tryz.func95 U U U kr (by exact j8 0 U) U fun E=>?_
 try dsimp only
 refine rS (SX (RG U U vx) U U)<|rP 1 [] mn ?_
 refine RK D<|an<|LX hQ E [0] [] mn U U U U ?_
 trivial
end
section
open Go.RowKit
theorem Ie (r:bT) (kA:OA) (kC:Nat) (cA:OA) (cC:Nat) (bA:OA) (bC:Nat) (slA:OA) (slC:Nat) (drA:OA) (drC:Nat) (heA:OA) (heC:Nat) (tA:OA) (tN tC:Nat) (gs gw:Nat) (m:gY) (i:Int) (g1 g2:Nat) (hb: ∀ p∈m,0≤p.2.Lo∧p.2.Lo≤p.2.Hi∧p.2.Hi≤30000000):
 DL Tryz.prog 96 [] [(vP g1),(vP g2)] [(bV gw 91 (fH.cells (fH.mk (oI r kA kC cA cC bA bC slA slC drA drC heA heC) (br.mk tA tN tC) (Value.map (some gs))))),(gZ iV gs (bL dw m)),(bV g1 81 [(vP gw)]),(bV g2 3 [(vI i)])] ([]:List Int) (fun ys x ys'=> ∃ n,n∈(jF m i (aA m i))∧x=[vI n]∧ys'=ys++[n]) (fun ys=> ∀ n,n∈ys↔n∈(jF m i (aA m i))):=by
 have Li:=gM (i:=i) hb
 refine tJ kr Tryz.func96 U U fun l J Z A0 w0 Q hY H1 G2 hQ hN=>?_
 try dsimp only
 refine ah fun _ IB=>dG cu [6,7] [] [] [0,1,2,3,4] [] U U U U U<|eS U (TQ 3 U bX U)<|eS U (SX (bI U U) U U)<|eS U (FA 12 U fu U)<|eS U (Ih (Value.map (some gs)) 1 U bX U U)<|eS U (TQ 4 U bX U)<|eS U (SX (jO (kV:=iV) (x:=i) (l:=m) (f:=dw) (z:=(aa.mk 0 0)) U U U mm (dC oJ) vz (by exact j8 2 U)) U U)<|eU U<|bY U fun T2 IR=>AL U de fun b3=>aC (IR _ _ (aH [1,2,3,4,5]) ?_)
 refine bY U fun T4 IX=>fP U cm U<|aC (IX _ _ (aH [1,2,3,4,5]) ?_)
 refine fF U<|KK IB<|ah fun _ IO=>WS fun _ Ci=>?_
 rw [show ((List.lookup i m).getD (aa.mk 0 0))=(aA m i) from rfl]
 refine rP 3 [] (mc 0 U mn) ?_
 refine ku (k:=([]:List Int)) (k':=(([]:List Int)++[((aA m i).Lo)])) 1 (by first|exact hsz|exact Nat.le_refl _) hY H1 G2 U U U (by exact ⟨_,cb ..,U,U⟩) U U (fun B7 u s=>?_) (fun B7 u s=>?_)
 rotate_left 1
 ·refine rP 1 [] mn ?_
  refine RK Ci<|aO U<|an ?_
  refine hQ _ _ _ (gX (vs:=[]) trivial fun w hs=>rF 1 U u s hs)
 refine bf 1 U<|RK Ci<|aW U<|WK IO<|WS fun _ AC=>fw 1 [] (mr 4 U mn) U<|rS (SX (bI U U) U U)<|rP 2 [] (mr 2 U mn) ?_
 refine jR (kV:=iV) (m:=bL dw m) 3 U U mm U ⟨U,fun h=>h⟩ (by exact j8 3 U) U fun If=>?_
 try dsimp only
 refine RK AC<|av ?_
 have j:(zy m i (aA m i) m (([]:List Int)++[((aA m i).Lo)]))∧(∀ p∈m,p∈m)∧(J (([]:List Int)++[((aA m i).Lo)]) B7)∧(Fo A0 w0 B7):=by exact ⟨JE,fun p hp=>hp,asm,asm⟩
 refine bH (ι:={z:gY×(List Int)×aq // (zy m i (aA m i) z.1 z.2.1)∧(∀ p∈z.1,p∈m)∧(J z.2.1 z.2.2)∧(Fo A0 w0 z.2.2)}) [0,1,2,4,24] [1,3,4,5,6] U U (fun z=>[]) (fun z=>[(zC iV If gs (bL dw m) (bL dw z.1.1) none),z.1.2.2]) (fun _=>rfl) (fun _=>rfl) (fun z=>z.1.1.length) ⟨(m,(([]:List Int)++[((aA m i).Lo)]),B7),j⟩ (dh.nil _) (aH [1,3,4,5,6,0,2]) ?_
 clear j
 rintro ⟨⟨left,ys,A⟩,⟨D,B,E,F⟩⟩ J12 G
 try dsimp only at D B E F
 try dsimp only
 refine WS fun _ o=>jg (dC oJ).inj (f:=dw) 5 U U U U (fun q=>?_) (fun x y hm hn=>?_)
 ·refine rP 1 [] mn ?_
  refine RK o<|ah fun _ Ik=>aW U<|bu<|ab<|ab<|au ?_
  refine hN _ _ _ (gX (vs:=[]) trivial fun w hs=>Kp 6 U (by rw [q] at D; exact N7 D) E F hs)
 try dsimp only
 refine bf 1 U<|RK o<|ah fun _ AO=>aO U<|WK AO<|av<|WS fun _ Ah=>rS (SX (jc 5 U U U) U U)<|bf 2 U<|AL U de fun La=>bf 1 U<|fP U cm U<|RK Ah<|WS fun _ Al=>rP 1 [] mn ?_
 have Id:=hb _ (B _ hm)
 dsimp only at Id
 refine fw 5 [] (mc 0 U mn) U<|rS (SX (bh (xs:=[(0,.tmp 32),(1,.tmp 35)]) (cs:=[(vI (y.Lo+1)),(vI (y.Hi+1))]) U U (bg Rw U)) U U)<|bf 1 U<|RK Al<|av<|jL 3<|ed fun R19 c=>WS fun _ A1=>rS (SX (bU (r:= .bool true) U U U gQ) U U)<|RK A1<|ah fun _ A2=>aO U<|WK A2<|ah fun _ X=>av<|WS fun _ A3=>rS (SX (rq (v:=(vI (y.Lo+1))) 0 U U U Gj bX U dc U) U U)<|bf 1 U<|RK A3<|WS fun _ M=>rP 4 [] (mr 5 U mn) ?_
 refine b_ (t:=43) U (bq fun q=>?_) (bp fun q=>?_)
 ·refine bf 14 U<|RK M<|aW U<|bZ<|aG<|KK X<|aj<|rS (SX (bU (r:= .int .i64 1) U U U (ic ⟨dc,dc⟩)) U U)<|bf 1 U<|RK c<|ed fun R73 g=>WS fun _ C0=>rS (SX (bU (r:= .bool true) U U U gQ) U U)<|RK C0<|ah fun _ C1=>aO U<|WK C1<|ah fun _ b=>av<|WS fun _ C2=>rS (SX (rq (v:=(vI (y.Hi+1))) 1 U U U Gj bX U dc U) U U)<|bf 1 U<|RK C2<|WS fun _ P=>rP 4 [] (mr 5 U mn) ?_
  refine b_ (t:=43) U (bq fun Go=>?_) (bp fun Go=>?_)
  ·refine bf 14 U<|RK P<|aW U<|bZ<|aG<|KK b<|aj<|rS (SX (bU (r:= .int .i64 2) U U U (ic ⟨dc,dc⟩)) U U)<|rP 1 [] mn ?_
   refine RK g<|ed fun R91 LE=>WS fun _ Do=>rS (SX (bU (r:= .bool false) U U U gQ) U U)<|RK Do<|ah fun _ J7=>aW U<|bu<|ab<|ab<|au<|aG<|gS 6 U fr U ?_
   refine aS (G ⟨((cq left x),ys,A),⟨kX hn hm B D (fun n C=>by first|exact C|(simp [C]; done)) (fun n C=>by exact .inl C) (fun L n C K=>by simp only [d_,List.not_mem_nil,or_false] at C; rcases C with rfl|rfl<;>first|(simp; done)|(exfalso; omega)),fR B,E,F⟩⟩ _ _ _ rfl (eN hm) (aT rfl) (aH [1,2,3,4,5,6,7]))
  refine fw 5 [] (mc 1 U mn) U<|cY (xs:=[.tmp 48]) (cs:=[(vI (y.Hi+1))]) U cp jf U U U U (by simp [Value.cells]) U U fun FS=>rS (CL (dT.eq (j9 ((aA m i).Lo) ((aA m i).Hi) ([(y.Hi+1)]) (some ⟨FS,0,none⟩) 1 I) cS) (aw (aZ 0 U U (by simp [bB]) U)<|aI) U)<|rP 2 [] mn ?_
  refine b_ (t:=52) U (aM fun Gr=>?_) (aL fun Gr=>?_)
  ·refine bf 5 U<|RK P<|aW U<|bZ<|aG<|KK b<|aj<|rS (SX (bU (r:= .int .i64 2) U U U (ic ⟨dc,dc⟩)) U U)<|rP 1 [] mn ?_
   refine RK g<|ed fun R88 LA=>WS fun _ Di=>rS (SX (bU (r:= .bool false) U U U gQ) U U)<|RK Di<|ah fun _ J6=>aW U<|bu<|ab<|ab<|au<|aG<|gS 7 U fr U ?_
   refine aS (G ⟨((cq left x),ys,A),⟨kX hn hm B D (fun n C=>by first|exact C|(simp [C]; done)) (fun n C=>by exact .inl C) (fun L n C K=>by simp only [d_,List.not_mem_nil,or_false] at C; rcases C with rfl|rfl<;>first|(simp; done)|(exfalso; omega)),fR B,E,F⟩⟩ _ _ _ rfl (eN hm) (aT rfl) (aH [2,3,4,5,6,7,8]))
  refine rP 2 [] mn ?_
  refine ku (k:=ys) (k':=(ys++[((y.Hi+1))])) 8 (by first|exact hsz|exact Nat.le_refl _) hY E F U U U (by exact ⟨_,mT (B _ hm) dso (by first|exact .inl rfl|exact .inr U) I,U,U⟩) U U (fun B82 W T=>?_) (fun B82 W T=>?_)
  rotate_left 1
  ·refine rP 2 [] mn ?_
   refine RK P<|aO U<|an ?_
   refine hQ _ _ _ (gX (vs:=[]) trivial fun w hs=>rF 8 U W T hs)
  refine bf 2 U<|RK P<|aW U<|bZ<|aG<|KK b<|aj<|rS (SX (bU (r:= .int .i64 2) U U U (ic ⟨dc,dc⟩)) U U)<|rP 1 [] mn ?_
  refine RK g<|ed fun R85 K8=>WS fun _ C3=>rS (SX (bU (r:= .bool false) U U U gQ) U U)<|RK C3<|ah fun _ J5=>aW U<|bu<|ab<|ab<|au<|aG<|gS 7 U fr U ?_
  refine aS (G ⟨((cq left x),(ys++[((y.Hi+1))]),B82),⟨kX hn hm B D (fun n C=>by first|exact C|(simp [C]; done)) (fun n C=>by (simp only [kF,bS] at C; rcases C with C|rfl<;>first|exact .inl C|exact .inr (mT (B _ hm) dso sm I))) (fun L n C K=>by simp only [d_,List.not_mem_nil,or_false] at C; rcases C with rfl|rfl<;>first|(simp; done)|(exfalso; omega)),fR B,W,T⟩⟩ _ _ _ rfl (eN hm) (aT rfl) (aH [2,3,4,5,6,7,8]))
 refine rP 5 [] (mc 1 U mn) ?_
 refine cY (xs:=[.tmp 48]) (cs:=[(vI (y.Lo+1))]) U cp jf U U U U (by simp [Value.cells]) U U fun Dt=>?_
 refine rS (CL (dT.eq (j9 ((aA m i).Lo) ((aA m i).Hi) ([(y.Lo+1)]) (some ⟨Dt,0,none⟩) 1 (by (simp; done))) cS) (aw (aZ 0 U U (by simp [bB]) U)<|aI) U) ?_
 refine rP 2 [] mn ?_
 refine b_ (t:=52) U (aM fun Fd=>?_) (aL fun Fd=>?_)
 ·refine bf 5 U<|RK M<|aW U<|bZ<|aG<|KK X<|aj<|rS (SX (bU (r:= .int .i64 1) U U U (ic ⟨dc,dc⟩)) U U)<|bf 1 U<|RK c<|ed fun R52 e=>WS fun _ Bi=>rS (SX (bU (r:= .bool true) U U U gQ) U U)<|RK Bi<|ah fun _ B3=>aO U<|WK B3<|ah fun _ a=>av<|WS fun _ B9=>rS (SX (rq (v:=(vI (y.Hi+1))) 1 U U U Gj bX U dc U) U U)<|bf 1 U<|RK B9<|WS fun _ O=>rP 4 [] (mr 6 U mn) ?_
  refine b_ (t:=43) U (bq fun GT=>?_) (bp fun GT=>?_)
  ·refine bf 14 U<|RK O<|aW U<|bZ<|aG<|KK a<|aj<|rS (SX (bU (r:= .int .i64 2) U U U (ic ⟨dc,dc⟩)) U U)<|rP 1 [] mn ?_
   refine RK e<|ed fun R70 K5=>WS fun _ Cx=>rS (SX (bU (r:= .bool false) U U U gQ) U U)<|RK Cx<|ah fun _ J4=>aW U<|bu<|ab<|ab<|au<|aG<|gS 7 U fr U ?_
   refine aS (G ⟨((cq left x),ys,A),⟨kX hn hm B D (fun n C=>by first|exact C|(simp [C]; done)) (fun n C=>by exact .inl C) (fun L n C K=>by simp only [d_,List.not_mem_nil,or_false] at C; rcases C with rfl|rfl<;>first|(simp; done)|(exfalso; omega)),fR B,E,F⟩⟩ _ _ _ rfl (eN hm) (aT rfl) (aH [2,3,4,5,6,7,8]))
  refine rP 5 [] (mc 2 U mn) ?_
  refine cY (xs:=[.tmp 48]) (cs:=[(vI (y.Hi+1))]) U cp jf U U U U (by simp [Value.cells]) U U fun Eq=>?_
  refine rS (CL (dT.eq (j9 ((aA m i).Lo) ((aA m i).Hi) ([(y.Hi+1)]) (some ⟨Eq,0,none⟩) 1 (by (simp; done))) cS) (aw (aZ 0 U U (by simp [bB]) U)<|aI) U) ?_
  refine rP 2 [] mn ?_
  refine b_ (t:=52) U (aM fun Gf=>?_) (aL fun Gf=>?_)
  ·refine bf 5 U<|RK O<|aW U<|bZ<|aG<|KK a<|aj<|rS (SX (bU (r:= .int .i64 2) U U U (ic ⟨dc,dc⟩)) U U)<|rP 1 [] mn ?_
   refine RK e<|ed fun R67 K4=>WS fun _ Cp=>rS (SX (bU (r:= .bool false) U U U gQ) U U)<|RK Cp<|ah fun _ J3=>aW U<|bu<|ab<|ab<|au<|aG<|gS 8 U fr U ?_
   refine aS (G ⟨((cq left x),ys,A),⟨kX hn hm B D (fun n C=>by first|exact C|(simp [C]; done)) (fun n C=>by exact .inl C) (fun L n C K=>by simp only [d_,List.not_mem_nil,or_false] at C; rcases C with rfl|rfl<;>first|(simp; done)|(exfalso; omega)),fR B,E,F⟩⟩ _ _ _ rfl (eN hm) (aT rfl) (aH [3,4,5,6,7,8,9]))
  refine rP 2 [] mn ?_
  refine ku (k:=ys) (k':=(ys++[((y.Hi+1))])) 9 (by first|exact hsz|exact Nat.le_refl _) hY E F U U U (by exact ⟨_,mT (B _ hm) dso (by first|exact .inl rfl|exact .inr U) I,U,U⟩) U U (fun B61 V S=>?_) (fun B61 V S=>?_)
  rotate_left 1
  ·refine rP 2 [] mn ?_
   refine RK O<|aO U<|an ?_
   refine hQ _ _ _ (gX (vs:=[]) trivial fun w hs=>rF 9 U V S hs)
  refine bf 2 U<|RK O<|aW U<|bZ<|aG<|KK a<|aj<|rS (SX (bU (r:= .int .i64 2) U U U (ic ⟨dc,dc⟩)) U U)<|rP 1 [] mn ?_
  refine RK e<|ed fun R64 K0=>WS fun _ Ck=>rS (SX (bU (r:= .bool false) U U U gQ) U U)<|RK Ck<|ah fun _ J2=>aW U<|bu<|ab<|ab<|au<|aG<|gS 8 U fr U ?_
  refine aS (G ⟨((cq left x),(ys++[((y.Hi+1))]),B61),⟨kX hn hm B D (fun n C=>by first|exact C|(simp [C]; done)) (fun n C=>by (simp only [kF,bS] at C; rcases C with C|rfl<;>first|exact .inl C|exact .inr (mT (B _ hm) dso sm I))) (fun L n C K=>by simp only [d_,List.not_mem_nil,or_false] at C; rcases C with rfl|rfl<;>first|(simp; done)|(exfalso; omega)),fR B,V,S⟩⟩ _ _ _ rfl (eN hm) (aT rfl) (aH [3,4,5,6,7,8,9]))
 refine rP 2 [] mn ?_
 refine ku (k:=ys) (k':=(ys++[((y.Lo+1))])) 8 (by first|exact hsz|exact Nat.le_refl _) hY E F U U U (by exact ⟨_,mT (B _ hm) dso (by first|exact .inl rfl|exact .inr U) I,U,U⟩) U U (fun B28 AB H=>?_) (fun B28 AB H=>?_)
 rotate_left 1
 ·refine rP 2 [] mn ?_
  refine RK M<|aO U<|an ?_
  refine hQ _ _ _ (gX (vs:=[]) trivial fun w hs=>rF 8 U AB H hs)
 refine bf 2 U<|RK M<|aW U<|bZ<|aG<|KK X<|aj<|rS (SX (bU (r:= .int .i64 1) U U U (ic ⟨dc,dc⟩)) U U)<|bf 1 U<|RK c<|ed fun R31 d=>WS fun _ A4=>rS (SX (bU (r:= .bool true) U U U gQ) U U)<|RK A4<|ah fun _ A5=>aO U<|WK A5<|ah fun _ Y=>av<|WS fun _ A6=>rS (SX (rq (v:=(vI (y.Hi+1))) 1 U U U Gj bX U dc U) U U)<|bf 1 U<|RK A6<|WS fun _ N=>rP 4 [] (mr 6 U mn) ?_
 refine b_ (t:=43) U (bq fun Fn=>?_) (bp fun Fn=>?_)
 ·refine bf 14 U<|RK N<|aW U<|bZ<|aG<|KK Y<|aj<|rS (SX (bU (r:= .int .i64 2) U U U (ic ⟨dc,dc⟩)) U U)<|rP 1 [] mn ?_
  refine RK d<|ed fun R49 Kg=>WS fun _ A9=>rS (SX (bU (r:= .bool false) U U U gQ) U U)<|RK A9<|ah fun _ Jm=>aW U<|bu<|ab<|ab<|au<|aG<|gS 7 U fr U ?_
  refine aS (G ⟨((cq left x),(ys++[((y.Lo+1))]),B28),⟨kX hn hm B D (fun n C=>by first|exact C|(simp [C]; done)) (fun n C=>by (simp only [kF,bS] at C; rcases C with C|rfl<;>first|exact .inl C|exact .inr (mT (B _ hm) dso sm I))) (fun L n C K=>by simp only [d_,List.not_mem_nil,or_false] at C; rcases C with rfl|rfl<;>first|(simp; done)|(exfalso; omega)),fR B,AB,H⟩⟩ _ _ _ rfl (eN hm) (aT rfl) (aH [2,3,4,5,6,7,8]))
 refine rP 5 [] (mc 2 U mn) ?_
 refine cY (xs:=[.tmp 48]) (cs:=[(vI (y.Hi+1))]) U cp jf U U U U (by simp [Value.cells]) U U fun EQ=>?_
 refine rS (CL (dT.eq (j9 ((aA m i).Lo) ((aA m i).Hi) ([(y.Hi+1)]) (some ⟨EQ,0,none⟩) 1 (by (simp; done))) cS) (aw (aZ 0 U U (by simp [bB]) U)<|aI) U) ?_
 refine rP 2 [] mn ?_
 refine b_ (t:=52) U (aM fun GE=>?_) (aL fun GE=>?_)
 ·refine bf 5 U<|RK N<|aW U<|bZ<|aG<|KK Y<|aj<|rS (SX (bU (r:= .int .i64 2) U U U (ic ⟨dc,dc⟩)) U U)<|rP 1 [] mn ?_
  refine RK d<|ed fun R46 J9=>WS fun _ A8=>rS (SX (bU (r:= .bool false) U U U gQ) U U)<|RK A8<|ah fun _ Jg=>aW U<|bu<|ab<|ab<|au<|aG<|gS 8 U fr U ?_
  refine aS (G ⟨((cq left x),(ys++[((y.Lo+1))]),B28),⟨kX hn hm B D (fun n C=>by first|exact C|(simp [C]; done)) (fun n C=>by (simp only [kF,bS] at C; rcases C with C|rfl<;>first|exact .inl C|exact .inr (mT (B _ hm) dso sm I))) (fun L n C K=>by simp only [d_,List.not_mem_nil,or_false] at C; rcases C with rfl|rfl<;>first|(simp; done)|(exfalso; omega)),fR B,AB,H⟩⟩ _ _ _ rfl (eN hm) (aT rfl) (aH [3,4,5,6,7,8,9]))
 refine rP 2 [] mn ?_
 refine ku (k:=(ys++[((y.Lo+1))])) (k':=((ys++[((y.Lo+1))])++[((y.Hi+1))])) 9 (by first|exact hsz|exact Nat.le_refl _) hY AB H U U U (by exact ⟨_,mT (B _ hm) dso (by first|exact .inl rfl|exact .inr U) I,U,U⟩) U U (fun B40 AA R=>?_) (fun B40 AA R=>?_)
 rotate_left 1
 ·refine rP 2 [] mn ?_
  refine RK N<|aO U<|an ?_
  refine hQ _ _ _ (gX (vs:=[]) trivial fun w hs=>rF 9 U AA R hs)
 refine bf 2 U<|RK N<|aW U<|bZ<|aG<|KK Y<|aj<|rS (SX (bU (r:= .int .i64 2) U U U (ic ⟨dc,dc⟩)) U U)<|rP 1 [] mn ?_
 refine RK d<|ed fun R43 J8=>WS fun _ A7=>rS (SX (bU (r:= .bool false) U U U gQ) U U)<|RK A7<|ah fun _ In=>aW U<|bu<|ab<|ab<|au<|aG<|gS 8 U fr U ?_
 refine aS (G ⟨((cq left x),((ys++[((y.Lo+1))])++[((y.Hi+1))]),B40),⟨kX hn hm B D (fun n C=>by first|exact C|(simp [C]; done)) (fun n C=>by (simp only [kF,bS] at C; rcases C with (C|rfl)|rfl<;>first|exact .inl C|exact .inr (mT (B _ hm) dso sm I))) (fun L n C K=>by simp only [d_,List.not_mem_nil,or_false] at C; rcases C with rfl|rfl<;>first|(simp; done)|(exfalso; omega)),fR B,AA,R⟩⟩ _ _ _ rfl (eN hm) (aT rfl) (aH [3,4,5,6,7,8,9]))
theorem Kz (gw:Nat) (i:Int):
 lv Tryz.prog 70 [(vP gw),(vI i)] [] (fun (x:Nat×Nat)=>(Value.func (.func 96) [].toArray [(Value.pointer (some ⟨x.1,0,none⟩)),(Value.pointer (some ⟨x.2,0,none⟩))].toArray)) (fun (x:Nat×Nat)=>True) (fun (x:Nat×Nat)=>[(bV x.1 81 [(vP gw)]),(bV x.2 3 [(vI i)])]):=by
 refine dj kr Tryz.func70 U U fun E Q hQ hN=>?_
 try dsimp only
 refine WS fun _ A=>uc U U fun C=>uc U U fun D=>bf 1 U<|RK A<|WS fun _ B=>rS (FU U)<|rP 1 [] mn ?_
 refine RK B<|an<|LX hQ (C,D) [1,0] [] mn U U U U ?_
 trivial
end
section
open Go.RowKit
theorem AB (r:bT) (kA:OA) (kC:Nat) (cA:OA) (cC:Nat) (bA:OA) (bC:Nat) (slA:OA) (slC:Nat) (drA:OA) (drC:Nat) (heA:OA) (heC:Nat) (tA:OA) (tN tC:Nat) (gs gw:Nat) (m:gY) (i:Int) (hb: ∀ p∈m,0≤p.2.Lo∧p.2.Lo≤p.2.Hi∧p.2.Hi≤30000000) (hi:m.lookup i≠none) (hm12:m.length≤12):
 lv Tryz.prog 44 [(vP gw),(vI i)] [(bV gw 91 (fH.cells (fH.mk (oI r kA kC cA cC bA bC slA slC drA drC heA heC) (br.mk tA tN tC) (Value.map (some gs))))),(gZ iV gs (bL dw m))] (fun (x:(OA)×Nat)=>(vS x.1 ((c_ m i (aA m i)).length) x.2)) (fun (x:(OA)×Nat)=>True) (fun (x:(OA)×Nat)=>[(own x.1 x.2 3 1 ((c_ m i (aA m i)).map iC))]):=by
 refine dj kr Tryz.func44 U U fun w0 Q hQ hN=>?_
 try dsimp only
 refine WS fun _ G2=>uc U U fun b2=>uc U U fun b3=>rP 1 [] mn ?_
 refine RK G2<|WS fun _ H1=>mB (kV:=iV) U U fun AA=>?_
 try dsimp only
 refine AL U Vm fun b6=>GA U UR U U<|RK H1<|ah fun _ IB=>WS fun _ IO=>fw 1 [] (mc 3 U mn) U<|rS (SX (bI U U) U U)<|fw 2 [] (mr 4 U mn) U<|rS (SX (sr U U mm (by exact j8 5 U)) U U)<|rP 1 [] mn ?_
 refine RK IO<|av ?_
 have A:(0≤m.length)∧(iS ([]:qu) (fun u=>1≤u∧u≤(0:Int))):=by exact ⟨Nat.zero_le _,Mq fun k=>by omega⟩
 refine bH (ι:={z:Nat×qu // (z.1≤m.length)∧(iS z.2 (fun u=>1≤u∧u≤(z.1:Int)))}) [2,3,5,20] [0,2,3,4,5] U U (fun z=>[(21,(vI (z.1.1:Int)))]) (fun z=>[(gZ iV AA (bL vB z.1.2))]) (fun _=>rfl) (fun _=>rfl) (fun z=>m.length-z.1.1) ⟨(0,([]:qu)),A⟩ (aT U) (aH [0,2,3,4,5,1]) ?_
 clear A
 rintro ⟨⟨n,nv⟩,⟨j,K⟩⟩ J9 Gr
 try dsimp only at j K
 try dsimp only
 refine WS fun _ Al=>rP 1 [] mn ?_
 refine RK Al<|ah fun _ A0=>cy U (aL fun GT=>?_) (aM fun GT=>?_)
 ·refine WK A0<|ah fun _ A1=>av<|WS fun _ A2=>bf 2 U<|RK A2<|aj<|fw 3 [] (mc 0 U mn) U<|hP (kV:=iV) (x:=((n:Int)+1)) (C':=[_,_,_,_,_,(gZ iV AA (bL vB (dL nv ((n:Int)+1) true)))]) 5 U U U U vx (dC oJ) U (fK _ _ _ _).symm U<|aC<|aG<|KK A1<|aj<|rP 2 [] mn ?_
  refine aC ?_
  have Eq:(vI (((n+1):Nat):Int))=(vI ((n:Int)+1)):=by exact cI I
  refine aS (Gr ⟨((n+1),(dL nv ((n:Int)+1) true)),⟨I,(Kk K I).yl fun k=>by omega⟩⟩ _ _ _ U os (ct 4<|aX U Eq<|dh.nil _) (aH [0,1,2,3,4,5]))
 refine bu<|ab<|ab<|au<|KK IB<|WS fun _ A3=>rP 1 [] (mc 0 U mn) ?_
 refine cX (KF nv AA) (bj [5]) U fun G Kg=>?_
 try dsimp only
 refine bf 1 U<|RK A3<|ah fun _ A4=>WS fun _ A5=>rP 2 [0,1] (mc 3 U (mc 2 U mn)) ?_
 refine cX (Kz gw i) (aI) U fun Jm K0=>?_
 obtain ⟨Z,c⟩:=Jm
 try dsimp only
 refine RK A5<|av<|ky 6 U (by exact fun _ h=>h)<|ky 8 U (by exact fun _ h=>h) ?_
 refine nx (L0:=[(2,(vP b2)),(3,(vP b3)),(5,(vP b6)),(7,(Value.map (some G)))]) (F:=[(bV gw 91 (fH.cells (fH.mk (oI r kA kC cA cC bA bC slA slC drA drC heA heC) (br.mk tA tN tC) (Value.map (some gs))))).ro,(gZ iV gs (bL dw m)).ro,(bV Z 81 [(vP gw)]),(bV c 3 [(vI i)])]) (fun k (y:qu)=>(iS y (uk m i k))) (fun k y=>[(gZ iV G (bL vB nv)),(bV b6 67 [(Value.map (some AA))]),(bV b3 3 [(vI i)]),(bV b2 81 [(vP gw)]),(bV gw 91 (fH.cells (fH.mk (oI r kA kC cA cC bA bC slA slC drA drC heA heC) (br.mk tA tN tC) (Value.map (some gs))))).ro,(gZ iV gs (bL dw m)).ro,(gZ iV AA (bL vB y))]) (fun _ (_:Unit)=>False) (fun _ _=>[]) [4,5,6,7,8,9,10] [1,0,2,3] nv rfl rfl (Ie r kA kC cA cC bA bC slA slC drA drC heA heC tA tN tC gs gw m i Z c (by exact hb)) rfl rfl rfl (by exact JP (K.yl fun k=>by omega)) (by simp only [List.forall_mem_cons,List.not_mem_nil,false_imp_iff,implies_true,and_true]; exact ⟨⟨_,sm,(dD (bP _))⟩,⟨_,sm,(dD (bP _))⟩,⟨_,sm,(bP _)⟩,⟨_,sm,(bP _)⟩⟩) (by rintro k x k2 ⟨n,_,rfl,_⟩; rfl) rfl (aT rfl) ?_ ?_ (fun _ _ _ h=>h.elim) (fun _ _ h=>h.elim)
 rotate_left 1
 ·rintro L2 k nw FS g
  have T:=g
  try dsimp only
  refine aG<|KK A4<|ah fun _ C3=>WS fun _ Di=>rP 1 [] (mc 6 U mn) ?_
  refine uG 11 U U vx U U fun In=>?_
  try dsimp only
  refine RK Di<|av ?_
  have A:(∀ p∈nw,p∈nw)∧(iS nv (fun u=>(1≤u∧u≤(m.length:Int))∧ ¬ (uk m i k u∧u ∉ nw.map (·.1)))):=by exact ⟨fun p hp=>hp,K.yl fun u=>⟨fun q=>⟨I,fun z=>z.2 ((T.2 u).2 z.1)⟩,fun q=>by omega⟩⟩
  refine bH (ι:={z:qu×qu // (∀ p∈z.1,p∈nw)∧(iS z.2 (fun u=>(1≤u∧u≤(m.length:Int))∧ ¬ (uk m i k u∧u ∉ z.1.map (·.1))))}) [7,68] [0,1,2,9,10] U U (fun z=>[]) (fun z=>[(gZ iV G (bL vB z.1.2)),(yR iV In AA (bL vB nw) (bL vB z.1.1) none)]) (fun _=>rfl) (fun _=>rfl) (fun z=>z.1.1.length) ⟨(nw,nv),A⟩ (dh.nil _) (aH [0,1,2,9,10,5,11]) ?_
  clear A
  rintro ⟨⟨left,rk⟩,⟨AD,J⟩⟩ J55 Ah
  try dsimp only at AD J
  try dsimp only
  refine WS fun _ X=>rV (dC oJ).inj (f:=Value.bool) 6 U U U U (fun Go=>?_) (fun u v Fd LA=>?_)
  rotate_left 1
  ·try dsimp only
   refine bf 1 U<|RK X<|ah fun _ Dt=>aO U<|WK Dt<|av<|WS fun _ EQ=>rS (SX (rZ 6 U U U) U U)<|bf 2 U<|RK EQ<|aj<|rP 2 [] mn ?_
   refine pb (kV:=iV) (x:=u) (C':=[_,_,_,_,_,(gZ iV G (bL vB (cq rk u))),_]) 5 U U U U vx (dC oJ) U (lK _ _ _).symm U<|aC<|aG<|gS 6 U wy U ?_
   refine aS (Ah ⟨((cq left u),(cq rk u)),⟨fR AD,OL AD T Fd J⟩⟩ _ _ _ U (eN Fd) (aT U) (aH [0,1,2,3,4,5,6]))
  refine rP 1 [] mn ?_
  refine RK X<|ah fun _ J8=>aW U<|bu<|ab<|ab<|au<|KK C3<|WS fun _ Do=>?_
  have Fn:iS rk (fun u=>(1≤u∧u≤(m.length:Int))∧ ¬ uk m i k u):=J.yl fun u=>⟨fun q=>⟨q.1,fun z=>q.2 ⟨z,by rw [Go]; simp⟩⟩,fun q=>⟨q.1,fun z=>q.2 z.1⟩⟩
  have Y:df (rk.map (·.1))=(c_ m i (aA m i)):=Ei hi FS Fn
  have LT:rk.length≤m.length:=KM Fn fun k q=>q.1
  have IR:rk.length=(c_ m i (aA m i)).length:=by rw [← Y]; simp
  refine rP 1 [] mn ?_
  refine cX (NW G) (aI) U fun GE K4=>?_
  try dsimp only
  refine cX (G4 rk G GE I) (bj [6,0]) U fun J2 K5=>?_
  obtain ⟨o,AC⟩:=J2
  try dsimp only
  rw [Y]
  refine rP 1 [] mn ?_
  refine RK Do<|an<|hQ _ _ _ (ou 2 U U<|gX (vs:=[(vS o rk.length AC)]) ⟨U,trivial⟩ fun w hs=>It (o,AC) [0] ?_ ?_ U U U hs)
  ·(rw [← IR]; rfl)
  ·trivial
 rintro k x k2 nw l ra rb S w1 K26 Qr27 Lk hx e A6 d Jg J3
 obtain ⟨n,LE,rfl,rfl⟩:=hx
 have T:=e
 try dsimp only
 refine aj<|rP 1 [] mn ?_
 refine aC<|aS (A6 _ _ ?_)
 refine av<|WS fun _ A7=>bf 2 U<|RK A7<|ah fun _ A8=>WS fun _ A9=>fw 1 [] (mc 4 U mn) U<|rS (SX (bI U U) U U)<|rP 2 [] (mr 5 U mn) ?_
 refine jR (kV:=iV) (m:=bL dw m) 6 U U mm U ⟨U,fun h=>h⟩ (by exact j8 6 U) U fun Ik=>?_
 try dsimp only
 refine RK A9<|av ?_
 have A:((1:Int)+(gG m i n:Int)=1+(gG m i n:Int))∧((1:Int)+(jt m i n:Int)=1+(jt m i n:Int))∧(∀ p∈m,p∈m)∧(1≤(1:Int)∧1≤(1:Int)):=by exact ⟨rfl,rfl,fun p hp=>hp,I⟩
 refine bH (ι:={z:gY×Int×Int // (z.2.1+(gG z.1 i n:Int)=1+(gG m i n:Int))∧(z.2.2+(jt z.1 i n:Int)=1+(jt m i n:Int))∧(∀ p∈z.1,p∈m)∧(1≤z.2.1∧1≤z.2.2)}) [2,3,5,7,8,38] [1,2,3,4,5,6,7,8] U U (fun z=>[(9,(vI z.1.2.1)),(10,(vI z.1.2.2))]) (fun z=>[(zC iV Ik gs (bL dw m) (bL dw z.1.1) none)]) (fun _=>rfl) (fun _=>rfl) (fun z=>z.1.1.length) ⟨(m,(1:Int),(1:Int)),A⟩ (aT U) (aH [1,2,3,4,5,6,7,8,0]) ?_
 clear A
 rintro ⟨⟨left,s,t⟩,⟨C,D,B,R⟩⟩ J33 L
 try dsimp only at C D B R
 try dsimp only
 have IX:=Ge (m:=m) (i:=i) (n:=n)
 have Id:=Jk (m:=m) (i:=i) (n:=n)
 refine WS fun _ V=>jg (dC oJ).inj (f:=dw) 8 U U U U (fun P=>?_) (fun x y hm hn=>?_)
 ·refine bf 1 U<|RK V<|ah fun _ J7=>aW U<|bu<|ab<|ab<|au<|KK A8<|WS fun _ Bi=>rP 2 [] mn ?_
  refine RK Bi<|av ?_
  have A:(s≤s∧(s≤t+1∨s=s))∧(iS nw (fun u=>uk m i k u∧ ¬ (s≤u∧u<s))):=by exact ⟨⟨Int.le_refl _,.inr rfl⟩,T.yl fun u=>⟨fun q=>⟨q,fun z=>by omega⟩,fun q=>q.1⟩⟩
  refine bH (ι:={z:Int×qu // (s≤z.1∧(z.1≤t+1∨z.1=s))∧(iS z.2 (fun u=>uk m i k u∧ ¬ (s≤u∧u<z.1)))}) [2,3,5,7,8,9,10] [0,1,2,3,4,5,6,8] U U (fun z=>[(13,(vI z.1.1))]) (fun z=>[(gZ iV AA (bL vB z.1.2))]) (fun _=>rfl) (fun _=>rfl) (fun z=>(t+1-z.1.1).toNat) ⟨(s,nw),A⟩ (aT U) (aH [0,1,2,3,4,5,6,8,7]) ?_
  clear A
  rintro ⟨⟨q,n2⟩,⟨N,H⟩⟩ J37 AO
  try dsimp only at N H
  try dsimp only
  have IX:=Ge (m:=m) (i:=i) (n:=n)
  have Id:=Jk (m:=m) (i:=i) (n:=n)
  have La:s=1+(gG m i n:Int):=by rw [P] at C; simp only [yZ] at C; omega
  have Li:t=1+(jt m i n:Int):=by rw [P] at D; simp only [Bq] at D; omega
  refine ah fun _ B3=>WS fun _ B7=>rP 3 [] mn ?_
  refine RK B7<|bK U (aM fun Gf=>?_) (aL fun Gf=>?_)
  ·refine bu<|ab<|ab<|au<|aG ?_
   exact d n2 _ _ (by exact Io (a:=s) (b:=t) (by rw [P,yZ] at C; omega) (by rw [P,Bq] at D; omega) (H.yl fun u=>⟨fun z=>⟨z.1,fun w=>z.2 I⟩,fun z=>⟨z.1,fun w=>z.2 I⟩⟩)) (aH [0,1,2,3,4,5,6,8])
  refine WK B3<|ah fun _ B9=>av<|aj<|fw 2 [] (mc 2 U mn) U<|pb (kV:=iV) (x:=q) (C':=[_,_,_,_,_,_,_,_,(gZ iV AA (bL vB (cq n2 q)))]) 8 U U U U vx (dC oJ) U (lK _ _ _).symm U<|aC<|aG<|KK B9<|aj<|rP 3 [] mn ?_
  refine aC ?_
  refine aS (AO ⟨((q+1),(cq n2 q)),⟨I,E2 N.1 H⟩⟩ _ _ _ U dso (aT U) (aH [0,1,2,3,4,5,6,7,8]))
 try dsimp only
 refine bf 1 U<|RK V<|ah fun _ Ci=>aO U<|WK Ci<|av<|WS fun _ Ck=>rS (SX (jc 8 U U U) U U)<|bf 2 U<|AL U de fun K8=>bf 1 U<|fP U cm U<|RK Ck<|ah fun _ Cp=>WS fun _ Cx=>rP 3 [] (mc 4 U mn) ?_
 refine RK Cx<|cy U (aL fun E=>?_) (aM fun E=>?_)
 ·refine bu<|ab<|au<|gS 9 U fr U ?_
  refine aS (L ⟨((cq left x),s,t),(by refine ⟨?_,?_,fR B,?_⟩<;>dsimp only <;>first|omega|(rw [← Ib hn hm E]; omega)|(rw [← LF hn hm E]; omega))⟩ _ _ _ U (eN hm) (aT U) (aH [1,2,3,4,5,6,7,8,9]))
 refine WK Cp<|ah fun _ W=>WS fun _ C0=>rP 4 [] (mc 0 U mn) ?_
 refine RK C0<|bK U (aM fun O=>?_) (aL fun O=>?_)
 ·refine WK W<|WS fun _ C2=>rP 4 [] (mc 0 U mn) ?_
  refine RK C2<|bK U (aM fun M=>?_) (aL fun M=>?_)
  ·refine bZ<|aG<|gS 9 U fr U ?_
   refine aS (L ⟨((cq left x),s,t),(by refine ⟨?_,?_,fR B,?_⟩<;>dsimp only <;>first|omega|(have:=CX hn hm E O; omega)|(have:=Gg hn hm E M; omega))⟩ _ _ _ U (eN hm) (aT U) (aH [1,2,3,4,5,6,7,8,9]))
  refine aj<|rP 3 [] mn ?_
  refine aC<|aG<|gS 9 U fr U ?_
  refine aS (L ⟨((cq left x),s,(t+1)),(by refine ⟨?_,?_,fR B,?_⟩<;>dsimp only <;>first|omega|(have:=CX hn hm E O; omega)|(have:=CF hn hm E M; omega))⟩ _ _ _ U (eN hm) (aT U) (aH [1,2,3,4,5,6,7,8,9]))
 refine aj<|bf 3 U<|RK W<|WS fun _ C1=>rP 4 [] (mc 0 U mn) ?_
 refine RK C1<|bK U (aM fun M=>?_) (aL fun M=>?_)
 ·refine bZ<|aG<|gS 9 U fr U ?_
  refine aS (L ⟨((cq left x),(s+1),t),(by refine ⟨?_,?_,fR B,?_⟩<;>dsimp only <;>first|omega|(have:=yC hn hm E O; omega)|(have:=Gg hn hm E M; omega))⟩ _ _ _ U (eN hm) (aT U) (aH [1,2,3,4,5,6,7,8,9]))
 refine aj<|rP 3 [] mn ?_
 refine aC<|aG<|gS 9 U fr U ?_
 refine aS (L ⟨((cq left x),(s+1),(t+1)),(by refine ⟨?_,?_,fR B,?_⟩<;>dsimp only <;>first|omega|(have:=yC hn hm E O; omega)|(have:=CF hn hm E M; omega))⟩ _ _ _ U (eN hm) (aT U) (aH [1,2,3,4,5,6,7,8,9]))
end
section
open Go.RowKit
theorem ME (i:Int) (r:bT) (kA:OA) (kC:Nat) (az:List RA) (cA:OA) (cC:Nat) (bA:OA) (bC:Nat) (slA:OA) (slC:Nat) (drA:OA) (drC:Nat) (ha:List cO) (heA:OA) (heC:Nat) (hin:e7 r az ha):
 lv Tryz.prog 28 [(vA (cx.cells (oI r kA kC cA cC bA bC slA slC drA drC heA heC))),(vI i)] [(rd eW 3 2 dZ),(rd kA r.ao.aP.length 9 (r.ao.aP.map al.cells)),(rd cA r.ao.ak.length 2 (List.zipWith ar.cells r.ao.ak az)),(eX (aV ar.g0 r.ao.ak az)),(rd bA r.ao.ae.length 4 (r.ao.ae.map bD.cells)),(rd slA r.aQ.length 1 (r.aQ.map iC)),(rd drA r.bQ.length 1 (r.bQ.map iC)),(rd heA r.ay.length 1 (List.zipWith cP r.ay ha)),(eX (aV ir r.ay ha))] (fun (x:(OA)×Nat)=>(vT [(vS x.1 ((gK r i).length) x.2),(vI (jG r i))])) (fun (x:(OA)×Nat)=>True) (fun (x:(OA)×Nat)=>[(own x.1 x.2 3 1 ((gK r i).map iC))]):=by
 have V:=hin.line
 have k:=hin.iO
 have l:=hin.has
 have c:=hin.iN
 have Z:=hin.draw
 have d:=dy (r:=r)
 refine dj kr Tryz.func28 U U fun o Q hQ hN=>?_
 try dsimp only
 refine WS fun _ AA=>fM U fun n=>bf 2 U<|RK AA<|WS fun _ G=>rP 2 [] (mc 0 U mn) ?_
 refine cY (xs:=[.tmp 11]) (cs:=[(vI i)]) U cp jf U U U U (by simp [Value.cells]) U U fun h=>cX (yK r kA kC az cA cC bA bC slA slC drA drC ha heA heC i h hin) (bj [2,3,4,5,6,7,8,9,10,0]) U fun m L=>?_
 obtain ⟨M,j,T,S,N,O,AT,f,g⟩:=m
 cases M
 ·obtain ⟨H,he⟩:=L.2 rfl
  try dsimp only at H he
  subst H
  try dsimp only [cond_true,cond_false,List.cons_append,List.nil_append]
  refine bf 7 U<|RK G<|ah fun _ Y=>WS fun _ B=>rP 2 [] mn ?_
  refine RK B<|bK U (bq fun A=>?_) (bp fun A=>?_)
  ·exact absurd A he
  refine WS fun _ C=>dH 3 1 ?_
  rw [show (own none 0 3 1 ([]:List (List Value)))=own none 0 3 1 ((gK r i).map iC) from by rw [yV he]; rfl]
  refine bf 1 U<|rP 2 [] mn ?_
  refine RK C<|an ?_
  refine LX hQ (none,0) [0] [] mn U U U ?_ ?_
  ·(rw [yV he]; rfl)
  ·trivial
 obtain ⟨he,W⟩:=L.1 rfl
 try dsimp only [cond_true,cond_false,List.cons_append,List.nil_append]
 try dsimp only at W
 obtain ⟨J,a,AC⟩:=uO he
 have K:=nt J
 have b:=mo J
 refine bf 7 U<|RK G<|ah fun _ D=>WS fun _ E=>bf 1 U<|rS (SX (bU (r:= .bool false) U U U mA) U U)<|RK E<|aW U<|WK D<|WS fun _ F=>rP 2 [] mn ?_
 refine cX (AB r kA kC cA cC bA bC slA slC drA drC heA heC N ((cN r).length) O S T (aF r) i (by exact K) (by exact AC) I) (bj [0,3]) U fun X e=>?_
 obtain ⟨P,R⟩:=X
 try dsimp only
 rw [show (c_ (aF r) i (aA (aF r) i))=gK r i from (yF he).symm]
 refine rP 2 [] mn ?_
 refine RK F<|an ?_
 refine LX hQ (P,R) [0] [] mn U U U ?_ ?_
 ·(rw [he]; rfl)
 ·trivial
theorem sW (a b:Int) (r:bT) (kA:OA) (kC:Nat) (az:List RA) (cA:OA) (cC:Nat) (bA:OA) (bC:Nat) (slA:OA) (slC:Nat) (drA:OA) (drC:Nat) (ha:List cO) (heA:OA) (heC:Nat) (hin:e7 r az ha):
 dT Tryz.prog 15 [(vA (cx.cells (oI r kA kC cA cC bA bC slA slC drA drC heA heC))),(vI a),(vI b)] [(rd eW 3 2 dZ),(rd kA r.ao.aP.length 9 (r.ao.aP.map al.cells)),(rd cA r.ao.ak.length 2 (List.zipWith ar.cells r.ao.ak az)),(eX (aV ar.g0 r.ao.ak az)),(rd bA r.ao.ae.length 4 (r.ao.ae.map bD.cells)),(rd slA r.aQ.length 1 (r.aQ.map iC)),(rd drA r.bQ.length 1 (r.bQ.map iC)),(rd heA r.ay.length 1 (List.zipWith cP r.ay ha)),(eX (aV ir r.ay ha))] (vT [(Value.int .u8 (ov r a b)),(vI (l7 r a b))]):=by
 have M:=hin.line
 have k:=hin.iO
 have l:=hin.has
 have V:=hin.iN
 have R:=hin.draw
 have W:=dy (r:=r)
 refine bx kr Tryz.func15 U U fun p Q hQ hN=>?_
 try dsimp only
 refine WS fun _ L=>fM U fun o=>bf 2 U<|RK L<|WS fun _ H=>rP 3 [] (mc 0 U mn) ?_
 refine cY (xs:=[.tmp 13,.tmp 14]) (cs:=[(vI a),(vI b)]) U cp jf U U U U (by simp [Value.cells]) U U fun d=>cX (yU r kA kC az cA cC bA bC slA slC drA drC ha heA heC a b d hin) (bj [2,3,4,5,6,7,8,9,10,0]) U fun m J=>?_
 obtain ⟨K,e,g,f,Z,c,AT,X,Y⟩:=m
 cases K
 ·obtain ⟨AB,he⟩:=J.2 rfl
  try dsimp only at AB he
  subst AB
  try dsimp only [cond_true,cond_false,List.cons_append,List.nil_append]
  refine bf 7 U<|RK H<|ah fun _ P=>WS fun _ C=>rP 2 [] mn ?_
  refine RK C<|bK U (bq fun B=>?_) (bp fun B=>?_)
  ·exact absurd B he
  refine WS fun _ D=>rP 3 [] mn ?_
  refine RK D<|an<|Q2 hQ U U U U ?_
  (rw [show ov r a b=0 from if_neg he]; done)
 obtain ⟨he,O⟩:=J.1 rfl
 try dsimp only [cond_true,cond_false,List.cons_append,List.nil_append]
 try dsimp only at O
 obtain ⟨N,S,T,AA⟩:=zz he
 have A:=nt N
 have h:=gM (i:=a) A
 have j:=gM (i:=b) A
 refine bf 7 U<|RK H<|ah fun _ E=>WS fun _ F=>bf 1 U<|rS (SX (bU (r:= .bool false) U U U mA) U U)<|RK F<|aW U<|WK E<|ah fun _ G=>dB cu 21 kr<|dP 1 [] mn ?_
 refine dS (IA 0 U (ai (n:=2) 4 U sq) jQ dc U I) ?_
 refine dS (nS ((0*2)+1) U (ai (n:=([(aA (aF r) a),(aA (aF r) b)]).length) 4 U sm) (Nat.succ_pos _) fu U)<|dS (fV 0 1 (vI ((aA (aF r) a).Hi)) U bX (ai (n:=([(aA (aF r) a),(aA (aF r) b)]).length) 4 U sm) (show ([(aA (aF r) a),(aA (aF r) b)].map aa.cells)[0]? =some [(vI ((aA (aF r) a).Lo)),(vI ((aA (aF r) a).Hi))] from U) U dc U)<|dP 1 [] mn ?_
 refine dS (IA 1 U (ai (n:=2) 4 U sq) jQ dc U I) ?_
 refine dS (nS (1*2) U (ai (n:=([(aA (aF r) a),(aA (aF r) b)]).length) 4 U sm) (Nat.succ_pos _) fu U)<|dS (fV 1 0 (vI ((aA (aF r) b).Lo)) U bX (ai (n:=([(aA (aF r) a),(aA (aF r) b)]).length) 4 U sm) (show ([(aA (aF r) a),(aA (aF r) b)].map aa.cells)[1]? =some [(vI ((aA (aF r) b).Lo)),(vI ((aA (aF r) b).Hi))] from U) U dc U)<|dP 2 [] mn ?_
 refine dS (IA 0 U (ai (n:=2) 4 U sq) jQ dc U I) ?_
 refine dS (nS (0*2) U (ai (n:=([(aA (aF r) a),(aA (aF r) b)]).length) 4 U sm) (Nat.succ_pos _) fu U)<|dS (fV 0 0 (vI ((aA (aF r) a).Lo)) U bX (ai (n:=([(aA (aF r) a),(aA (aF r) b)]).length) 4 U sm) (show ([(aA (aF r) a),(aA (aF r) b)].map aa.cells)[0]? =some [(vI ((aA (aF r) a).Lo)),(vI ((aA (aF r) a).Hi))] from U) U dc U)<|dP 1 [] mn ?_
 refine dS (IA 1 U (ai (n:=2) 4 U sq) jQ dc U I) ?_
 refine dS (nS ((1*2)+1) U (ai (n:=([(aA (aF r) a),(aA (aF r) b)]).length) 4 U sm) (Nat.succ_pos _) fu U)<|dS (fV 1 1 (vI ((aA (aF r) b).Hi)) U bX (ai (n:=([(aA (aF r) a),(aA (aF r) b)]).length) 4 U sm) (show ([(aA (aF r) a),(aA (aF r) b)].map aa.cells)[1]? =some [(vI ((aA (aF r) b).Lo)),(vI ((aA (aF r) b).Hi))] from U) U dc U)<|lH 1 U<|dS (CL (xb (decide (((aA (aF r) a).Hi)<((aA (aF r) b).Lo))) (decide (((aA (aF r) a).Lo)<((aA (aF r) b).Hi)))) (aI) U)<|dP 2 [] mn ?_
 refine cM<|RK G<|an<|Q2 hQ U U U U ?_
 (rw [he,show ov r a b=vK _ _ from if_pos he,← NA])
theorem Qv (a b:Int) (r:bT) (kA:OA) (kC:Nat) (az:List RA) (cA:OA) (cC:Nat) (bA:OA) (bC:Nat) (slA:OA) (slC:Nat) (drA:OA) (drC:Nat) (ha:List cO) (heA:OA) (heC:Nat) (hin:e7 r az ha):
 dT Tryz.prog 16 [(vA (cx.cells (oI r kA kC cA cC bA bC slA slC drA drC heA heC))),(vI a),(vI b)] [(rd eW 3 2 dZ),(rd kA r.ao.aP.length 9 (r.ao.aP.map al.cells)),(rd cA r.ao.ak.length 2 (List.zipWith ar.cells r.ao.ak az)),(eX (aV ar.g0 r.ao.ak az)),(rd bA r.ao.ae.length 4 (r.ao.ae.map bD.cells)),(rd slA r.aQ.length 1 (r.aQ.map iC)),(rd drA r.bQ.length 1 (r.bQ.map iC)),(rd heA r.ay.length 1 (List.zipWith cP r.ay ha)),(eX (aV ir r.ay ha))] (vT [(Value.int .u8 (pP r a b)),(vI (l7 r a b))]):=by
 have T:=hin.line
 have q:=hin.iO
 have s:=hin.has
 have d:=hin.iN
 have X:=hin.draw
 have e:=dy (r:=r)
 refine bx kr Tryz.func16 U U fun w Q hQ hN=>?_
 try dsimp only
 refine WS fun _ P=>fM U fun v=>bf 2 U<|RK P<|WS fun _ J=>rP 3 [] (mc 0 U mn) ?_
 refine cY (xs:=[.tmp 14,.tmp 15]) (cs:=[(vI a),(vI b)]) U cp jf U U U U (by simp [Value.cells]) U U fun l=>cX (yU r kA kC az cA cC bA bC slA slC drA drC ha heA heC a b l hin) (bj [2,3,4,5,6,7,8,9,10,0]) U fun u N=>?_
 obtain ⟨O,m,p,o,h,j,AT,f,g⟩:=u
 cases O
 ·obtain ⟨M,he⟩:=N.2 rfl
  try dsimp only at M he
  subst M
  try dsimp only [cond_true,cond_false,List.cons_append,List.nil_append]
  refine bf 7 U<|RK J<|ah fun _ W=>WS fun _ E=>rP 2 [] mn ?_
  refine RK E<|bK U (bq fun D=>?_) (bp fun D=>?_)
  ·exact absurd D he
  refine WS fun _ F=>rP 3 [] mn ?_
  refine RK F<|an<|Q2 hQ U U U U ?_
  (rw [show pP r a b=0 from if_neg he]; done)
 obtain ⟨he,V⟩:=N.1 rfl
 try dsimp only [cond_true,cond_false,List.cons_append,List.nil_append]
 try dsimp only at V
 obtain ⟨AA,Y,Z,c⟩:=zz he
 have B:=nt AA
 have R:=gM (i:=a) B
 have S:=gM (i:=b) B
 refine bf 7 U<|RK J<|ah fun _ G=>WS fun _ H=>rP 1 [] mn ?_
 refine rS (SX (bU (r:= .bool false) U U U mA) U U)<|RK H<|aW U<|WK G<|ah fun _ AB=>dG cu [19,20] [] [] [0,1,2,3,4,5,6,7,8,9,10,11,12,13,14,15] [] U U U U U<|eS U (MV U) ?_
 refine eS U (IA 0 U (ai (n:=2) 4 U sq) jQ dc U I) ?_
 refine eS U (nS (0*2) U (ai (n:=([(aA (aF r) a),(aA (aF r) b)]).length) 4 U sm) (Nat.succ_pos _) fu U)<|eS U (fV 0 0 (vI ((aA (aF r) a).Lo)) U bX (ai (n:=([(aA (aF r) a),(aA (aF r) b)]).length) 4 U sm) (show ([(aA (aF r) a),(aA (aF r) b)].map aa.cells)[0]? =some [(vI ((aA (aF r) a).Lo)),(vI ((aA (aF r) a).Hi))] from U) U dc U)<|eS U (MV U) ?_
 refine eS U (IA 1 U (ai (n:=2) 4 U sq) jQ dc U I) ?_
 refine eS U (nS (1*2) U (ai (n:=([(aA (aF r) a),(aA (aF r) b)]).length) 4 U sm) (Nat.succ_pos _) fu U)<|eS U (fV 1 0 (vI ((aA (aF r) b).Lo)) U bX (ai (n:=([(aA (aF r) a),(aA (aF r) b)]).length) 4 U sm) (show ([(aA (aF r) a),(aA (aF r) b)].map aa.cells)[1]? =some [(vI ((aA (aF r) b).Lo)),(vI ((aA (aF r) b).Hi))] from U) U dc U)<|eS U (MX U)<|eS U (MV U) ?_
 refine eS U (IA 0 U (ai (n:=2) 4 U sq) jQ dc U I) ?_
 refine eS U (nS ((0*2)+1) U (ai (n:=([(aA (aF r) a),(aA (aF r) b)]).length) 4 U sm) (Nat.succ_pos _) fu U)<|eS U (fV 0 1 (vI ((aA (aF r) a).Hi)) U bX (ai (n:=([(aA (aF r) a),(aA (aF r) b)]).length) 4 U sm) (show ([(aA (aF r) a),(aA (aF r) b)].map aa.cells)[0]? =some [(vI ((aA (aF r) a).Lo)),(vI ((aA (aF r) a).Hi))] from U) U dc U)<|eS U (MV U) ?_
 refine eS U (IA 1 U (ai (n:=2) 4 U sq) jQ dc U I) ?_
 refine eS U (nS ((1*2)+1) U (ai (n:=([(aA (aF r) a),(aA (aF r) b)]).length) 4 U sm) (Nat.succ_pos _) fu U)<|eS U (fV 1 1 (vI ((aA (aF r) b).Hi)) U bX (ai (n:=([(aA (aF r) a),(aA (aF r) b)]).length) 4 U sm) (show ([(aA (aF r) a),(aA (aF r) b)].map aa.cells)[1]? =some [(vI ((aA (aF r) b).Lo)),(vI ((aA (aF r) b).Hi))] from U) U dc U)<|eS U (MN U)<|eS U (SX (bh (xs:=[(0,.tmp 32),(1,.tmp 41)]) (cs:=(aa.cells (aa.mk (max ((aA (aF r) a).Lo) ((aA (aF r) b).Lo)) (min ((aA (aF r) a).Hi) ((aA (aF r) b).Hi))))) U U (bg gf U)) U U)<|eU U<|bY U fun T22 K=>AL U de fun k=>aC (K _ _ (aH [1,2,3,4,5,6,7,8,9,10,11,12,13,14,15,16]) ?_)
 refine bY U fun T24 L=>fP U cm U<|aC (L _ _ (aH [1,2,3,4,5,6,7,8,9,10,11,12,13,14,15,16]) ?_)
 refine fF U<|KK AB<|ah fun _ A=>dB cu 22 kr<|dP 1 [] mn ?_
 refine dS (IA 0 U (ai (n:=2) 5 U sq) jQ dc U I) ?_
 refine dS (oH 0 0 (aa.cells (aA (aF r) a)) U bX (ai (n:=([(aA (aF r) a),(aA (aF r) b)]).length) 5 U sm) (show ([(aA (aF r) a),(aA (aF r) b)].map aa.cells)[0]? =some [(vI ((aA (aF r) a).Lo)),(vI ((aA (aF r) a).Hi))] from U) U dc U U)<|dP 1 [] mn ?_
 refine dS (IA 1 U (ai (n:=2) 5 U sq) jQ dc U I) ?_
 refine dS (oH 1 0 (aa.cells (aA (aF r) b)) U bX (ai (n:=([(aA (aF r) a),(aA (aF r) b)]).length) 5 U sm) (show ([(aA (aF r) a),(aA (aF r) b)].map aa.cells)[1]? =some [(vI ((aA (aF r) b).Lo)),(vI ((aA (aF r) b).Hi))] from U) U dc U U)<|dS (BI U (tI _ _ (aA (aF r) a) (aA (aF r) b)))<|dP 1 [] mn ?_
 refine jk (t:=50) U (aM fun C=>?_) (aL fun C=>?_)
 ·refine mP 11 [] (mc 0 U mn) U<|dS (CL (xb false (decide ((max ((aA (aF r) a).Lo) ((aA (aF r) b).Lo))≤(min ((aA (aF r) a).Hi) ((aA (aF r) b).Hi))))) (aI) U)<|dP 2 [] mn ?_
  refine cM<|RK A<|an<|Q2 hQ U U U U ?_
  (rw [he,show pP r a b=ql _ _ from if_pos he,← MH R.2.1 S.2.1 C]; done)
 refine mP 11 [] (mc 0 U mn) U<|dS (CL (xb (decide ((max ((aA (aF r) a).Lo) ((aA (aF r) b).Lo))=(min ((aA (aF r) a).Hi) ((aA (aF r) b).Hi)))) (decide ((max ((aA (aF r) a).Lo) ((aA (aF r) b).Lo))≤(min ((aA (aF r) a).Hi) ((aA (aF r) b).Hi))))) (aI) U)<|dP 2 [] mn ?_
 refine cM<|RK A<|an<|Q2 hQ U U U U ?_
 (rw [he,show pP r a b=ql _ _ from if_pos he,← Jv C]; done)
end
section
open Go.RowKit
theorem Lj (m:gY) (gm g1:Nat):
 DL Tryz.prog 68 [] [(vP g1)] [(gZ iV gm (bL dw m)),(bV g1 64 [(Value.map (some gm))])] ([]:List Int) (fun ys x ys'=> ∃ n zs,(ys++[n]++zs).Perm (m.map (·.1))∧x=[vI n]∧ys'=ys++[n]) (fun ys=>ys.Perm (m.map (·.1))):=by
 refine tJ kr Tryz.func68 U U fun l J Z A0 S Q hY M L hQ hN=>?_
 try dsimp only
 refine WS fun _ O=>rP 1 [] (mr 2 U mn) ?_
 refine jR (kV:=iV) (m:=bL dw m) 1 U U mm U ⟨U,fun h=>h⟩ (by exact j8 1 U) U fun V=>?_
 try dsimp only
 refine RK O<|av ?_
 have G:(oB m m ([]:List Int))∧(∀ p∈m,p∈m)∧(J ([]:List Int) A0)∧(Fo A0 S A0):=by exact ⟨u3,fun p hp=>hp,M,L⟩
 refine bH (ι:={z:gY×(List Int)×aq // (oB m z.1 z.2.1)∧(∀ p∈z.1,p∈m)∧(J z.2.1 z.2.2)∧(Fo A0 S z.2.2)}) [0,1,5] [2,3] U U (fun z=>[]) (fun z=>[(zC iV V gm (bL dw m) (bL dw z.1.1) none),z.1.2.2]) (fun _=>rfl) (fun _=>rfl) (fun z=>z.1.1.length) ⟨(m,([]:List Int),A0),G⟩ (dh.nil _) (aH [2,3,0,1]) ?_
 clear G
 rintro ⟨⟨left,ys,A⟩,⟨B,H,C,D⟩⟩ J3 N
 try dsimp only at B H C D
 try dsimp only
 refine WS fun _ AB=>jg (dC oJ).inj (f:=dw) 2 U U U U (fun T=>?_) (fun x y hm hn=>?_)
 ·refine rP 1 [] mn ?_
  refine RK AB<|ah fun _ AA=>aW U<|bu<|ab<|ab<|au ?_
  refine hN _ _ _ (gX (vs:=[]) trivial fun w hs=>Kp 3 U (by rw [T] at B; exact wO B) C D hs)
 try dsimp only
 refine bf 1 U<|RK AB<|ah fun _ P=>aO U<|WK P<|av<|WS fun _ R=>rS (SX (jc 2 U U U) U U)<|bf 2 U<|RK R<|WS fun _ K=>rP 2 [] mn ?_
 refine ku (k:=ys) (k':=(ys++[(x)])) 3 (by first|exact hsz|exact Nat.le_refl _) hY C D U U U (by exact ⟨x,_,oa hn hm B,U,U⟩) U U (fun B9 F E=>?_) (fun B9 F E=>?_)
 rotate_left 1
 ·refine rP 1 [] mn ?_
  refine RK K<|aO U<|an ?_
  refine hQ _ _ _ (gX (vs:=[]) trivial fun w hs=>rF 3 U F E hs)
 refine rP 1 [] mn ?_
 refine RK K<|aW U<|bZ<|aG<|gS 2 U fr U ?_
 refine aS (N ⟨((cq left x),(ys++[(x)]),B9),⟨oa hn hm B,fR H,F,E⟩⟩ _ _ _ U (eN hm) (aT U) (aH [0,1,2,3]))
theorem F2 (gm:Nat):
 lv Tryz.prog 42 [(Value.map (some gm))] [] (fun (x:Nat)=>(Value.func (.func 68) [].toArray [(vP x)].toArray)) (fun (x:Nat)=>True) (fun (x:Nat)=>[(bV x 64 [(Value.map (some gm))])]):=by
 refine dj kr Tryz.func42 U U fun D Q hQ hN=>?_
 try dsimp only
 refine WS fun _ A=>uc U U fun C=>bf 1 U<|RK A<|WS fun _ B=>rS (FU U)<|rP 1 [] mn ?_
 refine RK B<|an<|LX hQ C [0] [] mn U U U U ?_
 trivial
end
section
open Go.RowKit
theorem HZ (m:gY) (gm g1:Nat) (hlen:m.length≤12):
 lv Tryz.prog 94 [(vS none 0 0),(Value.func (.func 68) [].toArray [(vP g1)].toArray)] [(gZ iV gm (bL dw m)),(bV g1 64 [(Value.map (some gm))])] (fun (x:(List Int)×(OA)×Nat)=>(vS x.2.1 x.1.length x.2.2)) (fun (x:(List Int)×(OA)×Nat)=>x.1.Perm (m.map (·.1))) (fun (x:(List Int)×(OA)×Nat)=>[(own x.2.1 x.2.2 3 1 (x.1.map iC))]):=by
 refine dj kr Tryz.func94 U U fun X Q hQ hN=>?_
 try dsimp only
 refine WS fun _ AB=>uc U U fun N=>bf 1 U<|RK AB<|ah fun _ J=>WS fun _ K=>rP 1 [] mn ?_
 refine RK K<|av<|ky 1 U (by exact fun _ h=>h)<|ky 3 U (by exact fun _ h=>h)<|fQ 3 1 ?_
 refine nx (L0:=[(2,(vP N))]) (F:=[(gZ iV gm (bL dw m)).ro,(bV g1 64 [(Value.map (some gm))]).ro]) (fun k (y:(OA)×Nat)=>(∃ zs,(k++zs).Perm (m.map (·.1)))) (fun k y=>[(own y.1 y.2 3 1 (k.map iC)),(bV N 32 [(vS y.1 k.length y.2)]),(gZ iV gm (bL dw m)).ro]) (fun _ (_:Unit)=>False) (fun _ _=>[]) [0,3,4] [2,1] (none,0) rfl rfl (Lj m gm g1) rfl rfl rfl (by exact ⟨_,List.Perm.refl _⟩) (by simp only [List.forall_mem_cons,List.not_mem_nil,false_imp_iff,implies_true,and_true]; exact ⟨⟨_,sm,(dD (bP _))⟩,⟨_,sm,(dD (bP _))⟩⟩) (by rintro k x AA ⟨n,zs,_,rfl,_⟩; rfl) rfl (aT rfl) ?_ ?_ (fun _ _ _ h=>h.elim) (fun _ _ h=>h.elim)
 rotate_left 1
 ·rintro V k ⟨a,c⟩ E A
  have B:=A
  try dsimp only at B
  try dsimp only
  refine aG<|KK J<|WS fun _ C=>rP 2 [] (mc 4 U mn) ?_
  refine RK C<|an<|hQ _ _ _ (ou 0 U U<|gX (vs:=[(vS a k.length c)]) ⟨U,trivial⟩ fun w hs=>It (k,a,c) [3] ?_ ?_ U U U hs)
  ·rfl
  ·first|exact E|exact hys
 rintro k x AA ⟨a,c⟩ l ra rb S Y K5 Qr6 T hx G L D O P
 obtain ⟨n,zs,hn,rfl,rfl⟩:=hx; have M:=hn.length_eq; simp only [List.length_append,List.length_map,List.length_singleton] at M
 have B:=G
 try dsimp only at B
 try dsimp only
 refine aj<|rP 1 [] mn ?_
 refine aC<|aS (L _ _ ?_)
 refine av<|aj<|rP 2 [] (mc 2 U mn) ?_
 refine cY (xs:=[.tmp 9]) (cs:=[(vI n)]) U cp jf U U U U (by simp [Value.cells]) U U fun W=>?_
 refine db (es2:=(List.map iC (k++[n]))) (m':=(k++[n]).length) 2 U U U p5 U U sm (aZ (es:=List.map iC [n]) 0 U U (by simp [bB]) U) (kd _) os (by simp only [maxLen]; omega) sm sm U fun R H=>?_
 try dsimp only
 refine Vl U zS U U<|aC<|aG ?_
 exact D (R,H) _ _ (by exact ⟨_,hn⟩) (aH [1,2,3,4])
end
section
open Go.RowKit
theorem Eh (m:gY) (gm g1:Nat) (hlen:m.length≤12):
 lv Tryz.prog 67 [(Value.func (.func 68) [].toArray [(vP g1)].toArray)] [(gZ iV gm (bL dw m)),(bV g1 64 [(Value.map (some gm))])] (fun (x:(List Int)×(OA)×Nat)=>(vS x.2.1 x.1.length x.2.2)) (fun (x:(List Int)×(OA)×Nat)=>x.1.Perm (m.map (·.1))) (fun (x:(List Int)×(OA)×Nat)=>[(own x.2.1 x.2.2 3 1 (x.1.map iC))]):=by
 refine dj kr Tryz.func67 U U fun AA Q hQ hN=>?_
 try dsimp only
 refine WS fun _ A=>bf 1 U<|RK A<|WS fun _ B=>rP 1 [] mn ?_
 refine cX (HZ m gm g1 hlen) (bj [0,1]) U fun H C=>?_
 obtain ⟨E,F,G⟩:=H
 try dsimp only
 have D:=C
 refine rP 1 [] mn ?_
 refine RK B<|an<|LX hQ (E,F,G) [0] [] mn U U U U ?_
 first|exact hfin|exact D
theorem yN (m:gY) (gm g1:Nat) (hlen:m.length≤12):
 lv Tryz.prog 41 [(Value.func (.func 68) [].toArray [(vP g1)].toArray)] [(gZ iV gm (bL dw m)),(bV g1 64 [(Value.map (some gm))])] (fun (x:(OA)×Nat)=>(vS x.1 m.length x.2)) (fun (x:(OA)×Nat)=>True) (fun (x:(OA)×Nat)=>[(own x.1 x.2 3 1 ((df (m.map (·.1))).map iC))]):=by
 refine dj kr Tryz.func41 U U fun M Q hQ hN=>?_
 try dsimp only
 refine WS fun _ E=>bf 1 U<|RK E<|WS fun _ F=>rP 1 [] mn ?_
 refine cX (Eh m gm g1 hlen) (bj [0,1]) U fun L H=>?_
 obtain ⟨AA,J,K⟩:=L
 try dsimp only
 have D:=H
 refine bf 1 U<|RK F<|WS fun _ G=>rP 1 [] mn ?_
 have B:=D.length_eq
 simp only [List.length_map] at B
 refine iQ 0 U U U U (Af AA J K sd) U kh U (fun ms C=>?_)
 try dsimp only
 refine RK G<|WS fun _ A=>?_
 obtain rfl:=qM (C.1.trans D) C.2
 skip
 refine rP 2 [] mn ?_
 refine RK A<|an ?_
 refine LX hQ (J,K) [0] [] mn U U U ?_ ?_
 ·first|rfl|(rw [B]; rfl)
 ·trivial
end
section
open Go.RowKit
theorem we (l:List Int) (lA:OA) (lC:Nat) (hlen:l.length≤1000000):
 lv Tryz.prog 45 [(vS lA l.length lC)] [(rd lA l.length 1 (l.map iC))] (fun (x:(OA)×Nat)=>(vS x.1 l.length x.2)) (fun (x:(OA)×Nat)=>True) (fun (x:(OA)×Nat)=>[(own x.1 x.2 3 1 (l.map iC))]):=by
 refine dj kr Tryz.func45 U U fun L Q hQ hN=>?_
 try dsimp only
 refine WS fun _ D=>bf 1 U<|RK D<|ah fun _ E=>WS fun _ F=>rP 1 [] mn ?_
 refine rS (BI U (qD SL))<|RK F<|cy U (aL fun B=>?_) (aM fun B=>?_)
 ·refine WS fun _ G=>ml (aD 0 U) B dc fun C=>?_
  have A:l=[]:=by simpa using C
  refine dH 3 1 ?_
  rw [show (own none 0 3 1 ([]:List (List Value)))=own none 0 3 1 (l.map iC) from by rw [A]; rfl]
  refine rP 1 [] mn ?_
  refine RK G<|an ?_
  refine LX hQ (none,0) [0] [] mn U U U ?_ ?_
  ·first|rfl|(rw [A]; rfl)
  ·trivial
 refine WK E<|WS fun _ H=>sN U cp U fun J=>rP 1 [] mn ?_
 refine dM (es:=(List.map iC [])) (C':=[own (some ⟨J,0,none⟩) 0 3 1 (List.map iC []),_]) 0 U sm U (by simp [maxLen]) U ?_
 refine db (es2:=(List.map iC l)) (m':=l.length) 0 U U U p5 U U sm (aD 1 U) (kd _) os (by first|(simp only [maxLen]; omega)|(simp [maxLen]; omega)) sm sm U fun AA K=>?_
 try dsimp only
 refine rP 1 [] mn ?_
 refine RK H<|an ?_
 refine LX hQ (AA,K) [0] [] mn U U U ?_ ?_
 ·first|rfl|(rw [A]; rfl)
 ·trivial
theorem B1 (l:List Int) (lA:OA) (lC:Nat) (f:Value) (key:Int→Int) (X:aq) (hf: ∀ x0 x1,x0∈l∧x1∈l→EB Tryz.prog f [.int .i64 x0,.int .i64 x1] [X] (.int .i64 (key x0-key x1))) (hkb: ∀ x∈l,0≤key x∧key x≤30000000) (hlen:l.length≤1000000):
 Dr Tryz.prog 127 [(vS lA l.length lC),(vI 0),(vI (l.length:Int)),f] [X] (own lA lC 3 1 (l.map iC)) (fun (x:Unit)=>(vT [])) (fun (x:Unit)=>True) (fun (x:Unit)=>(own lA lC 3 1 ((er key l).map iC))):=by
 refine mI kr Tryz.func127 U U fun s Q hQ hN=>?_
 try dsimp only
 refine WS fun _ Z=>bf 1 U<|rS (SX (bU (r:= .int .i64 1) U U U (ic ⟨dc,dc⟩)) U U)<|rP 1 [] mn ?_
 refine RK Z<|av ?_
 have C:(1≤1∧(1≤l.length∨1=1))∧(l.length=l.length)∧(1=1∧l=[]∨tp key l 1 l)∧(∀ x∈l,x∈l):=by exact ⟨I,rfl,Gx,fun x h=>h⟩
 refine bH (ι:={z:Nat×(List Int) // (1≤z.1∧(z.1≤l.length∨z.1=1))∧(z.2.length=l.length)∧(z.1=1∧l=[]∨tp key l z.1 z.2)∧(∀ x∈z.2,x∈l)}) [0,1,2,3] [1] U U (fun z=>[(8,(vI (z.1.1:Int)))]) (fun z=>[(own lA lC 3 1 (z.1.2.map iC))]) (fun _=>rfl) (fun _=>rfl) (fun z=>l.length-z.1.1) ⟨(1,l),C⟩ (aT U) (aH [1,0]) ?_
 clear C
 rintro ⟨⟨i,m⟩,⟨AB,E,F,G⟩⟩ J2 L
 try dsimp only at AB E F G
 try dsimp only
 refine ah fun _ b=>WS fun _ c=>rP 3 [] mn ?_
 refine RK c<|bK U (aM fun p=>?_) (aL fun p=>?_)
 ·refine bu<|ab<|ab<|au ?_
  rw [show m=er key l from Ip I E F]
  refine LM hN () 1 [] mn U U U U ?_
  trivial
 refine WK b<|ah fun _ N=>av<|WS fun _ d=>rP 2 [] mn ?_
 refine RK d<|av ?_
 have C:(i≤i)∧(m.length=l.length)∧(∀ x∈m,x∈l)∧(C9 key l i i m):=by exact ⟨Nat.le_refl _,E,G,Ee I (Oa I F)⟩
 refine bH (ι:={z:Nat×(List Int) // (z.1≤i)∧(z.2.length=l.length)∧(∀ x∈z.2,x∈l)∧(C9 key l i z.1 z.2)}) [0,1,2,3,8] [0] U U (fun z=>[(9,(vI (z.1.1:Int)))]) (fun z=>[(own lA lC 3 1 (z.1.2.map iC))]) (fun _=>rfl) (fun _=>rfl) (fun z=>z.1.1) ⟨(i,m),C⟩ (aT U) (aH [0,1]) ?_
 clear C
 rintro ⟨⟨j,q⟩,⟨J,D,A,B⟩⟩ J8 Y
 try dsimp only at J D A B
 try dsimp only
 refine ah fun _ e=>ah fun _ H=>dB cu 17 kr<|dP 4 [] mn ?_
 refine jk (t:=21) U (aM fun V=>?_) (aL fun V=>?_)
 ·refine lH 13 U<|cM<|RK H<|aW U<|bu<|ab<|ab<|au<|aG<|KK N<|aj<|rP 3 [] mn ?_
  refine aC ?_
  refine aS (L ⟨((i+1),q),⟨I,D,.inr (by first|exact za I B|exact yT I B hx hy I),A⟩⟩ _ _ _ U (by simp only []; omega) (aT U) (aH [0,1]))
 refine dP 3 [] mn ?_
 obtain ⟨x,hx⟩:=aJ q j I
 have K:=bG iC hx
 refine dS (IA j U (ai (n:=l.length) 1 U sq) cp dc I I) ?_
 refine dS (fV j 0 (vI x) U bX (ai (n:=q.length) 1 U sm) K U dc U)<|dP 3 [] mn ?_
 obtain ⟨y,hy⟩:=aJ q (j-1) I
 have AA:=bG iC hy
 refine dS (IA (j-1) U (ai (n:=l.length) 1 U sq) cp dc I I) ?_
 refine dS (fV (j-1) 0 (vI y) U bX (ai (n:=q.length) 1 U sm) AA U dc U)<|dS (SX (sx U U U (hf x y ⟨A _ (aR hx),A _ (aR hy)⟩) (bj [0])) U U)<|dP 2 [] mn ?_
 refine cM<|RK H<|bK U (aM fun W=>?_) (aL fun W=>?_)
 ·refine bu<|ab<|ab<|au<|aG<|KK N<|aj<|rP 3 [] mn ?_
  refine aC ?_
  refine aS (L ⟨((i+1),q),⟨I,D,.inr (by first|exact za I B|exact yT I B hx hy I),A⟩⟩ _ _ _ U (by simp only []; omega) (aT U) (aH [0,1]))
 refine WK e<|ah fun _ M=>av<|dG cu [15,16,17] [8,9,12,13,14] [] [0] [0,1] U U U U U<|eS U (MV U)<|eS U (MV U)<|eS U (MV U)<|eS U (MV U)<|eS U (BI U (rI ⟨I,I⟩))<|eS U (MV U)<|eS U (MV U)<|eS U (BI U (rI ⟨I,I⟩)) ?_
 refine fS U (IA (j-1) U (ai (n:=l.length) 1 U sq) cp dc I I) ?_
 refine fS U (fV (j-1) 0 (vI y) U bX (ai (n:=q.length) 1 U sm) AA U dc U)<|eS U (MV U)<|eS U (MV U) ?_
 refine fS U (IA j U (ai (n:=l.length) 1 U sq) cp dc I I) ?_
 refine fS U (fV j 0 (vI x) U bX (ai (n:=q.length) 1 U sm) K U dc U) ?_
 refine fS U (IA j U (ai (n:=l.length) 1 U sq) cp dc I I) ?_
 refine eU U<|bY U fun T14 O=>ew (k:=j) (o:=0) (vs:=[(vI y)]) (es':=(List.map iC (q.set j y))) (C':=[_,(own lA lC 3 1 (List.map iC (q.set j y)))]) 1 U U U BW U U U U K U dc (by exact (List.map_set (f:=iC) (l:=q) (i:=j) (a:=y)).symm) U<|aC (O _ _ (aH [0]) ?_)
 refine bY U fun T15 P=>?_
 obtain ⟨g,T⟩:=aJ (q.set j y) (j-1) os
 have hx17m:(List.map iC (q.set j y))[(j-1)]? =some (iC g):=by rw [fq,T]; rfl
 refine rS (IA (j-1) U (ai (n:=l.length) 1 U sq) cp dc I I) ?_
 refine aC (P _ _ (aH [0]) ?_)
 refine bY U fun T18 R=>ew (k:=(j-1)) (o:=0) (vs:=[(vI x)]) (es':=(List.map iC ((q.set j y).set (j-1) x))) (C':=[_,(own lA lC 3 1 (List.map iC ((q.set j y).set (j-1) x)))]) 1 U U U BW U U U U hx17m U dc (by exact (List.map_set (f:=iC) (l:=(q.set j y)) (i:=(j-1)) (a:=x)).symm) U<|aC (R _ _ (aH [0]) ?_)
 refine fF U<|aG<|KK M<|aj<|rP 3 [] mn ?_
 refine aC ?_
 have S:(vI (((j-1):Nat):Int))=(vI ((j:Int)-1)):=by exact cI I
 refine aS (Y ⟨((j-1),((q.set j y).set (j-1) x)),⟨I,by simp; exact D,KR hx hy A,GJ I B hx hy I⟩⟩ _ _ _ U (by simp only []; omega) (ct 5<|aX U S<|dh.nil _) (aH [0,1]))
theorem I_ (l:List Int) (lA:OA) (lC:Nat) (f:Value) (key:Int→Int) (X:aq) (hf: ∀ x0 x1,x0∈l∧x1∈l→EB Tryz.prog f [.int .i64 x0,.int .i64 x1] [X] (.int .i64 (key x0-key x1))) (hkb: ∀ x∈l,0≤key x∧key x≤30000000) (hlen:l.length≤12):
 Dr Tryz.prog 98 [(vS lA l.length lC),(vI (l.length:Int)),f] [X] (own lA lC 3 1 (l.map iC)) (fun (x:Unit)=>(vT [])) (fun (x:Unit)=>True) (fun (x:Unit)=>(own lA lC 3 1 ((er key l).map iC))):=by
 refine mI kr Tryz.func98 U U fun N Q hQ hN=>?_
 try dsimp only
 refine WS fun _ C=>bf 1 U<|RK C<|WS fun _ D=>bf 3 U<|RK D<|ah fun _ E=>av<|jL 1<|ed fun R4 M=>ah fun _ L=>WS fun _ F=>rP 3 [] mn ?_
 refine RK F<|cy U (aL fun K=>?_) (aM fun K=>?_)
 ·exfalso; omega
 refine bu<|ab<|ab<|au<|KK E<|WS fun _ G=>rP 4 [] mn ?_
 refine iQ 0 U U U U (B1 l lA lC f key X (by exact hf) hkb sd) U (dR 1 U U (dD (bP _)) kh) U (fun O J=>?_)
 try dsimp only
 refine RK G<|av<|jL 1<|ed fun R11 AA=>ah fun _ H=>WS fun _ A=>rP 3 [] mn ?_
 refine RK A<|cy U (aL fun B=>?_) (aM fun B=>?_)
 ·exfalso; omega
 refine bu<|ab<|ab<|au<|LM hN () 0 [] mn U U U U ?_
 trivial
theorem Am (l:List Int) (lA:OA) (lC:Nat) (f:Value) (key:Int→Int) (X:aq) (hf: ∀ x0 x1,x0∈l∧x1∈l→EB Tryz.prog f [.int .i64 x0,.int .i64 x1] [X] (.int .i64 (key x0-key x1))) (hkb: ∀ x∈l,0≤key x∧key x≤30000000) (hlen:l.length≤12):
 Dr Tryz.prog 73 [(vS lA l.length lC),f] [X] (own lA lC 3 1 (l.map iC)) (fun (x:Unit)=>(vT [])) (fun (x:Unit)=>True) (fun (x:Unit)=>(own lA lC 3 1 ((er key l).map iC))):=by
 refine mI kr Tryz.func73 U U fun B Q hQ hN=>?_
 try dsimp only
 refine aj<|rP 4 [] mn ?_
 refine iQ 0 U U U U (I_ l lA lC f key X (by exact hf) hkb hlen) U (dR 1 U U (dD (bP _)) kh) U (fun C A=>?_)
 try dsimp only
 refine aC<|LM hN () 0 [] mn U U U U ?_
 trivial
theorem yH (l:List Int) (lA:OA) (lC:Nat) (f:Value) (key:Int→Int) (X:aq) (hf: ∀ x0 x1,x0∈l∧x1∈l→EB Tryz.prog f [.int .i64 x0,.int .i64 x1] [X] (.int .i64 (key x0-key x1))) (hkb: ∀ x∈l,0≤key x∧key x≤30000000) (hlen:l.length≤12):
 lv Tryz.prog 47 [(vS lA l.length lC),f] [(rd lA l.length 1 (l.map iC)),X] (fun (x:(OA)×Nat)=>(vS x.1 ((er key l).length) x.2)) (fun (x:(OA)×Nat)=>True) (fun (x:(OA)×Nat)=>[(own x.1 x.2 3 1 ((er key l).map iC))]):=by
 refine dj kr Tryz.func47 U U fun J Q hQ hN=>?_
 try dsimp only
 refine WS fun _ B=>bf 1 U<|RK B<|WS fun _ C=>rP 1 [] mn ?_
 refine cX (we l lA lC sd) (bj [0]) U fun AA G=>?_
 obtain ⟨E,F⟩:=AA
 try dsimp only
 refine bf 1 U<|RK C<|WS fun _ D=>rP 2 [] mn ?_
 refine iQ 0 U U U U (Am l E F f key X (by exact hf) hkb hlen) U (dR 2 U U (dD (bP _)) kh) U (fun K H=>?_)
 try dsimp only
 refine RK D<|WS fun _ A=>rP 2 [] mn ?_
 refine RK A<|an ?_
 refine LX hQ (E,F) [0] [] mn U U U ?_ ?_
 ·first|rfl|(rw [kz]; rfl)
 ·trivial
theorem HW (l:List Int) (lA:OA) (lC k:Nat) (hk:k≤l.length) (hlen:l.length≤1000000):
 Dr Tryz.prog 49 [(vS lA k lC)] [] (own lA lC 3 1 (l.map iC)) (fun (x:Unit)=>(vT [])) (fun (x:Unit)=>True) (fun (x:Unit)=>(own lA lC 3 1 ((rJ k l).map iC))):=by
 refine mI kr Tryz.func49 U U fun V Q hQ hN=>?_
 try dsimp only
 refine WS fun _ J=>rP 5 [] mn ?_
 refine RK J<|av ?_
 have B:(0≤k)∧(G9 l k 0 l):=by exact ⟨Nat.zero_le _,Mr⟩
 have P:(vI ((k:Int)-1-(0:Int)))=(vI ((k:Int)-1)):=by exact cI I
 refine bH (ι:={z:Nat×(List Int) // (z.1≤k)∧(G9 l k z.1 z.2)}) [0] [] U U (fun z=>[(2,(vI (z.1.1:Int))),(3,(vI ((k:Int)-1-(z.1.1:Int))))]) (fun z=>[(own lA lC 3 1 (z.1.2.map iC))]) (fun _=>rfl) (fun _=>rfl) (fun z=>k-z.1.1) ⟨(0,l),B⟩ (dh.cons U<|aX U P<|dh.nil _) (aH [0]) ?_
 clear B
 rintro ⟨⟨i,m⟩,⟨C,A⟩⟩ J3 AB
 try dsimp only at C A
 try dsimp only
 have AA:=A.1
 refine ah fun _ K=>WS fun _ L=>rP 3 [] mn ?_
 refine RK L<|bK U (aM fun T=>?_) (aL fun T=>?_)
 ·refine bu<|ab<|ab<|au ?_
  rw [show m=rJ k l from Oj hk I A]
  refine LM hN () 0 [] mn U U U U ?_
  trivial
 refine WK K<|ah fun _ M=>av<|dG cu [13,14,15] [6,7,10,11,12] [] [] [0] U U U U U<|eS U (MV U)<|eS U (MV U)<|eS U (MV U)<|eS U (MV U)<|eS U (MV U)<|eS U (MV U) ?_
 obtain ⟨y,hy⟩:=aJ m ((((k:Int)-1-(i:Int))).toNat) I
 have R:=bG iC hy
 refine fS U (Tn ((((k:Int)-1-(i:Int))).toNat) U (ai (n:=m.length) 0 U sm) cp dc I I I)<|fS U (fV ((((k:Int)-1-(i:Int))).toNat) 0 (vI y) U bX (ai (n:=m.length) 0 U sm) R U dc U)<|eS U (MV U)<|eS U (MV U) ?_
 obtain ⟨x,hx⟩:=aJ m i I
 have H:=bG iC hx
 refine fS U (Tn i U (ai (n:=m.length) 0 U sm) cp dc I I I)<|fS U (fV i 0 (vI x) U bX (ai (n:=m.length) 0 U sm) H U dc U)<|fS U (Tn i U (ai (n:=m.length) 0 U sm) cp dc I I I)<|eU U<|bY U fun T8 N=>ew (k:=i) (o:=0) (vs:=[(vI y)]) (es':=(List.map iC (m.set i y))) (C':=[(own lA lC 3 1 (List.map iC (m.set i y)))]) 0 U U U BW U U U U H U dc (by exact (List.map_set (f:=iC) (l:=m) (i:=i) (a:=y)).symm) U<|aC (N _ _ (aH []) ?_)
 refine bY U fun T9 O=>?_
 obtain ⟨S,G⟩:=aJ (m.set i y) ((((k:Int)-1-(i:Int))).toNat) os
 have hx11m:(List.map iC (m.set i y))[(((k:Int)-1-(i:Int))).toNat]? =some (iC S):=by rw [fq,G]; rfl
 refine rS (Tn ((((k:Int)-1-(i:Int))).toNat) U (ai (n:=(m.set i y).length) 0 U sm) cp dc I I (by simp; omega)) ?_
 refine aC (O _ _ (aH []) ?_)
 refine bY U fun T12 D=>ew (k:=(((k:Int)-1-(i:Int))).toNat) (o:=0) (vs:=[(vI x)]) (es':=(List.map iC ((m.set i y).set ((((k:Int)-1-(i:Int))).toNat) x))) (C':=[(own lA lC 3 1 (List.map iC ((m.set i y).set ((((k:Int)-1-(i:Int))).toNat) x)))]) 0 U U U BW U U U U hx11m U dc (by exact (List.map_set (f:=iC) (l:=(m.set i y)) (i:=(((k:Int)-1-(i:Int))).toNat) (a:=x)).symm) U<|aC (D _ _ (aH []) ?_)
 refine fF U<|aG<|KK M<|aj<|rP 6 [] mn ?_
 refine aC ?_
 have E:(vI (((i+1):Nat):Int))=(vI ((i:Int)+1)):=by exact cI I
 have F:(vI ((k:Int)-1-(((i+1):Nat):Int)))=(vI (((k:Int)-1-(i:Int))-1)):=by exact cI I
 refine aS (AB ⟨((i+1),((m.set i y).set ((((k:Int)-1-(i:Int))).toNat) x)),⟨I,IP hk I I A hx hy⟩⟩ _ _ _ U os (dh.cons U<|aX U E<|aX U F<|dh.nil _) (aH [0]))
end
end Go.Proofs.YtadjgjnicdcjbaaGreatDoor
