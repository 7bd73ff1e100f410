/-
 The statement raceTable_said, part 6 of 8: Follow, OpenM, V2, V1, V4, V3, V5, V6, V8, Wh2, Rc2, Rc3, Rc4, Rs3, Rs4, Rs6, Rs7, Rs8, RkB, RaB, RtB, Rp0, Rp1, Rp2, Rt1, RkS, RaS, RtS, Rx1.
 Conditions: none.
-/
import Derived.Test.YtadjgjnicdcjbaaGreatDoorTy1
import Derived.Test.YtadjgjnicdcjbaaGreatDoorTy2
import Derived.Test.YtadjgjnicdcjbaaGreatDoorTy3
import Derived.Test.YtadjgjnicdcjbaaGreatDoorTy4
import Derived.Test.YtadjgjnicdcjbaaGreatDoorTy5
namespace Go.Proofs.YtadjgjnicdcjbaaGreatDoor
set_option maxRecDepth 100000
set_option maxHeartbeats 4000000
set_option linter.unusedVariables false
section
def eo (bl:List Nat) (n:Nat):List (Option Nat):=bl.map some++List.replicate (n-bl.length) none
def gY (bl:List Nat) (n:Nat):List (Option Nat):=List.replicate (n-bl.length) none++bl.map some
theorem qZ {bl:List Nat} {n:Nat} (h:bl.length≤n):(eo bl n).length=n:=by simp [eo]; omega
theorem yN {bl:List Nat} {n:Nat} (h:bl.length≤n):(gY bl n).length=n:=by simp [gY]; omega
theorem yK {n:Nat}:List.replicate n none=eo [] n:=by simp [eo]
theorem Gx {n:Nat}:List.replicate n none=gY [] n:=by simp [gY]
theorem zO {bl:List Nat} {n:Nat} (h:bl.length=n):eo bl n=bl.map some:=by simp [eo,h]
theorem GA {bl:List Nat} {n:Nat} (h:bl.length=n):gY bl n=bl.map some:=by simp [gY,h]
theorem oT {bl:List Nat} {n k g:Nat} (h:bl[k]? =some g):(eo bl n)[k]? =some (some g):=by
 have hk:=(List.getElem?_eq_some_iff.1 h).1
 unfold eo
 rw [List.getElem?_append_left (by simpa using hk),fq,h]; rfl
theorem ua {bl:List Nat} {n k i g:Nat} (h:bl[i]? =some g) (hk:k=n-bl.length+i):(gY bl n)[k]? =some (some g):=by
 subst hk
 unfold gY
 rw [List.getElem?_append_right sm,fq,List.length_replicate,Nat.add_sub_cancel_left,h]; rfl
theorem uH {bl:List Nat} {n k g:Nat} (hk:k=bl.length) (h:bl.length<n):(eo bl n).set k (some g)=eo (bl++[g]) n:=by
 subst hk
 unfold eo
 rw [List.set_append_right _ _ sm]
 have e:n-bl.length=(n-(bl++[g]).length)+1:=by simp; omega
 rw [e,List.replicate_succ]
 simp
theorem Hw {bl:List Nat} {n k g:Nat} (hk:k+1+bl.length=n):(gY bl n).set k (some g)=gY (g::bl) n:=by
 unfold gY
 have e:n-bl.length=k+1:=by omega
 have A:n-(g::bl).length=k:=by simp; omega
 rw [e,A,List.set_append_left _ _ sm,List.replicate_succ',List.set_append_right _ _ sm]
 simp
theorem rN {l:List (Option Nat)} {k g:Nat} (h:l[k]? =some (some g)):(l.map oC)[k]? =some (oC (some g)):=by rw [fq,h]; rfl
theorem Am {α:Type} {l:List α} {x:α} {k:Nat} (h:k=l.length):(l++[x])[k]? =some x:=by subst h; simp
theorem Md {α:Type} {l:List α} {x y:α} {k:Nat} (h:l[k]? =some y):(l++[x])[k]? =some y:=by rw [List.getElem?_append_left (List.getElem?_eq_some_iff.1 h).1]; exact h
structure pV (w:bO) (fs:List FM):Prop where
 all: ∀ (b:Nat) m,fs[b]? =some m→sZ m (fwd w b)∧(m.map (·.1)).Nodup
structure g6 (w:bO) (k:Nat) (bs:List FM):Prop where
 all: ∀ (i:Nat) m,bs[i]? =some m→vk m (back w (k+i))∧(m.map (·.1)).Nodup
variable {w:bO} {b:Nat} {mb m left:List (aB×Int)} {o:Int×aa} {os:List (Int×aa)} {p:aB×Int}
theorem pV.first:pV w [[(⟨0,0⟩,w.Start)]]:=⟨fun b m h=>by
 match b with
 |0=>simp at h; subst h; exact ⟨GO,sm⟩
 |n+1=>simp at h⟩
theorem pV.add {fs:List FM} (h:pV w fs) (hl:fs.length=b+1) (hmb:fs[b]? =some mb) (hm:xz w b m) (hd:jH w b mb m left) (h0:left=[]):pV w (fs++[m]):=⟨fun i x hx=>by
 rcases Nat.lt_or_ge i fs.length with q|q
 ·rw [List.getElem?_append_left q] at hx; exact h.all i x hx
 ·rw [List.getElem?_append_right q] at hx
  have hi:i-fs.length=0:=by
   rcases Nat.eq_zero_or_pos (i-fs.length) with z|z
   ·exact z
   ·rw [List.getElem?_eq_none (by simp; omega)] at hx; cases hx
  rw [hi] at hx
  simp at hx; subst hx
  obtain rfl:i=b+1:=by omega
  have A:=h.all b mb hmb
  exact ⟨LY A.2 A.1 hm.snd (hd.fin h0),hm.keys⟩⟩
theorem pV.ok {fs:List FM} (h:pV w fs) (hl:fs.length=w.n+1):xn w fs:=⟨hl,fun b m hm=>(h.all b m hm).1,fun b m hm=>(h.all b m hm).2⟩
theorem g6.none_:g6 w b []:=⟨fun i m h=>by simp at h⟩
theorem g6.last (hb:w.n≤b):g6 w b [[(⟨0,0⟩,w.fZ)]]:=⟨fun i m h=>by
 match i with
 |0=>simp at h; subst h; exact ⟨Iq I,sm⟩
 |n+1=>simp at h⟩
theorem g6.add {bs:List FM} (h:g6 w (b+1) bs) (hb:b<w.n) (hmb:bs[0]? =some mb) (hm:vO w b m) (hd:jx w b mb m left) (h0:left=[]):g6 w b (m::bs):=⟨fun i x hx=>by
 match i with
 |0=>
  simp at hx; subst hx
  have A:=h.all 0 mb hmb
  exact ⟨K3 hb A.2 A.1 hm.snd hm.zero (hd.fin h0),hm.keys⟩
 |n+1=>
  have:=h.all n x (by simpa using hx)
  rw [show b+1+n=b+(n+1) by omega] at this
  exact this⟩
theorem g6.ok {bs:List FM} (h:g6 w 0 bs) (hl:bs.length=w.n+1):uw w bs:=⟨hl,fun b m hm=>by have:=(h.all b m hm).1; rwa [Nat.zero_add] at this,fun b m hm=>(h.all b m hm).2⟩
/-- on the way through one entry's options -/
structure nP (w:bO) (b:Nat) (mb left m:List (aB×Int)) (p:aB×Int) (os:List (Int×aa)):Prop where
 on:xz w b m
 sR:jH w b mb m left
 done:iX w b m p os
structure nq (w:bO) (b:Nat) (mb left m:List (aB×Int)) (p:aB×Int) (os:List (Int×aa)):Prop where
 on:vO w b m
 sR:jx w b mb m left
 done:iT w b m p os
theorem nP.start (h:xz w b m) (h2:jH w b mb m left):nP w b mb left m p []:=⟨h,h2,fun o ho=>by cases ho⟩
theorem nq.start (h:vO w b m) (h2:jx w b mb m left):nq w b mb left m p []:=⟨h,h2,fun o ho=>by cases ho⟩
theorem Hj {q:aB×Int} (h:(m.lookup q.1).isSome=false∨q.2<(m.lookup q.1).getD 0):o9 m q=dL m q.1 q.2:=by
 unfold o9
 cases e:m.lookup q.1 with
 |none=>rfl
 |some v=>rw [e] at h; simp at h; simp only; rw [if_pos h]
theorem Dx {q:aB×Int} (h:(m.lookup q.1).isSome=true) (h2: ¬ q.2<(m.lookup q.1).getD 0):o9 m q=m:=by
 unfold o9
 cases e:m.lookup q.1 with
 |none=>rw [e] at h; cases h
 |some v=>rw [e] at h2; simp only [Option.getD_some] at h2; simp only; rw [if_neg h2]
theorem GI {q:aB×Int} (h:(m.lookup q.1).isSome=false∨(m.lookup q.1).getD 0<q.2):oK m q=dL m q.1 q.2:=by
 unfold oK
 cases e:m.lookup q.1 with
 |none=>rfl
 |some v=>rw [e] at h; simp at h; simp only; rw [if_pos h]
theorem EA {q:aB×Int} (h:(m.lookup q.1).isSome=true) (h2: ¬ (m.lookup q.1).getD 0<q.2):oK m q=m:=by
 unfold oK
 cases e:m.lookup q.1 with
 |none=>rw [e] at h; cases h
 |some v=>rw [e] at h2; simp only [Option.getD_some] at h2; simp only; rw [if_neg h2]
theorem AN {t:aB} {v y:Int} (hy:w.pT[b]? =some y) (h:max (v+y) o.2.Lo≤min o.2.Hi w.fZ):kF w b (t,v) o=some (dk t (fc o.1),max (v+y) o.2.Lo):=by
 have e:=nu hy
 subst e
 exact Jh h
theorem LZ {t:aB} {v y:Int} (hy:w.pT[b]? =some y) (h: ¬ max (v+y) o.2.Lo≤min o.2.Hi w.fZ):kF w b (t,v) o=none:=by
 have e:=nu hy
 subst e
 exact Ng h
theorem AX {t:aB} {v y:Int} (hy:w.pT[b]? =some y) (h:o.2.Lo≤min v o.2.Hi):nW w b (t,v) o=some (dk t (fc o.1),min v o.2.Hi-y):=by
 have e:=nu hy
 subst e
 exact I_ h
theorem nP.set {q:aB×Int} (h:nP w b mb left m p os) (hp:p∈fwd w b) (ho:o∈iq w b) (he:kF w b p o=some q) (hs:(m.lookup q.1).isSome=false∨q.2<(m.lookup q.1).getD 0):nP w b mb left (dL m q.1 q.2) p (os++[o]):=by
 rw [← Hj hs]
 exact ⟨h.on.add hp ho he,h.sR.lower vi,h.done.JL he⟩
theorem nP.ow {q:aB×Int} (h:nP w b mb left m p os) (he:kF w b p o=some q) (hs:(m.lookup q.1).isSome=true) (h2: ¬ q.2<(m.lookup q.1).getD 0):nP w b mb left m p (os++[o]):=by
 have:=h.done.JL he
 rw [Dx hs h2] at this
 exact ⟨h.on,h.sR,this⟩
theorem nP.skip (h:nP w b mb left m p os) (he:kF w b p o=none):nP w b mb left m p (os++[o]):=⟨h.on,h.sR,h.done.none_ he⟩
theorem nq.set {q:aB×Int} (hb:b<w.n) (h:nq w b mb left m p os) (hp:p∈back w (b+1)) (ho:o∈iq w b) (he:nW w b p o=some q) (hs:(m.lookup q.1).isSome=false∨(m.lookup q.1).getD 0<q.2):nq w b mb left (dL m q.1 q.2) p (os++[o]):=by
 rw [← GI hs]
 exact ⟨h.on.add hb hp ho he,h.sR.upper qs,h.done.JL he⟩
theorem nq.ow {q:aB×Int} (h:nq w b mb left m p os) (he:nW w b p o=some q) (hs:(m.lookup q.1).isSome=true) (h2: ¬ (m.lookup q.1).getD 0<q.2):nq w b mb left m p (os++[o]):=by
 have:=h.done.JL he
 rw [EA hs h2] at this
 exact ⟨h.on,h.sR,this⟩
theorem nq.skip (h:nq w b mb left m p os) (he:nW w b p o=none):nq w b mb left m p (os++[o]):=⟨h.on,h.sR,h.done.none_ he⟩
theorem nP.next {t:aB} {v:Int} (hn:(left.map (·.1)).Nodup) (hm:(t,v)∈left) (h:nP w b mb left m (t,v) os) (ho: ∀ o∈iq w b,o∈os):jH w b mb m (cq left t):=h.sR.next hn hm h.done ho
theorem nq.next {t:aB} {v:Int} (hn:(left.map (·.1)).Nodup) (hm:(t,v)∈left) (h:nq w b mb left m (t,v) os) (ho: ∀ o∈iq w b,o∈os):jx w b mb m (cq left t):=h.sR.next hn hm h.done ho
theorem pV.mem {fs:List FM} (h:pV w fs) (hm:fs[b]? =some mb) (hp:p∈mb):p∈fwd w b:=(h.all b mb hm).1.1 _ _ ((fm (h.all b mb hm).2).1 hp)
theorem g6.Un {bs:List FM} {k:Nat} (h:g6 w k bs) (hk:k=b+1) (hm:bs[0]? =some mb) (hp:p∈mb):p∈back w (b+1):=by
 subst hk
 exact (h.all 0 mb hm).1.1 _ _ ((fm (h.all 0 mb hm).2).1 hp)
theorem g6.end_ {bs:List FM} {k j:Nat} (h:g6 w k bs) (hj:bs.length=0) (hk:j=b) (hb:w.n≤b):g6 w j ([(⟨0,0⟩,w.fZ)]::bs):=by
 subst hk
 rw [jy hj]
 exact g6.last hb
theorem g6.more {bs:List FM} {k j:Nat} (h:g6 w k bs) (hk:k=b+1) (hj:j=b) (hb:b<w.n) (hmb:bs[0]? =some mb) (hm:vO w b m) (hd:jx w b mb m left) (h0:left=[]):g6 w j (m::bs):=by
 subst hk hj
 exact h.add hb hmb hm hd h0
end
section
open Go.RowKit
theorem j8 {a:OA} {c e sz n:Nat} {es:List (List Value)} (h:es.length=n):Mx (own a c e sz es) (rd a n sz es):=by subst h; exact Ou
theorem tP {L:List aq}:Mx (bw L) (eW L):=⟨fun w h=>h.1,fun b h=>h⟩
theorem OK {b:Nat} {fb:List Nat} {g:Nat} (h:fb.length=b):aV ru (List.replicate b ([]:TM)) fb++[gW iV g (bK dw [])]=aV ru (List.replicate (b+1) ([]:TM)) (fb++[g]):=by
 rw [List.replicate_succ']
 exact zc (by rw [List.length_replicate]; exact h.symm) U
theorem Uh {α:Type} {ms:List α} {fb:List Nat} {n:Nat} (h:fb.length=n) (h2:ms.length=n):List.map oC (eo fb n)=List.zipWith gD ms fb:=by
 rw [zO h]; exact (Az I).symm
theorem wb {l:a_} {r:cw} {i:Nat} {x:aK} (hx:r.ag[i]? =some x) (h: ¬ kb l r.ag i x): ¬ e7 l r:=fun q=>h (q.sig i x hx)
end
section
open Go.RowKit
theorem r9 (ln:ck) (ri:eB) (e:List Int) (tms:List TM) (e_A:OA) (e_C:Nat) (tb:List Nat) (t_A:OA) (t_C:Nat) (fA:OA) (fN fC:Nat) (bA:OA) (bN bC:Nat) (gw b:Nat) (g1 g2:Nat) (hb:b<tms.length) (htb:tb.length=tms.length):
 DI Tryz.prog 220 [] [(vP g1),(vP g2)] [(rd e_A e.length 1 (e.map iC)),(rd t_A tms.length 1 (List.zipWith gD tms tb)),(eW (aV ru tms tb)),(bV gw 274 (bW.cells (bW.mk ln ri (br.mk e_A e.length e_C) (br.mk t_A tms.length t_C) (br.mk fA fN fC) (br.mk bA bN bC)))),(bV g1 263 [(vP gw)]),(bV g2 3 [(vI (b:Int))])] ([]:List (Int×aa)) (fun ys x ys'=> ∃ o,o∈iq (cE ln ri e tms) b∧x=Pk o∧ys'=ys++[o]) (fun ys=> ∀ o∈iq (cE ln ri e tms) b,o∈ys):=by
 refine tT kr Tryz.func220 U U fun l J Z A0 d Q hY V AA hQ hN=>?_
 try dsimp only
 refine ah fun _ X=>ah fun _ R=>dB cu 12 kr<|mL 2 [] (mr 5 U mn) U<|dS (SX (bI U U) U U)<|mL 4 [0,1] (mr 4 U (mr 5 U mn)) U<|dS (SX (bI U U) U U)<|dP 3 [] (mr 4 U mn) ?_
 refine dS (SX (bh (xs:=[(0,.tmp 11),(1,.tmp 16)]) (cs:=(aa.cells (aa.mk ri.Start ri.fZ))) U U (bg gp U)) U U)<|cM<|ky (k:=([]:List (Int×aa))) (k':=(([]:List (Int×aa))++[((-1),(aa.mk ri.Start ri.fZ))])) 0 (by first|exact hsz|exact Nat.le_refl _) hY V AA U U U (by exact ⟨(-1,⟨ri.Start,ri.fZ⟩),cb ..,U,U⟩) U U (fun B3 N M=>?_) (fun B3 N M=>?_)
 rotate_left 1
 ·refine rP 1 [] mn ?_
  refine RK R<|aO U<|an ?_
  refine hQ _ _ _ (gZ (vs:=[]) trivial fun w hs=>rF 0 U N M hs)
 refine bf 1 U<|RK R<|aW U<|WK X<|ah fun _ Y=>dB cu 7 kr<|mL 1 [] (mr 5 U mn) U<|dS (SX (bI U U) U U)<|dP 3 [0,1] (mr 4 U (mr 6 U mn)) ?_
 obtain ⟨x,hx⟩:=aJ tms b I
 obtain ⟨xa,L⟩:=aJ tb b I
 have a:(List.zipWith gD tms tb)[b]? =some (gD x xa):=dy hx L
 refine dS (IA b U (aD 2 U) FF dc I I)<|dS (fV b 0 (Value.map (some xa)) U bX (aD 2 U) a U dc U)<|cM<|j0 (kV:=iV) (m:=bK dw x) 3 U U mC U ⟨⟨(gW iV xa (bK dw x)),(bM hx L (by simp [ru])),U⟩,fun h=>h⟩ (show il _ (gW iV xa (bK dw x)).holds from du 3 U (bM hx L (by simp [ru]))) U fun j=>?_
 try dsimp only
 refine RK Y<|av ?_
 have G:(∀ o∈x,o∈x∨o∈(([]:List (Int×aa))++[((-1),(aa.mk ri.Start ri.fZ))]))∧(∀ o∈x,o∈x)∧(J (([]:List (Int×aa))++[((-1),(aa.mk ri.Start ri.fZ))]) B3)∧(Fo A0 d B3)∧((-1,(⟨ri.Start,ri.fZ⟩:aa))∈(([]:List (Int×aa))++[((-1),(aa.mk ri.Start ri.fZ))])):=by exact ⟨fun o ho=> .inl ho,fun o ho=>ho,asm,asm,sm⟩
 refine bH (ι:={z:TM×(List (Int×aa))×aq // (∀ o∈x,o∈z.1∨o∈z.2.1)∧(∀ o∈z.1,o∈x)∧(J z.2.1 z.2.2)∧(Fo A0 d z.2.2)∧((-1,(⟨ri.Start,ri.fZ⟩:aa))∈z.2.1)}) [0,1,2,27] [2,3,4,6,7] U U (fun z=>[]) (fun z=>[(zm iV j xa (bK dw x) (bK dw z.1.1) none),z.1.2.2]) (fun _=>rfl) (fun _=>rfl) (fun z=>z.1.1.length) ⟨(x,(([]:List (Int×aa))++[((-1),(aa.mk ri.Start ri.fZ))]),B3),G⟩ (dh.nil _) (aH [2,3,4,6,7,0,1]) ?_
 clear G
 rintro ⟨⟨left,ys,A⟩,⟨B,C,D,E,F⟩⟩ J8 W
 try dsimp only at B C D E F
 try dsimp only
 refine WS fun _ S=>jf (dC oJ).inj (f:=dw) 5 U U U U (fun T=>?_) (fun i z hm hn=>?_)
 ·refine rP 1 [] mn ?_
  refine RK S<|ah fun _ c=>aW U<|bu<|ab<|ab<|au ?_
  refine hN _ _ _ (gZ (vs:=[]) trivial fun w hs=>Is 6 U (by exact HJ hx B T F) D E hs)
 try dsimp only
 refine bf 1 U<|RK S<|ah fun _ O=>aO U<|WK O<|av<|WS fun _ P=>rS (SX (jd 5 U U U) U U)<|bf 2 U<|AL U de fun g=>bf 1 U<|fP U cm U<|RK P<|WS fun _ K=>rP 3 [] (mc 0 U mn) ?_
 refine ky (k:=ys) (k':=(ys++[(i,z)])) 7 (by first|exact hsz|exact Nat.le_refl _) hY D E U U U (by exact ⟨(i,z),(x5 hx).2 (.inr (C _ hm)),U,U⟩) U U (fun B15 AB H=>?_) (fun B15 AB H=>?_)
 rotate_left 1
 ·refine rP 1 [] mn ?_
  refine RK K<|aO U<|an ?_
  refine hQ _ _ _ (gZ (vs:=[]) trivial fun w hs=>rF 7 U AB H hs)
 refine rP 1 [] mn ?_
 refine RK K<|aW U<|b_<|aG<|gT 6 U fr U ?_
 refine aS (W ⟨((cq left i),(ys++[(i,z)]),B15),⟨GF hn hm B,mh C,asm,asm,by simp [F]⟩⟩ _ _ _ U (eN hm) (aT U) (aH [1,2,3,4,5,6,7]))
theorem uK (gw b:Nat):
 ly Tryz.prog 212 [(vP gw),(vI (b:Int))] [] (fun (x:Nat×Nat)=>(Value.func (.func 220) [].toArray [(Value.pointer (some ⟨x.1,0,none⟩)),(Value.pointer (some ⟨x.2,0,none⟩))].toArray)) (fun (x:Nat×Nat)=>True) (fun (x:Nat×Nat)=>[(bV x.1 263 [(vP gw)]),(bV x.2 3 [(vI (b:Int))])]):=by
 refine dj kr Tryz.func212 U U fun E Q hQ hN=>?_
 try dsimp only
 refine WS fun _ A=>um U U fun C=>um U U fun D=>bf 1 U<|RK A<|WS fun _ B=>rS (FU U)<|rP 1 [] mn ?_
 refine RK B<|an<|LX hQ (C,D) [1,0] [] mn U U U U ?_
 trivial
theorem Ll (gw b:Nat):
 ly Tryz.prog 207 [(vP gw),(vI (b:Int))] [] (fun (x:Nat×Nat)=>(Value.func (.func 211) [].toArray [(Value.pointer (some ⟨x.1,0,none⟩)),(Value.pointer (some ⟨x.2,0,none⟩))].toArray)) (fun (x:Nat×Nat)=>True) (fun (x:Nat×Nat)=>[(bV x.1 263 [(vP gw)]),(bV x.2 3 [(vI (b:Int))])]):=by
 refine dj kr Tryz.func207 U U fun E Q hQ hN=>?_
 try dsimp only
 refine WS fun _ A=>um U U fun C=>um U U fun D=>bf 1 U<|RK A<|WS fun _ B=>rS (FU U)<|rP 1 [] mn ?_
 refine RK B<|an<|LX hQ (C,D) [1,0] [] mn U U U U ?_
 trivial
end
section
open Go.RowKit
theorem oS:uJ Tryz.prog 280 dU:=Og O4 (fun x y w=>Qw 9998 x y w) (fun x y h=>by cases x; cases y; simp [aB.cells] at h; simp [h]) (fun x=>by simp [aB.cells,Instr.sameBits]) (fun x w=>⟨_,rfl,fun p hp=>by
 simp only [ed,List.not_mem_nil,or_false] at hp
 rcases hp with rfl|rfl
 ·exact ⟨⟨_,jQ bX U w⟩,_,oJ⟩
 ·exact ⟨⟨_,jQ bX U w⟩,_,oJ⟩⟩)
theorem JD (s:Int):
 dT Tryz.prog 215 [(vI s)] [] (vA (aB.cells (fc s))):=by
 refine bx kr Tryz.func215 U U fun H Q hQ hN=>?_
 try dsimp only
 refine WS fun _ B=>AL U tW fun G=>RK B<|ah fun _ C=>WS fun _ D=>rP 2 [] mn ?_
 refine RK D<|cy U (aM fun A=>?_) (aL fun A=>?_)
 ·refine WS fun _ E=>rS (SX (bh (xs:=[(1,.const (vI 1))]) (cs:=(aB.cells (aB.mk 0 1))) U U (bg Cv U)) U U)<|fP U rE U<|RK E<|an<|Ik hQ [0] (mc 0 U mn) U ?_
  unfold fc; first|rw [if_pos A]|rw [if_neg A]
 refine WK C<|WS fun _ F=>rS (SX (bh (xs:=[(0,.const (vI 1))]) (cs:=(aB.cells (aB.mk 1 0))) U U (bg Cv U)) U U)<|fP U rE U<|RK F<|an<|Ik hQ [0] (mc 0 U mn) U ?_
 unfold fc; first|rw [if_pos A]|rw [if_neg A]
theorem v_ (x:aB) (y:aB) (hx:(0≤x.right∧x.right≤1000)∧0≤x.eK∧x.eK≤1000) (hy:(0≤y.right∧y.right≤1000)∧0≤y.eK∧y.eK≤1000):
 dT Tryz.prog 214 [(vA (aB.cells x)),(vA (aB.cells y))] [] (vA (aB.cells (dk x y))):=by
 refine bx kr Tryz.func214 U U fun F Q hQ hN=>?_
 try dsimp only
 refine WS fun _ A=>fK U fun C=>fK U fun D=>AL U tW fun E=>RK A<|WS fun _ B=>rP 10 [0,1,0,1] (mc 2 U (mc 1 U mn)) ?_
 refine rS (SX (bh (xs:=[(0,.tmp 9),(1,.tmp 14)]) (cs:=(aB.cells (aB.mk (x.right+y.right) (x.eK+y.eK)))) U U (bg Cv U)) U U)<|fP U rE U<|RK B<|an ?_
 exact Ik hQ [0] (mc 0 U mn) U U
theorem Pw (ln:ck) (ri:eB) (e:List Int) (tms:List TM) (e_A:OA) (e_C:Nat) (tb:List Nat) (t_A:OA) (t_C:Nat) (fs:List FM) (bs:List FM) (fb:List Nat) (f_A:OA) (f_C:Nat) (bb:List Nat) (b_A:OA) (b_C gw:Nat) (x:aB) (hx:(0≤x.right∧x.right≤1000)∧0≤x.eK∧x.eK≤1000) (hn:ri.ag.n≤1000):
 dT Tryz.prog 213 [(vP gw),(vA (aB.cells x))] [(rd e_A e.length 1 (e.map iC)),(rd t_A tms.length 1 (List.zipWith gD tms tb)),(eW (aV ru tms tb)),(rd f_A fs.length 1 (List.zipWith gD fs fb)),(eW (aV nT fs fb)),(rd b_A bs.length 1 (List.zipWith gD bs bb)),(eW (aV nT bs bb)),(bV gw 274 (bW.cells (bW.mk ln ri (br.mk e_A e.length e_C) (br.mk t_A tms.length t_C) (br.mk f_A fs.length f_C) (br.mk b_A bs.length b_C))))] (vB (ks (cE ln ri e tms) x)):=by
 refine bx kr Tryz.func213 U U fun E Q hQ hN=>?_
 try dsimp only
 refine WS fun _ C=>fK U fun D=>bf 1 U<|RK C<|ah fun _ B=>dB cu 26 kr<|mL 3 [] (mc 0 U mn) U<|dS (SX (bI U U) U U)<|dP 5 [] (mr 8 U mn) ?_
 refine jo (t:=13) U (aL fun A=>?_) (aM fun A=>?_)
 ·refine dP 17 [] mn ?_
  refine cM<|RK B<|an<|Q1 hQ U U U ?_
  exact cB (cf (fun h=>A h.1)).symm
 refine lz 1 U<|dS (SX (bI U U) U U)<|mL 8 [0,1] (mr 8 U (mc 0 U mn)) U<|dS (SX (bI U U) U U)<|dP 6 [] (mr 8 U mn) ?_
 refine cM<|RK B<|an<|Q1 hQ U U U ?_
 exact cB (decide_eq_decide.2 ⟨fun h=>⟨A,h⟩,fun h=>h.2⟩)
end
section
open Go.RowKit
theorem He (ln:ck) (ri:eB) (e:List Int) (tms:List TM) (e_A:OA) (e_C:Nat) (tb:List Nat) (t_A:OA) (t_C:Nat) (fs:List FM) (bs:List FM) (fb:List Nat) (f_A:OA) (f_C:Nat) (bb:List Nat) (b_A:OA) (b_C gw:Nat) (b g1 g2:Nat) (mf:FM) (mb:FM) (hb:b<e.length) (hw:Hp (cE ln ri e tms)) (htb:tb.length=tms.length) (hfw:xn (cE ln ri e tms) fs) (hfb:fb.length=fs.length) (hbw:uw (cE ln ri e tms) bs) (hbb:bb.length=bs.length) (hsg:ri.ag.n≤1000) (hm1:fs[b]? =some mf) (hm2:bs[b+1]? =some mb):
 DI Tryz.prog 211 [] [(vP g1),(vP g2)] [(rd e_A e.length 1 (e.map iC)),(rd t_A tms.length 1 (List.zipWith gD tms tb)),(eW (aV ru tms tb)),(rd f_A fs.length 1 (List.zipWith gD fs fb)),(eW (aV nT fs fb)),(rd b_A bs.length 1 (List.zipWith gD bs bb)),(eW (aV nT bs bb)),(bV gw 274 (bW.cells (bW.mk ln ri (br.mk e_A e.length e_C) (br.mk t_A tms.length t_C) (br.mk f_A fs.length f_C) (br.mk b_A bs.length b_C)))),(bV g1 263 [(vP gw)]),(bV g2 3 [(vI (b:Int))])] ([]:List (Int×aa)) (fun ys x ys'=> ∃ q,q∈pY (cE ln ri e tms) b mf mb∧x=Pk q∧ys'=ys++[q]) (fun ys=> ∀ q∈pY (cE ln ri e tms) b mf mb,q∈ys):=by
 have KW:e.length≤6:=hw.n
 have K0:tms.length=e.length:=hw.times
 have J4:fs.length=e.length+1:=hfw.len
 have J3:bs.length=e.length+1:=hbw.len
 refine tT kr Tryz.func211 U U fun l J Z A0 w0 Q hY Eq EQ hQ hN=>?_
 try dsimp only
 refine WS fun _ FS=>um U U fun b2=>RK FS<|WS fun _ Fd=>rP 2 [0,1] (mr 10 U (mr 11 U mn)) ?_
 refine cX (uK gw b) (aI) U fun y4 K4=>?_
 obtain ⟨C1,C2⟩:=y4
 try dsimp only
 refine RK Fd<|av<|kl 4 U (by exact fun _ h=>h)<|kl 6 U (by exact fun _ h=>h)<|kl 8 U (by exact fun _ h=>h)<|kl 14 U (by exact fun _ h=>h) ?_
 refine nG (L0:=[(0,(Value.func (.yield l) #[] #[])),(1,(vP g1)),(2,(vP g2)),(3,(vP b2))]) (F:=[(rd e_A e.length 1 (e.map iC)).ro,(rd t_A tms.length 1 (List.zipWith gD tms tb)).ro,(eW (aV ru tms tb)).ro,(bV gw 274 (bW.cells (bW.mk ln ri (br.mk e_A e.length e_C) (br.mk t_A tms.length t_C) (br.mk f_A fs.length f_C) (br.mk b_A bs.length b_C)))).ro,(bV C1 263 [(vP gw)]),(bV C2 3 [(vI (b:Int))])]) (fun k (y:(List (Int×aa))×aq)=>(lx (cE ln ri e tms) b mf mb k y.1)∧(J y.1 y.2)∧(Fo A0 w0 y.2)) (fun k y=>[(bV b2 277 [(Value.func (.yield l) #[] #[])]),y.2,(rd e_A e.length 1 (e.map iC)).ro,(rd t_A tms.length 1 (List.zipWith gD tms tb)).ro,(eW (aV ru tms tb)).ro,(rd f_A fs.length 1 (List.zipWith gD fs fb)).ro,(eW (aV nT fs fb)).ro,(rd b_A bs.length 1 (List.zipWith gD bs bb)).ro,(eW (aV nT bs bb)).ro,(bV gw 274 (bW.cells (bW.mk ln ri (br.mk e_A e.length e_C) (br.mk t_A tms.length t_C) (br.mk f_A fs.length f_C) (br.mk b_A bs.length b_C)))).ro,(bV g1 263 [(vP gw)]).ro,(bV g2 3 [(vI (b:Int))]).ro]) (fun c (z:aq)=>(c= .ret∧(Z z)∧(Fo A0 w0 z))) (fun _ z=>[(bV b2 277 [(Value.func (.yield l) #[] #[])]),z,(rd e_A e.length 1 (e.map iC)).ro,(rd t_A tms.length 1 (List.zipWith gD tms tb)).ro,(eW (aV ru tms tb)).ro,(rd f_A fs.length 1 (List.zipWith gD fs fb)).ro,(eW (aV nT fs fb)).ro,(rd b_A bs.length 1 (List.zipWith gD bs bb)).ro,(eW (aV nT bs bb)).ro,(bV gw 274 (bW.cells (bW.mk ln ri (br.mk e_A e.length e_C) (br.mk t_A tms.length t_C) (br.mk f_A fs.length f_C) (br.mk b_A bs.length b_C)))).ro,(bV g1 263 [(vP gw)]).ro,(bV g2 3 [(vI (b:Int))]).ro]) [6,7,8,9,10,11,12,13,14,15,16,17] [3,2,1,0,4,5] (([]:List (Int×aa)),A0) rfl rfl (r9 ln ri e tms e_A e_C tb t_A t_C f_A fs.length f_C b_A bs.length b_C gw b C1 C2 I I) rfl rfl rfl (by exact ⟨lx.nil,Eq,EQ⟩) (by simp only [List.forall_mem_cons,List.not_mem_nil,false_imp_iff,implies_true,and_true]; exact ⟨⟨_,aR (i:=0) rfl,(dD (bP _))⟩,⟨_,aR (i:=1) rfl,(dD (bP _))⟩,⟨_,aR (i:=2) rfl,(dD (bP _))⟩,⟨_,aR (i:=3) rfl,(dD (bP _))⟩,⟨_,aR (i:=4) rfl,(bP _)⟩,⟨_,aR (i:=5) rfl,(bP _)⟩⟩) (by rintro k x k2 ⟨o,_,rfl,_⟩; rfl) rfl (aT rfl) ?_ ?_ ?_ ?_
 rotate_left 1
 ·rintro K_ k ⟨ys,A⟩ Ci AO
  obtain ⟨X,Y,a⟩:=AO
  try dsimp only at X Y a
  try dsimp only
  refine aG ?_
  refine hN _ _ _ (ou 0 U U<|gZ (vs:=[]) trivial fun w hs=>Is 8 U (by exact lx.fin X Ci) Y a hs)
 ·rintro LA id A Cx
  simp at Cx
 ·rintro LE A C0
  obtain ⟨hc,GE,GT⟩:=C0
  try dsimp only
  refine hQ _ _ _ (ou 0 U U<|gZ (vs:=[]) trivial fun w hs=>rF 8 U GE GT hs)
 rintro k x k2 ⟨ys,A⟩ lr ra rb S w1 K8 Qr9 GV hx AK Fn B3 Ij C3
 obtain ⟨o,ho,rfl,rfl⟩:=hx
 obtain ⟨X,Y,a⟩:=AK
 try dsimp only at X Y a
 try dsimp only
 refine WS fun _ A3=>rP 1 [] mn ?_
 refine RK A3<|aj<|AL U de fun In=>fP U cm U<|aC<|jC (fun _ _ h=>h) (aH [1,0,2,3,4,5,6,7,8,9,10,11,12,13])<|aS (Fn _ _ ?_)
 refine av<|ah fun _ A4=>dB cu 7 kr<|mL 1 [] (mr 12 U mn) U<|dS (SX (bI U U) U U)<|dP 3 [0,1] (mr 11 U (mr 13 U mn)) ?_
 obtain ⟨ga,s⟩:=aJ fb b I
 have Ck:(List.zipWith gD fs fb)[b]? =some (gD mf ga):=dy hm1 s
 refine dS (IA b U (aD 7 U) oj dc I I)<|dS (fV b 0 (Value.map (some ga)) U bX (aD 7 U) Ck U dc U)<|cM<|j0 (kV:=dU) (m:=bK iV mf) 8 U U oU U ⟨⟨(gW dU ga (bK iV mf)),(bM hm1 s (by simp [nT])),U⟩,fun h=>h⟩ (show il _ (gW dU ga (bK iV mf)).holds from du 8 U (bM hm1 s (by simp [nT]))) U fun IO=>?_
 try dsimp only
 refine RK A4<|av ?_
 have C:(∀ p∈mf,p∈mf)∧(nH (cE ln ri e tms) b mf mb o mf ys)∧(lx (cE ln ri e tms) b mf mb k ys)∧(J ys A)∧(Fo A0 w0 A):=by exact ⟨fun p hp=>hp,nH.start,X,Y,a⟩
 refine bH (ι:={z:FM×(List (Int×aa))×aq // (∀ p∈z.1,p∈mf)∧(nH (cE ln ri e tms) b mf mb o z.1 z.2.1)∧(lx (cE ln ri e tms) b mf mb k z.2.1)∧(J z.2.1 z.2.2)∧(Fo A0 w0 z.2.2)}) [0,1,2,3,4,5,23] [1,2,3,5,6,7,8,9,10,11,12,13,14] U U (fun z=>[]) (fun z=>[(zm dU IO ga (bK iV mf) (bK iV z.1.1) none),z.1.2.2]) (fun _=>rfl) (fun _=>rfl) (fun z=>z.1.1.length) ⟨(mf,ys,A),C⟩ (dh.nil _) (aH [1,2,3,5,6,7,8,9,10,11,12,13,14,0,4]) ?_
 clear C
 rintro ⟨⟨left,ys,A⟩,⟨K,M,N,O,P⟩⟩ J15 A1
 try dsimp only at K M N O P
 try dsimp only
 refine WS fun _ j=>jf oS.inj (f:=iV) 13 U U U U (fun Do=>?_) (fun t v hm hn=>?_)
 ·refine rP 1 [] mn ?_
  refine RK j<|ah fun _ Id=>aW U<|bu<|ab<|ab<|au<|aG ?_
  exact B3 (ys,A) _ _ (by exact ⟨lx.next N M Do,O,P⟩) (aH [0,2,14,3,4,5,6,7,8,9,10,11,12])
 try dsimp only
 refine bf 1 U<|RK j<|ah fun _ A5=>aO U<|WK A5<|av<|WS fun _ A6=>rS (SX (jd 13 U U U) U U)<|bf 2 U<|AL U tW fun I0=>fP U rE U<|bf 1 U<|RK A6<|ah fun _ A7=>dB cu 8 kr<|mL 1 [] (mr 12 U mn) U<|dS (SX (bI U U) U U)<|dP 4 [0,1] (mr 11 U (mr 13 U mn)) ?_
 obtain ⟨gb,AC⟩:=aJ bb (b+1) I
 have Cp:(List.zipWith gD bs bb)[(b+1)]? =some (gD mb gb):=dy hm2 AC
 refine dS (IA (b+1) U (aD 9 U) oj dc I I)<|dS (fV (b+1) 0 (Value.map (some gb)) U bX (aD 9 U) Cp U dc U)<|cM<|j0 (kV:=dU) (m:=bK iV mb) 10 U U oU U ⟨⟨(gW dU gb (bK iV mb)),(bM hm2 AC (by simp [nT])),U⟩,fun h=>h⟩ (show il _ (gW dU gb (bK iV mb)).holds from du 10 U (bM hm2 AC (by simp [nT]))) U fun IR=>?_
 try dsimp only
 refine RK A7<|av ?_
 have C:(∀ p∈mb,p∈mb)∧(nm (cE ln ri e tms) b mb o (t,v) mb ys)∧(nH (cE ln ri e tms) b mf mb o left ys)∧(lx (cE ln ri e tms) b mf mb k ys)∧(J ys A)∧(Fo A0 w0 A):=by exact ⟨fun p hp=>hp,nm.start,M,N,O,P⟩
 refine bH (ι:={z:FM×(List (Int×aa))×aq // (∀ p∈z.1,p∈mb)∧(nm (cE ln ri e tms) b mb o (t,v) z.1 z.2.1)∧(nH (cE ln ri e tms) b mf mb o left z.2.1)∧(lx (cE ln ri e tms) b mf mb k z.2.1)∧(J z.2.1 z.2.2)∧(Fo A0 w0 z.2.2)}) [0,1,2,3,4,5,6,7,23,37] [1,2,3,4,5,6,7,8,9,10,11,12,13,14,15] U U (fun z=>[]) (fun z=>[(zm dU IR gb (bK iV mb) (bK iV z.1.1) none),z.1.2.2]) (fun _=>rfl) (fun _=>rfl) (fun z=>z.1.1.length) ⟨(mb,ys,A),C⟩ (dh.nil _) (aH [1,2,3,4,5,6,7,8,9,10,11,12,13,14,15,0,16]) ?_
 clear C
 rintro ⟨⟨l2,T,A2⟩,⟨B,D,E,G,H,AB⟩⟩ J23 V
 try dsimp only at B D E G H AB
 try dsimp only
 refine WS fun _ r=>jf oS.inj (f:=iV) 15 U U U U (fun Dr=>?_) (fun u z L An=>?_)
 ·refine rP 1 [] mn ?_
  refine RK r<|ah fun _ If=>aW U<|bu<|ab<|ab<|au<|aG<|gT 14 U fr U ?_
  refine aS (A1 ⟨((cq left t),T,A2),⟨mh K,nH.next hn hm E D Dr,G,H,AB⟩⟩ _ _ _ U (eN hm) (aT U) (aH [1,2,3,4,5,6,7,8,9,10,11,12,13,14,16]))
 try dsimp only
 refine bf 1 U<|RK r<|ah fun _ A8=>aO U<|WK A8<|av<|WS fun _ A9=>rS (SX (jd 15 U U U) U U)<|bf 2 U<|AL U tW fun JL=>fP U rE U<|rP 1 [] mn ?_
 refine RK A9<|ah fun _ BX=>dG cu [17,18] [] [] [0,1,2,3,4,5,6,7,8,9,10,11,12,13,14,15,16,17] [] U U U U U<|eS U (MV U)<|eS U (TW 13 U bX U)<|eS U (SX (bI U U) U U)<|eS U (FA 10 U fu U)<|eS U (Ii (vS e_A e.length e_C) 12 U bX U U)<|eS U (TW 14 U bX U) ?_
 obtain ⟨y,hy⟩:=aJ e b I
 have Go:=bG iC hy
 refine eS U (IA b U (aD 5 U) cp dc I I)<|eS U (fV b 0 (vI y) U bX (aD 5 U) Go U dc U) ?_
 have J5:=hw.least y (aR hy)
 have F6:=Ly hw _ _ (hfw.mem hm1 (K _ hm))
 have F0:=JR hw (hbw.mem hm2 (B _ L))
 have J6:=uf o.1
 have J7:=hw.opt ho
 dsimp only at F6 F0
 refine eS U (BI U (ic ⟨I,I⟩))<|eS U (FA 0 U fu U)<|eS U (L1 (vI o.2.Lo) 3 U bX U U)<|eS U (MX U)<|eS U (MV U)<|eS U (FA 1 U fu U)<|eS U (L1 (vI o.2.Hi) 3 U bX U U)<|eS U (MN U)<|eS U (SX (bh (xs:=[(0,.tmp 54),(1,.tmp 58)]) (cs:=(aa.cells (aa.mk (max (v+y) o.2.Lo) (min z o.2.Hi)))) U U (bg gp U)) U U)<|eV U<|bY U fun T30 B7=>AL U de fun J2=>aC (B7 _ _ (aH [1,2,3,4,5,6,7,8,9,10,11,12,13,14,15,16,17,18]) ?_)
 refine bY U fun T32 B9=>fP U cm U<|aC (B9 _ _ (aH [1,2,3,4,5,6,7,8,9,10,11,12,13,14,15,16,17,18]) ?_)
 refine fF U<|KK BX<|ah fun _ R=>dB cu 19 kr<|dP 6 [] (mc 0 U mn) ?_
 refine jo (t:=65) U (aL fun d=>?_) (aM fun d=>?_)
 ·refine lz 3 U<|lz 10 U<|cM<|rP 3 [] mn ?_
  refine RK R<|aW U<|b_<|aG<|gT 17 U fr U ?_
  refine aS (V ⟨((cq l2 u),T,A2),⟨mh B,nm.skip An L D (by exact GQ hy d),E,G,H,AB⟩⟩ _ _ _ U (eN L) (aT U) (aH [2,3,4,5,6,7,8,9,10,11,12,13,14,15,16,17,18]))
 refine dP 3 [0,1,2] (mr 14 U (mc 2 U (mc 1 U mn))) ?_
 have J9:(0≤(dk t u).right∧(dk t u).right≤1000)∧0≤(dk t u).eK∧(dk t u).eK≤1000:=by simp only [dk]; omega
 have J8:(0≤(dk (dk t u) (fc o.1)).right∧(dk (dk t u) (fc o.1)).right≤1000)∧0≤(dk (dk t u) (fc o.1)).eK∧(dk (dk t u) (fc o.1)).eK≤1000:=by simp only [dk]; omega
 refine dS (CL (v_ t u I I) (aI) U)<|lz 1 U<|dS (CL (JD o.1) (aI) U)<|dS (CL (v_ (dk t u) (fc o.1) asm I) (aI) U)<|dS (CL (Pw ln ri e tms e_A e_C tb t_A t_C fs bs fb f_A f_C bb b_A b_C gw (dk (dk t u) (fc o.1)) asm hsg) (bj [6,7,8,9,10,11,12,13]) U)<|dP 2 [] mn ?_
 refine jo (t:=75) U (fun g=>?_) (fun g=>?_)
 ·refine lz 3 U<|cM<|rP 3 [] mn ?_
  refine RK R<|aW U<|b_<|aG<|gT 17 U fr U ?_
  refine aS (V ⟨((cq l2 u),T,A2),⟨mh B,nm.skip An L D (by exact Hh g),E,G,H,AB⟩⟩ _ _ _ U (eN L) (aT U) (aH [2,3,4,5,6,7,8,9,10,11,12,13,14,15,16,17,18]))
 refine dP 3 [0,1] (mc 5 U (mc 0 U mn)) ?_
 refine cM<|ky (k:=T) (k':=(T++[(o.1,(aa.mk (max (v+y) o.2.Lo) (min z o.2.Hi)))])) 18 (by first|exact GV|exact Nat.le_refl _) hY H AB U U U (by exact ⟨(o.1,_),hO.2 ⟨o,ho,(t,v),K _ hm,(u,z),B _ L,(CQ hy d g)⟩,U,U⟩) U U (fun B34 W AA=>?_) (fun B34 W AA=>?_)
 rotate_left 1
 ·refine rP 2 [] mn ?_
  refine RK R<|aO U<|an ?_
  exact C3 B34 _ _ (by exact ⟨U,W,AA⟩) (aH [3,5,18,6,7,8,9,10,11,12,13,14,15])
 refine rP 2 [] mn ?_
 refine RK R<|aW U<|b_<|aG<|gT 17 U fr U ?_
 refine aS (V ⟨((cq l2 u),(T++[(o.1,(aa.mk (max (v+y) o.2.Lo) (min z o.2.Hi)))]),B34),⟨mh B,nm.UQ An L D (CQ hy d g),E.app,G.app,W,AA⟩⟩ _ _ _ U (eN L) (aT U) (aH [2,3,4,5,6,7,8,9,10,11,12,13,14,15,16,17,18]))
end
section
open Go.RowKit
theorem GH (ln:ck) (ri:eB) (e:List Int) (tms:List TM) (e_A:OA) (e_C:Nat) (tb:List Nat) (t_A:OA) (t_C:Nat) (fs:List FM) (bs:List FM) (fb:List Nat) (f_A:OA) (f_C:Nat) (bb:List Nat) (b_A:OA) (b_C gw:Nat) (hw:Hp (cE ln ri e tms)) (hsg:ri.ag.n≤1000) (hn:ln.ae.n=e.length) (hfw:xn (cE ln ri e tms) fs) (hfb:fb.length=fs.length):
 ly Tryz.prog 210 [(vP gw)] [(rd e_A e.length 1 (e.map iC)),(rd t_A tms.length 1 (List.zipWith gD tms tb)),(eW (aV ru tms tb)),(rd f_A fs.length 1 (List.zipWith gD fs fb)),(eW (aV nT fs fb)),(rd b_A bs.length 1 (List.zipWith gD bs bb)),(eW (aV nT bs bb)),(bV gw 274 (bW.cells (bW.mk ln ri (br.mk e_A e.length e_C) (br.mk t_A tms.length t_C) (br.mk f_A fs.length f_C) (br.mk b_A bs.length b_C))))] (fun (x:(OA)×Nat)=>(vS x.1 ((jD (cE ln ri e tms)).length) x.2)) (fun (x:(OA)×Nat)=>True) (fun (x:(OA)×Nat)=>[(own x.1 x.2 3 1 ((jD (cE ln ri e tms)).map iC))]):=by
 have y:e.length≤6:=hw.n
 have u:fs.length=e.length+1:=hfw.len
 refine dj kr Tryz.func210 U U fun w0 Q hQ hN=>?_
 try dsimp only
 refine WS fun _ X=>bf 1 U<|RK X<|WS fun _ Y=>bf 1 U<|RK Y<|ah fun _ Z=>WS fun _ b=>bf 1 U<|rS (SX (bI U U) U U)<|rP 6 [] (mr 7 U mn) ?_
 refine RK b<|av<|fQ 3 1 ?_
 have A:(0≤e.length+1):=by exact Nat.zero_le _
 refine bH (ι:={z:Nat×(OA)×Nat // (z.1≤e.length+1)}) [0,12] [1,2,3,4,5,6,7,8] U U (fun z=>[(3,(vS z.1.2.1 ((kg (cE ln ri e tms) z.1.1).length) z.1.2.2)),(13,(vI (z.1.1:Int)))]) (fun z=>[(own z.1.2.1 z.1.2.2 3 1 ((kg (cE ln ri e tms) z.1.1).map iC))]) (fun _=>rfl) (fun _=>rfl) (fun z=>e.length+1-z.1.1) ⟨(0,none,0),A⟩ (aT U) (aH [1,2,3,4,5,6,7,8,0]) ?_
 clear A
 rintro ⟨⟨n,a,c⟩,G⟩ J5 AB
 try dsimp only at G
 try dsimp only
 refine WS fun _ d=>rP 1 [] mn ?_
 refine RK d<|ah fun _ g=>bL U (aL fun s=>?_) (aM fun s=>?_)
 ·refine bu<|ab<|ab<|au<|KK Z<|WS fun _ P=>?_
  rw [show kg (cE ln ri e tms) n=jD (cE ln ri e tms) by (obtain rfl:n=e.length+1:=by omega); rfl]
  refine rP 2 [] mn ?_
  refine RK P<|an<|LX hQ (a,c) [8] [] mn U U U U ?_
  trivial
 refine WK g<|ah fun _ R=>av<|WS fun _ J=>bf 2 U<|RK J<|WS fun _ K=>bf 1 U<|rS (SX (bI U U) U U)<|rP 3 [] (mr 7 U mn) ?_
 obtain ⟨m,B⟩:=aJ fs n I
 obtain ⟨ma,hm0a⟩:=aJ fb n I
 have hm0m:(List.zipWith gD fs fb)[n]? =some (gD m ma):=dy B hm0a
 refine rS (IA n U (aD 3 U) oj dc I I)<|rS (fV n 0 (Value.map (some ma)) U bX (aD 3 U) hm0m U dc U)<|j0 (kV:=dU) (m:=bK iV m) 4 U U oU U ⟨⟨(gW dU ma (bK iV m)),(bM B hm0a (by simp [nT])),U⟩,fun h=>h⟩ (show il _ (gW dU ma (bK iV m)).holds from du 4 U (bM B hm0a (by simp [nT]))) U fun l=>?_
 try dsimp only
 refine RK K<|av ?_
 have A:(∀ p∈m,p∈m)∧(∀ p∈m,p∈m∨ks (cE ln ri e tms) p.1=false):=by exact ⟨fun p hp=>hp,fun p hp=> .inl hp⟩
 refine bH (ι:={z:FM // (∀ p∈z,p∈m)∧(∀ p∈m,p∈z∨ks (cE ln ri e tms) p.1=false)}) [0,3,4,12,13,23] [1,2,3,4,5,6,7,8,9] U U (fun z=>[]) (fun z=>[(zm dU l ma (bK iV m) (bK iV z.1) none)]) (fun _=>rfl) (fun _=>rfl) (fun z=>z.1.length) ⟨m,A⟩ (dh.nil _) (aH [1,2,3,4,5,6,7,8,9,0]) ?_
 clear A
 rintro ⟨left,⟨C,D⟩⟩ J13 H
 try dsimp only
 refine WS fun _ F=>jf oS.inj (f:=iV) 9 U U U U (fun W=>?_) (fun t v hm i=>?_)
 ·refine bf 1 U<|RK F<|ah fun _ o=>aW U<|bu<|ab<|ab<|au<|aG<|KK R<|aj<|rP 2 [] mn ?_
  refine aC ?_
  rw [← Hy (w:=(cE ln ri e tms)) (k:=n) ((Cg (hfw.min _ _ B) (hfw.keys _ _ B)).symm.trans (Jy D W))]
  have S:(vI (((n+1):Nat):Int))=(vI ((n:Int)+1)):=by exact cI I
  refine aS (AB ⟨((n+1),a,c),(by first|omega|(simp only []; omega))⟩ _ _ _ U os (ct 3<|aX U S<|dh.nil _) (aH [0,1,2,3,4,5,6,7,8]))
 try dsimp only
 refine bf 1 U<|RK F<|ah fun _ L=>aO U<|WK L<|av<|WS fun _ M=>rS (SX (jd 9 U U U) U U)<|bf 1 U<|AL U tW fun q=>fP U rE U<|RK M<|WS fun _ N=>rP 2 [] (mc 0 U mn) ?_
 have j:=Ly hw _ _ (hfw.mem B (C _ hm))
 dsimp only at j
 refine rS (CL (Pw ln ri e tms e_A e_C tb t_A t_C fs bs fb f_A f_C bb b_A b_C gw t I hsg) (bj [1,2,3,4,5,6,7,8]) U)<|RK N<|bL U (fun E=>?_) (fun E=>?_)
 ·refine b_<|aG<|gT 10 U fr U ?_
  refine aS (H ⟨(cq left t),⟨mh C,Lf i hm D (by first|exact E|simpa using E)⟩⟩ _ _ _ U (eN hm) (aT U) (aH [1,2,3,4,5,6,7,8,9,10]))
 refine WS fun _ O=>rP 2 [] mn ?_
 refine cY (xs:=[.tmp 32]) (cs:=[(vI (n:Int))]) U cp ja U U U U (by simp [Value.cells]) U U fun r=>?_
 have hy:jn (cE ln ri e tms) (fwd (cE ln ri e tms) n)=true:=(Cg (hfw.min _ _ B) (hfw.keys _ _ B)).symm.trans (No (C _ hm) E)
 refine db (es2:=(List.map iC (kg (cE ln ri e tms) (n+1)))) (m':=(kg (cE ln ri e tms) (n+1)).length) 10 U U U p7 U U sm (aZ (es:=List.map iC [(n:Int)]) 0 U U (by simp [bB]) U) (kf _) (by have:=xT (w:=(cE ln ri e tms)) (k:=n); first|omega|(simp; omega)) (by have:=xT (w:=(cE ln ri e tms)) (k:=n); simp only [maxLen]; omega) (by rw [Ei hy]; simp) sm U fun AA V=>?_
 try dsimp only
 refine bf 1 U<|RK O<|bu<|iw U<|ab<|au<|aG<|KK R<|aj<|rP 2 [] mn ?_
 refine aC ?_
 have T:(vI (((n+1):Nat):Int))=(vI ((n:Int)+1)):=by exact cI I
 refine aS (AB ⟨((n+1),AA,V),(by first|omega|(simp only []; omega))⟩ _ _ _ U os (ct 3<|aX U T<|dh.nil _) (aH [2,3,4,5,6,7,8,9,10]))
end
section
open Go.RowKit
theorem Ir (ln:ck) (ri:eB) (e:List Int) (tms:List TM) (e_A:OA) (e_C:Nat) (tb:List Nat) (t_A:OA) (t_C gw:Nat) (hw:Hp (cE ln ri e tms)) (hn:ln.ae.n=e.length) (htb:tb.length=tms.length):
 Dt Tryz.prog 209 [(vP gw)] [(rd e_A e.length 1 (e.map iC)),(rd t_A tms.length 1 (List.zipWith gD tms tb)),(eW (aV ru tms tb))] (bV gw 274 (bW.cells (bW.mk ln ri (br.mk e_A e.length e_C) (br.mk t_A tms.length t_C) (br.mk none 0 0) (br.mk none 0 0)))) (fun (x:(List FM)×(List Nat)×(OA)×Nat×(List FM)×(List Nat)×(OA)×Nat)=>(vT [])) (fun (x:(List FM)×(List Nat)×(OA)×Nat×(List FM)×(List Nat)×(OA)×Nat)=>xn (cE ln ri e tms) x.1∧uw (cE ln ri e tms) x.2.2.2.2.1∧x.2.1.length=x.1.length∧x.2.2.2.2.2.1.length=x.2.2.2.2.1.length) (fun (x:(List FM)×(List Nat)×(OA)×Nat×(List FM)×(List Nat)×(OA)×Nat)=>(bw [(bV gw 274 (bW.cells (bW.mk ln ri (br.mk e_A e.length e_C) (br.mk t_A tms.length t_C) (br.mk x.2.2.1 x.1.length x.2.2.2.1) (br.mk x.2.2.2.2.2.2.1 x.2.2.2.2.1.length x.2.2.2.2.2.2.2)))),(own x.2.2.1 x.2.2.2.1 278 1 (List.zipWith gD x.1 x.2.1)),(bw (aV nT x.1 x.2.1)),(own x.2.2.2.2.2.2.1 x.2.2.2.2.2.2.2 278 1 (List.zipWith gD x.2.2.2.2.1 x.2.2.2.2.2.1)),(bw (aV nT x.2.2.2.2.1 x.2.2.2.2.2.1))])):=by
 have WF:e.length≤6:=hw.n
 have WG:tms.length=e.length:=hw.times
 refine mJ kr Tryz.func209 U U fun w0 Q hQ hN=>?_
 try dsimp only
 refine WS fun _ C3=>um U U fun W=>RK C3<|WS fun _ Dr=>fw 1 [] (mc 0 U mn) U<|rS (SX (bI U U) U U)<|rP 5 [] (mc 1 U mn) ?_
 refine RK Dr ?_
 refine oi (ι:={z:(OA)×(OA) // True}) [0,1,2] [0,2,3,4] U U (fun z=>[]) (fun z=>[(own z.1.1 (ln.ae.n+1) 278 1 (List.map oC (List.replicate (ln.ae.n+1) (none:Option Nat)))),(own z.1.2 (ln.ae.n+1) 278 1 (List.map oC (List.replicate (ln.ae.n+1) (none:Option Nat)))),(bV gw 274 (bW.cells (bW.mk ln ri (br.mk e_A e.length e_C) (br.mk t_A tms.length t_C) (br.mk z.1.1 (ln.ae.n+1) (ln.ae.n+1)) (br.mk z.1.2 (ln.ae.n+1) (ln.ae.n+1)))))]) (fun _=>rfl) (fun _=>rfl) ?_ fun K4 EQ=>?_
 ·rintro ⟨⟨fA,bA⟩,_⟩
  try dsimp only
  refine CK 6 U U fun wz Sz hz=>?_
  have WC:(List.replicate (ln.ae.n+1) (none:Option Nat)).length=(ln.ae.n+1):=List.length_replicate
  try dsimp only
  refine oi (ι:={z:Nat // True}) [0,1,2] [0,1,2,3,4,6] U U (fun z=>[]) (fun z=>[(bw (aV nT [[((aB.mk 0 0),ri.Start)]] [z.1])),(own fA (ln.ae.n+1) 278 1 (List.map oC (eo [z.1] (ln.ae.n+1))))]) (fun _=>rfl) (fun _=>rfl) ?_ fun K5 UQ=>?_
  ·rintro ⟨ga,_⟩
   try dsimp only
   refine ah fun _ Eq=>WS fun _ FS=>rP 2 [] mn ?_
   refine RK FS<|av<|oG ?_
   have C:(0≤ln.ae.n)∧(([[((aB.mk 0 0),ri.Start)]]).length=0+1)∧(([ga]).length=0+1)∧(pV (cE ln ri e tms) ([[((aB.mk 0 0),ri.Start)]])):=by exact ⟨Nat.zero_le _,rfl,rfl,pV.first⟩
   refine vY (ι:={z:Nat×(List FM)×(List Nat)×(List Nat) // (z.1≤ln.ae.n)∧(z.2.1.length=z.1+1)∧(z.2.2.1.length=z.1+1)∧(pV (cE ln ri e tms) z.2.1)}) (fun z=>z.1.2.2.2.map lq) (fun z=>[(0,(vP gw)),(1,(vP W)),(2,(vI (ln.ae.n:Int))),(52,(vI (ln.ae.n:Int))),(53,(vI (z.1.1:Int)))]) (fun z=>[(bw (z.1.2.2.2.map lF)),(bV gw 274 (bW.cells (bW.mk ln ri (br.mk e_A e.length e_C) (br.mk t_A tms.length t_C) (br.mk fA (ln.ae.n+1) (ln.ae.n+1)) (br.mk bA (ln.ae.n+1) (ln.ae.n+1))))).ro,(bV W 263 [(vP gw)]),(rd e_A e.length 1 (e.map iC)).ro,(rd t_A tms.length 1 (List.zipWith gD tms tb)).ro,(eW (aV ru tms tb)).ro,(own bA (ln.ae.n+1) 278 1 (List.map oC (List.replicate (ln.ae.n+1) (none:Option Nat)))),(bw (aV nT z.1.2.1 z.1.2.2.1)),(own fA (ln.ae.n+1) 278 1 (List.map oC (eo z.1.2.2.1 (ln.ae.n+1))))]) (fun z=>ln.ae.n-z.1.1) ⟨(0,[[((aB.mk 0 0),ri.Start)]],[ga],([]:List Nat)),C⟩ U (aT U) (aH [0,1,2,3,4,5,6,7,8]) ?_
   clear C
   rintro ⟨⟨b,fs,fb,S1⟩,⟨If,A3,Ij,M⟩⟩ J8 T6
   try dsimp only at If A3 Ij M
   try dsimp only
   have WD:(eo fb (ln.ae.n+1)).length=(ln.ae.n+1):=qZ I
   refine WS fun _ Fd=>rP 1 [] mn ?_
   refine RK Fd<|ah fun _ AK=>cy U (aM fun T2=>?_) (aL fun T2=>?_)
   ·refine WK AK<|ah fun _ K_=>av<|WS fun _ LA=>rP 1 [] mn ?_
    refine AL U ja fun s=>G1 U Bz U U<|RK LA<|ah fun _ LE=>dG cu [6,8] [6] [0] [0,1,2,3,4,5,6,7,8] [0,1,2,3,4,5,6,7,8,9] U U U U U<|eS U (Dy 3 U bX U)<|eS U (SX (bI U U) U U)<|eS U (FA 12 U fu U)<|eS U (Ii (vS fA (ln.ae.n+1) (ln.ae.n+1)) 2 U bX U U)<|eS U (Dy 0 U bX U)<|eS U (BI U (ic ⟨I,I⟩)) ?_
    obtain ⟨VW,R9⟩:=aJ (eo fb (ln.ae.n+1)) (b+1) I
    have hx17m:(List.map oC (eo fb (ln.ae.n+1)))[(b+1)]? =some (oC VW):=by rw [fq,R9]; rfl
    refine fS U (IA (b+1) U (ai (n:=(ln.ae.n+1)) 9 U sq) oj dc I I) ?_
    refine eV U<|iE U fun T18 QA=>l7 (kV:=dU) U U fun B=>?_
    try dsimp only
    refine aC (QA _ _ (aH [1,2,3,4,5,6,7,8,9]) (aH [1,2,3,4,5,6,7,8,9,10]) ?_)
    refine bY U fun T20 QF=>?_
    have R0:((eo fb (ln.ae.n+1)).set (b+1) (some B))=(eo (fb++[B]) (ln.ae.n+1)):=by exact uH I I
    refine ew (k:=(b+1)) (o:=0) (vs:=[(Value.map (some B))]) (es':=(List.map oC (eo (fb++[B]) (ln.ae.n+1)))) (C':=[_,_,_,_,_,_,_,_,_,_,(own fA (ln.ae.n+1) 278 1 (List.map oC (eo (fb++[B]) (ln.ae.n+1))))]) 10 U U U KD U U U U hx17m U dc (by exact (List.map_set (f:=oC) (l:=(eo fb (ln.ae.n+1))) (i:=(b+1)) (a:=(some B))).symm.trans (congrArg _ R0)) U<|aC (QF _ _ (aH [1,2,3,4,5,6,7,8,9]) ?_)
    refine fF U<|KK LE<|ah fun _ LS=>?_
    have VA:(eo (fb++[B]) (ln.ae.n+1)).length=(ln.ae.n+1):=qZ (by simp; omega)
    obtain ⟨mb,N⟩:=aJ fs b I
    obtain ⟨ga,Z⟩:=aJ fb b I
    refine Gr 9 N Z U U U ?_
    try dsimp only
    refine dB cu 7 kr<|mL 1 [] (mc 6 U mn) U<|dS (SX (bI U U) U U)<|dP 3 [0,1] (mr 5 U (mc 3 U mn)) ?_
    have R4:(List.map oC (eo (fb++[B]) (ln.ae.n+1)))[b]? =some (oC (some ga)):=rN (oT (Md Z))
    refine dS (IA b U (ai (n:=(ln.ae.n+1)) 11 U sq) oj dc I I) ?_
    refine dS (fV b 0 (Value.map (some ga)) U bX (ai (n:=(eo (fb++[B]) (ln.ae.n+1)).length) 11 U sm) R4 U dc U)<|cM<|uB 0 U U oU U U fun BX=>?_
    try dsimp only
    refine RK LS<|av ?_
    have C:(∀ p∈mb,p∈mb)∧(xz (cE ln ri e tms) b ([]:FM))∧(jH (cE ln ri e tms) b mb ([]:FM) mb):=by exact ⟨fun p hp=>hp,xz.start,jH.start⟩
    refine vY (ι:={z:FM×FM×(List Nat) // (∀ p∈z.1,p∈mb)∧(xz (cE ln ri e tms) b z.2.1)∧(jH (cE ln ri e tms) b mb z.2.1 z.1)}) (fun z=>z.1.2.2.map lq) (fun z=>[(0,(vP gw)),(1,(vP W)),(2,(vI (ln.ae.n:Int))),(3,(vP s)),(52,(vI (ln.ae.n:Int))),(53,(vI (b:Int))),(71,(vP BX))]) (fun z=>[(yZ dU BX ga (bK iV mb) (bK iV z.1.1) none),(bw (fp nT fs fb b)),(gW dU B (bK iV z.1.2.1)),(bV s 3 [(vI (b:Int))]),(bw (z.1.2.2.map lF)),(bV gw 274 (bW.cells (bW.mk ln ri (br.mk e_A e.length e_C) (br.mk t_A tms.length t_C) (br.mk fA (ln.ae.n+1) (ln.ae.n+1)) (br.mk bA (ln.ae.n+1) (ln.ae.n+1))))).ro,(bV W 263 [(vP gw)]),(rd e_A e.length 1 (e.map iC)).ro,(rd t_A tms.length 1 (List.zipWith gD tms tb)).ro,(eW (aV ru tms tb)).ro,(own bA (ln.ae.n+1) 278 1 (List.map oC (List.replicate (ln.ae.n+1) (none:Option Nat)))),(own fA (ln.ae.n+1) 278 1 (List.map oC (eo (fb++[B]) (ln.ae.n+1))))]) (fun z=>z.1.1.length) ⟨(mb,([]:FM),S1),C⟩ U (aT U) (aH [0,1,2,3,4,5,6,7,8,9,10,11]) ?_
    clear C
    rintro ⟨⟨left,m,A4⟩,⟨c,d,g⟩⟩ J26 K0
    try dsimp only at c d g
    try dsimp only
    refine WS fun _ B9=>sx oS.inj (f:=iV) 0 U U U U (fun T4=>?_) (fun t v hm In=>?_)
    ·refine bf 1 U<|RK B9<|ah fun _ V4=>aW U<|bu<|ab<|ab<|au<|aG<|KK K_<|aj<|rP 2 [] mn ?_
     refine aC<|Kz (C':=[(gW dU ga (bK iV mb)),(bw (fp nT fs fb b)),(gW dU B (bK iV m)),(bV s 3 [(vI (b:Int))]),(bw (A4.map lF)),(bV gw 274 (bW.cells (bW.mk ln ri (br.mk e_A e.length e_C) (br.mk t_A tms.length t_C) (br.mk fA (ln.ae.n+1) (ln.ae.n+1)) (br.mk bA (ln.ae.n+1) (ln.ae.n+1))))).ro,(bV W 263 [(vP gw)]),(rd e_A e.length 1 (e.map iC)).ro,(rd t_A tms.length 1 (List.zipWith gD tms tb)).ro,(eW (aV ru tms tb)).ro,(own bA (ln.ae.n+1) 278 1 (List.map oC (List.replicate (ln.ae.n+1) (none:Option Nat)))),(own fA (ln.ae.n+1) 278 1 (List.map oC (eo (fb++[B]) (ln.ae.n+1))))]) 0 U JN U<|IJ 1 0 N Z U U U ?_
     try dsimp only
     refine Cq (X':=aV nT (fs++[m]) (fb++[B])) 0 1 U U (zc I U) ?_
     try dsimp only
     have R1:(vI (((b+1):Nat):Int))=(vI ((b:Int)+1)):=by exact cI I
     refine aS (T6 ⟨((b+1),(fs++[m]),(fb++[B]),A4),⟨I,by simp; omega,by simp; omega,M.add A3 N d g T4⟩⟩ _ _ _ U os (ct 4<|aX U R1<|dh.nil _) (aH [2,3,4,5,6,7,8,0,9]))
    try dsimp only
    refine bf 1 U<|RK B9<|ah fun _ LT=>aO U<|WK LT<|av<|WS fun _ La=>rS (SX (sh 0 U U U) U U)<|bf 2 U<|AL U tW fun J2=>AL U ja fun J3=>ub U rE U<|G1 U Bz U U<|RK La<|WS fun _ Li=>rP 2 [0,1] (mc 8 U (mc 5 U mn)) ?_
    refine cX (uK gw b) (aI) U fun Vv V7=>?_
    obtain ⟨Cp,C0⟩:=Vv
    try dsimp only
    refine RK Li<|av<|kl 11 U (by exact fun _ h=>h)<|kl 13 U (by exact fun _ h=>h)<|kl 15 U (by exact fun _ h=>h)<|kl 12 U (by exact fun _ h=>h) ?_
    refine nG (L0:=[(0,(vP gw)),(1,(vP W)),(2,(vI (ln.ae.n:Int))),(3,(vP s)),(4,(vP J2)),(5,(vP J3)),(52,(vI (ln.ae.n:Int))),(53,(vI (b:Int))),(71,(vP BX))]) (F:=[(rd e_A e.length 1 (e.map iC)).ro,(rd t_A tms.length 1 (List.zipWith gD tms tb)).ro,(eW (aV ru tms tb)).ro,(bV gw 274 (bW.cells (bW.mk ln ri (br.mk e_A e.length e_C) (br.mk t_A tms.length t_C) (br.mk fA (ln.ae.n+1) (ln.ae.n+1)) (br.mk bA (ln.ae.n+1) (ln.ae.n+1))))).ro,(bV Cp 263 [(vP gw)]),(bV C0 3 [(vI (b:Int))])]) (fun k (y:FM)=>(nP (cE ln ri e tms) b mb left y (t,v) k)) (fun k y=>[(bV J3 3 [(vI v)]),(bV J2 280 (aB.cells t)),(yZ dU BX ga (bK iV mb) (bK iV (cq left t)) (some (t,(vI v)))),(bw (fp nT fs fb b)),(gW dU B (bK iV y)),(bV s 3 [(vI (b:Int))]),(bw (A4.map lF)),(bV gw 274 (bW.cells (bW.mk ln ri (br.mk e_A e.length e_C) (br.mk t_A tms.length t_C) (br.mk fA (ln.ae.n+1) (ln.ae.n+1)) (br.mk bA (ln.ae.n+1) (ln.ae.n+1))))).ro,(bV W 263 [(vP gw)]),(rd e_A e.length 1 (e.map iC)).ro,(rd t_A tms.length 1 (List.zipWith gD tms tb)).ro,(eW (aV ru tms tb)).ro,(own bA (ln.ae.n+1) 278 1 (List.map oC (List.replicate (ln.ae.n+1) (none:Option Nat)))),(own fA (ln.ae.n+1) 278 1 (List.map oC (eo (fb++[B]) (ln.ae.n+1))))]) (fun _ (_:Unit)=>False) (fun _ _=>[]) [6,7,8,9,10,11,12,13,14,15,16,17,18,19] [3,2,1,0,4,5] m rfl rfl (r9 ln ri e tms e_A e_C tb t_A t_C fA (ln.ae.n+1) (ln.ae.n+1) bA (ln.ae.n+1) (ln.ae.n+1) gw b Cp C0 I I) rfl rfl rfl (by exact nP.start d g) (by simp only [List.forall_mem_cons,List.not_mem_nil,false_imp_iff,implies_true,and_true]; exact ⟨⟨_,aR (i:=0) rfl,(dD (bP _))⟩,⟨_,aR (i:=1) rfl,(dD (bP _))⟩,⟨_,aR (i:=2) rfl,(dD (bP _))⟩,⟨_,aR (i:=3) rfl,(dD (bP _))⟩,⟨_,aR (i:=4) rfl,(bP _)⟩,⟨_,aR (i:=5) rfl,(bP _)⟩⟩) (by rintro k x k2 ⟨o,_,rfl,_⟩; rfl) rfl (aT rfl) ?_ ?_ (fun _ _ _ h=>h.elim) (fun _ _ h=>h.elim)
    rotate_left 1
    ·rintro VV k O A2 Go
     have D:=Go
     try dsimp only
     refine aG<|aG<|KT (X:=A4.map lF) 13 0 U U ?_
     try dsimp only
     refine gT 9 U x3 U ?_
     refine aS (K0 ⟨((cq left t),O,(VV::A4)),⟨mh c,D.on,D.next In hm A2⟩⟩ _ _ _ U (eN hm) (aT U) (aH [9,10,11,12,0,4,14,1,2,3,18,19]))
    rintro k x k2 O l ra rb S w1 K39 Qr40 VS hx GV Lk H VY V1
    obtain ⟨o,ho,rfl,rfl⟩:=hx
    have D:=GV
    try dsimp only
    refine WS fun _ Ls=>rP 1 [] mn ?_
    refine RK Ls<|aj<|AL U de fun V9=>fP U cm U<|aC<|jC (fun _ _ h=>h) (aH [1,0,2,3,4,5,6,7,8,9,10,11,12,13,14,15])<|aS (Lk _ _ ?_)
    refine av<|ah fun _ L2=>dG cu [16,18] [] [] [0,1,2,3,4,5,6,7,8,9,10,11,12,13,14,15] [] U U U U U<|eS U (Dy 2 U bX U)<|eS U (Dy 10 U bX U)<|eS U (SX (bI U U) U U)<|eS U (FA 10 U fu U)<|eS U (Ii (vS e_A e.length e_C) 9 U bX U U)<|eS U (Dy 7 U bX U) ?_
    obtain ⟨y,hy⟩:=aJ e b I
    have I0:=bG iC hy
    refine eS U (IA b U (aD 11 U) cp dc I I)<|eS U (fV b 0 (vI y) U bX (aD 11 U) I0 U dc U) ?_
    have UW:=hw.least y (aR hy)
    have hp:=M.mem N (c _ hm)
    have UV:=Ly hw _ _ hp
    have VO:=uf o.1
    have VR:=hw.opt ho
    have WE:=hw.now
    dsimp only at UV
    refine eS U (BI U (ic ⟨I,I⟩))<|eS U (FA 0 U fu U)<|eS U (L1 (vI o.2.Lo) 1 U bX U U)<|eS U (MX U)<|eS U (LW 3 U bX U U)<|eS U (MV U)<|eS U (CL (JD o.1) (aI) U)<|eS U (CL (v_ t (fc o.1) I I) (aI) U)<|eS U (AG U)<|eV U<|bY U fun T45 QI=>AL U tW fun V_=>aC (QI _ _ (aH [1,2,3,4,5,6,7,8,9,10,11,12,13,14,15,16]) ?_)
    refine bY U fun T47 QJ=>fP U rE U<|aC (QJ _ _ (aH [1,2,3,4,5,6,7,8,9,10,11,12,13,14,15,16]) ?_)
    refine fF U<|KK L2<|ah fun _ L3=>dB cu 15 kr<|mL 1 [] (mc 11 U mn) U<|dS (SX (bI U U) U U)<|dP 4 [0,1] (mr 10 U (mc 8 U mn)) ?_
    have R5:(List.map oC (eo (fb++[B]) (ln.ae.n+1)))[(b+1)]? =some (oC (some B)):=rN (oT (Am I))
    refine dS (IA (b+1) U (ai (n:=(ln.ae.n+1)) 16 U sq) oj dc I I) ?_
    refine dS (fV (b+1) 0 (Value.map (some B)) U bX (ai (n:=(eo (fb++[B]) (ln.ae.n+1)).length) 16 U sm) R5 U dc U)<|mL 1 [] (mc 0 U mn) U<|dS (SX (jN (kV:=dU) (x:=(dk t (fc o.1))) (l:=O) (f:=iV) (z:=0) U U U oU oS VD (by exact aD 7 U)) U U)<|lz 5 U<|cM<|RK L3<|ah fun _ AO=>dB cu 19 kr<|mL 4 [0,1] (mc 2 U (mc 11 U mn)) U<|dS (SX (bI U U) U U)<|mL 3 [] (mr 10 U mn) U<|dS (MN U)<|dP 2 [] mn ?_
    refine jo (t:=121) U (aL fun P=>?_) (aM fun P=>?_)
    ·refine dP 8 [] mn ?_
     refine cM<|RK AO<|aW U<|b_<|aG ?_
     exact H O _ _ (by exact D.skip (LZ hy P)) (aH [1,3,4,5,6,7,8,9,10,11,12,13,14,15,16])
    refine dP 3 [] mn ?_
    refine iZ (t:=124) U (fun R=>?_) (fun R=>?_)
    ·rw [Bool.not_eq_true'] at R
     refine lz 5 U<|cM<|RK AO<|aO U<|dB cu 10 kr<|mL 1 [] (mc 11 U mn) U<|dS (SX (bI U U) U U)<|dP 4 [0,1] (mr 10 U (mc 8 U mn)) ?_
     have R6:(List.map oC (eo (fb++[B]) (ln.ae.n+1)))[(b+1)]? =some (oC (some B)):=rN (oT (Am I))
     refine dS (IA (b+1) U (ai (n:=(ln.ae.n+1)) 16 U sq) oj dc I I) ?_
     refine dS (fV (b+1) 0 (Value.map (some B)) U bX (ai (n:=(eo (fb++[B]) (ln.ae.n+1)).length) 16 U sm) R6 U dc U)<|dP 2 [] (mc 0 U mn) ?_
     refine cM<|g_ (kV:=dU) (x:=(dk t (fc o.1))) (C':=[_,_,_,_,_,_,_,(gW dU B (bK iV (dL O (dk t (fc o.1)) (max (v+y) o.2.Lo)))),_,_,_,_,_,_,_,_,_]) 7 U U U U oU oS U (fM _ _ _ _).symm U<|aC<|aG ?_
     exact H (dL O (dk t (fc o.1)) (max (v+y) o.2.Lo)) _ _ (by exact D.set hp ho (AN hy P) (.inl (by simpa using R))) (aH [1,3,4,5,6,7,8,9,10,11,12,13,14,15,16])
    rw [Bool.not_eq_false'] at R
    refine dP 5 [] mn ?_
    refine cM<|RK AO<|bL U (aL fun u=>?_) (aM fun u=>?_)
    ·refine b_<|aG ?_
     exact H O _ _ (by exact D.ow (AN hy P) (by simpa using R) u) (aH [1,3,4,5,6,7,8,9,10,11,12,13,14,15,16])
    refine dB cu 10 kr<|mL 1 [] (mc 11 U mn) U<|dS (SX (bI U U) U U)<|dP 4 [0,1] (mr 10 U (mc 8 U mn)) ?_
    have R7:(List.map oC (eo (fb++[B]) (ln.ae.n+1)))[(b+1)]? =some (oC (some B)):=rN (oT (Am I))
    refine dS (IA (b+1) U (ai (n:=(ln.ae.n+1)) 16 U sq) oj dc I I) ?_
    refine dS (fV (b+1) 0 (Value.map (some B)) U bX (ai (n:=(eo (fb++[B]) (ln.ae.n+1)).length) 16 U sm) R7 U dc U)<|dP 2 [] (mc 0 U mn) ?_
    refine cM<|g_ (kV:=dU) (x:=(dk t (fc o.1))) (C':=[_,_,_,_,_,_,_,(gW dU B (bK iV (dL O (dk t (fc o.1)) (max (v+y) o.2.Lo)))),_,_,_,_,_,_,_,_,_]) 7 U U U U oU oS U (fM _ _ _ _).symm U<|aC<|aG ?_
    exact H (dL O (dk t (fc o.1)) (max (v+y) o.2.Lo)) _ _ (by exact D.set hp ho (AN hy P) (.inr u)) (aH [1,3,4,5,6,7,8,9,10,11,12,13,14,15,16])
   refine bu<|ab<|ab<|au<|KK Eq<|WS fun _ An=>rP 1 [] mn ?_
   refine AL U ja fun S2=>G1 U Bz U U<|RK An<|av ?_
   rw [Gx]
   refine oG ?_
   have C:(0≤ln.ae.n+1)∧(([]:List FM).length=0)∧(([]:List Nat).length=0)∧(g6 (cE ln ri e tms) (ln.ae.n+1-0) ([]:List FM)):=by exact ⟨Nat.zero_le _,rfl,rfl,g6.none_⟩
   refine vY (ι:={z:Nat×(List FM)×(List Nat)×Nat×(List Nat) // (z.1≤ln.ae.n+1)∧(z.2.1.length=z.1)∧(z.2.2.1.length=z.1)∧(g6 (cE ln ri e tms) (ln.ae.n+1-z.1) z.2.1)}) (fun z=>z.1.2.2.2.2.map lq) (fun z=>[(0,(vP gw)),(1,(vP W)),(2,(vI (ln.ae.n:Int))),(12,(Value.pointer (some ⟨z.1.2.2.2.1,0,none⟩)))]) (fun z=>[(bw (aV nT z.1.2.1 z.1.2.2.1)),(bV z.1.2.2.2.1 3 [(vI ((ln.ae.n:Int)-(z.1.1:Int)))]),(bw (z.1.2.2.2.2.map lF)),(bV gw 274 (bW.cells (bW.mk ln ri (br.mk e_A e.length e_C) (br.mk t_A tms.length t_C) (br.mk fA (ln.ae.n+1) (ln.ae.n+1)) (br.mk bA (ln.ae.n+1) (ln.ae.n+1))))).ro,(bV W 263 [(vP gw)]),(rd e_A e.length 1 (e.map iC)).ro,(rd t_A tms.length 1 (List.zipWith gD tms tb)).ro,(eW (aV ru tms tb)).ro,(own bA (ln.ae.n+1) 278 1 (List.map oC (gY z.1.2.2.1 (ln.ae.n+1)))),(bw (aV nT fs fb)),(own fA (ln.ae.n+1) 278 1 (List.map oC (eo fb (ln.ae.n+1))))]) (fun z=>ln.ae.n+1-z.1.1) ⟨(0,([]:List FM),([]:List Nat),S2,S1),C⟩ U (aT U) (aH [0,1,2,3,4,5,6,7,8,9,10]) ?_
   clear C
   rintro ⟨⟨j,bs,bb,gq,q⟩,⟨A7,A8,A9,E⟩⟩ J57 B7
   try dsimp only at A7 A8 A9 E
   try dsimp only
   refine ah fun _ Ay=>WS fun _ A0=>rP 2 [] (mc 1 U mn) ?_
   refine RK A0<|bL U (aL fun J7=>?_) (aM fun J7=>?_)
   ·refine bu<|ab<|ab<|au ?_
    rw [show (List.map oC (eo fb (ln.ae.n+1)))=(List.zipWith gD fs fb) from by rw [zO I]; exact (Az I).symm]
    rw [show (List.map oC (gY bb (ln.ae.n+1)))=(List.zipWith gD bs bb) from by rw [GA I]; exact (Az I).symm]
    refine zW (C1:=[(own fA (ln.ae.n+1) 278 1 (List.zipWith gD fs fb)),(bw (aV nT fs fb)),(own bA (ln.ae.n+1) 278 1 (List.zipWith gD bs bb)),(bw (aV nT bs bb)),(bw (q.map lF))]) hz [10,9,8,0,2] U U (by simp only [fz,List.all_nil,Jg,MF,Bool.and_true]; rfl) ?_
    rw [show (bV gw 274 (bW.cells (bW.mk ln ri (br.mk e_A e.length e_C) (br.mk t_A tms.length t_C) (br.mk fA (ln.ae.n+1) (ln.ae.n+1)) (br.mk bA (ln.ae.n+1) (ln.ae.n+1)))))=(bV gw 274 (bW.cells (bW.mk ln ri (br.mk e_A e.length e_C) (br.mk t_A tms.length t_C) (br.mk fA fs.length (ln.ae.n+1)) (br.mk bA bs.length (ln.ae.n+1))))) from by rw [show fs.length=(ln.ae.n+1) from by omega,show bs.length=(ln.ae.n+1) from by omega]]
    refine Qs [(bV gw 274 (bW.cells (bW.mk ln ri (br.mk e_A e.length e_C) (br.mk t_A tms.length t_C) (br.mk fA fs.length (ln.ae.n+1)) (br.mk bA bs.length (ln.ae.n+1))))),(own fA (ln.ae.n+1) 278 1 (List.zipWith gD fs fb)),(bw (aV nT fs fb)),(own bA (ln.ae.n+1) 278 1 (List.zipWith gD bs bb)),(bw (aV nT bs bb))] [(bw (q.map lF))] ?_
    refine hN _ _ _ (Jw 1 U U<|gZ (vs:=[]) trivial fun w hs=>Td (fs,fb,fA,(ln.ae.n+1),bs,bb,bA,(ln.ae.n+1)) 0 ?_ ?_ U (by show List.all _ _=true; simp only [fz,List.all_nil,Jg,Bool.and_true]; rfl) hs)
    ·clear hs w hQ hN A0 Ay An AK Fd FS Eq Dr C3; rfl
    ·clear hs w hQ hN A0 Ay An AK Fd FS Eq Dr C3; exact ⟨M.ok (by show fs.length=e.length+1; omega),g6.ok (by have:=E; rwa [show ln.ae.n+1-j=0 by omega] at this) (by show bs.length=e.length+1; omega),dso,dso⟩
   refine WK Ay<|ah fun _ Ci=>av<|ah fun _ M2=>?_
   obtain ⟨b,WB⟩: ∃ b:Nat,b+j=ln.ae.n:=⟨ln.ae.n-j,I⟩
   rw [show (ln.ae.n:Int)-(j:Int)=(b:Int) from by omega]
   have V6:(gY bb (ln.ae.n+1)).length=(ln.ae.n+1):=yN I
   refine dG cu [5,12,13,15] [11] [0,1,2] [0,1,2,3,4,5,6,7,9,10] [0,1,2,3,4,5,6,7,8,9,10] U U U U U<|eS U (Dy 4 U bX U)<|eS U (SX (bI U U) U U)<|eS U (FA 13 U fu U)<|eS U (Ii (vS bA (ln.ae.n+1) (ln.ae.n+1)) 3 U bX U U)<|eS U (Dy 1 U bX U)<|eS U (SX (bh (xs:=[]) (cs:=(aB.cells (aB.mk 0 0))) U U (bg Cv U)) U U)<|eS U (Dy 4 U bX U)<|eS U (SX (bI U U) U U)<|eS U (FA 7 U fu U)<|eS U (FA 8 U fu U)<|eS U (Ii (vI ri.fZ) 3 U bX U U) ?_
   obtain ⟨VX,SQ⟩:=aJ (gY bb (ln.ae.n+1)) b I
   have hx63m:(List.map oC (gY bb (ln.ae.n+1)))[b]? =some (oC VX):=by rw [fq,SQ]; rfl
   refine fS U (IA b U (ai (n:=(ln.ae.n+1)) 8 U sq) oj dc I I) ?_
   refine eV U<|iE U fun T64 Ql=>l7 (kV:=dU) U U fun A=>?_
   try dsimp only
   refine aC (Ql _ _ (aH [1,2,3,4,5,6,7,8,10,11]) (aH [1,2,3,4,5,6,7,8,9,10,11]) ?_)
   refine iE U fun T66 Qr=>?_
   have R2:(dL ([]:List (aB×Int)) (aB.mk 0 0) ri.fZ)=[((aB.mk 0 0),ri.fZ)]:=by rfl
   refine yF (kV:=dU) (x:=(aB.mk 0 0)) (C':=[(gW dU A (bK iV ([((aB.mk 0 0),ri.fZ)]))),_,_,_,_,_,_,_,_,_,_,_]) 0 U U U U oU oS U ((fM _ _ _ _).symm.trans (congrArg _ R2)) U<|aC (Qr _ _ (aH [1,2,3,4,5,6,7,8,10,11]) (aH [1,2,3,4,5,6,7,8,9,10,11]) ?_)
   refine iE U fun T68 Q9=>rS (MV U)<|aC (Q9 _ _ (aH [1,2,3,4,5,6,7,8,10,11]) (aH [1,2,3,4,5,6,7,8,9,10,11]) ?_)
   refine bY U fun T69 RR=>?_
   have R3:((gY bb (ln.ae.n+1)).set b (some A))=(gY (A::bb) (ln.ae.n+1)):=by exact Hw I
   refine ew (k:=b) (o:=0) (vs:=[(Value.map (some A))]) (es':=(List.map oC (gY (A::bb) (ln.ae.n+1)))) (C':=[_,_,_,_,_,_,_,_,_,(own bA (ln.ae.n+1) 278 1 (List.map oC (gY (A::bb) (ln.ae.n+1)))),_,_]) 9 U U U KD U U U U hx63m U dc (by exact (List.map_set (f:=oC) (l:=(gY bb (ln.ae.n+1))) (i:=b) (a:=(some A))).symm.trans (congrArg _ R3)) U<|aC (RR _ _ (aH [1,2,3,4,5,6,7,8,10,11]) ?_)
   refine fF U<|KK M2<|ah fun _ NE=>WS fun _ NU=>rP 3 [] (mc 2 U mn) ?_
   refine RK NU<|cy U (aM fun J9=>?_) (aL fun J9=>?_)
   ·refine bu<|ab<|au<|KK Ci<|ah fun _ Ne=>WS fun _ OP=>fw 1 [] (mc 2 U mn) U<|RK OP<|aj<|AL U ja fun T0=>G1 U Bz U U<|RK Ne<|aj<|rP 2 [] (mc 0 U mn) ?_
    refine G1 U Bz U U<|aC ?_
    rw [show (b:Int)-1=(ln.ae.n:Int)-(((j+1):Nat):Int) from by omega]
    refine zl (ms:=bs) (m:=[((aB.mk 0 0),ri.fZ)]) (a:=A) 2 1 U U U ?_
    try dsimp only
    refine aS (B7 ⟨((j+1),([((aB.mk 0 0),ri.fZ)]::bs),(A::bb),T0,q),⟨I,by simp; omega,by simp; omega,by exact g6.end_ (b:=b) E I I (by show e.length≤b; omega)⟩⟩ _ _ _ U os (aT U) (aH [0,1,3,4,5,6,7,8,9,10,11]))
   refine WK NE<|ah fun _ Op=>?_
   have VK:(gY (A::bb) (ln.ae.n+1)).length=(ln.ae.n+1):=yN (by simp; omega)
   obtain ⟨mb,N⟩:=aJ bs 0 I
   obtain ⟨ga,Z⟩:=aJ bb 0 I
   refine Gr 1 N Z U U U ?_
   try dsimp only
   refine dB cu 8 kr<|mL 1 [] (mc 6 U mn) U<|dS (SX (bI U U) U U)<|dP 4 [0,1] (mr 5 U (mc 3 U mn)) ?_
   have R8:(List.map oC (gY (A::bb) (ln.ae.n+1)))[(b+1)]? =some (oC (some ga)):=rN (ua (i:=1) (by simpa using Z) (by simp; omega))
   refine dS (IA (b+1) U (ai (n:=(ln.ae.n+1)) 10 U sq) oj dc I I) ?_
   refine dS (fV (b+1) 0 (Value.map (some ga)) U bX (ai (n:=(gY (A::bb) (ln.ae.n+1)).length) 10 U sm) R8 U dc U)<|cM<|uB 0 U U oU U U fun B3=>?_
   try dsimp only
   refine RK Op<|av ?_
   have C:(∀ p∈mb,p∈mb)∧(vO (cE ln ri e tms) b ([((aB.mk 0 0),ri.fZ)]))∧(jx (cE ln ri e tms) b mb ([((aB.mk 0 0),ri.fZ)]) mb):=by exact ⟨fun p hp=>hp,vO.start (by show b<e.length; omega),jx.start⟩
   refine vY (ι:={z:FM×FM×(List Nat) // (∀ p∈z.1,p∈mb)∧(vO (cE ln ri e tms) b z.2.1)∧(jx (cE ln ri e tms) b mb z.2.1 z.1)}) (fun z=>z.1.2.2.map lq) (fun z=>[(0,(vP gw)),(1,(vP W)),(2,(vI (ln.ae.n:Int))),(12,(vP gq)),(171,(vP B3))]) (fun z=>[(yZ dU B3 ga (bK iV mb) (bK iV z.1.1) none),(bw (fp nT bs bb 0)),(gW dU A (bK iV z.1.2.1)),(bV gq 3 [(vI (b:Int))]),(bw (z.1.2.2.map lF)),(bV gw 274 (bW.cells (bW.mk ln ri (br.mk e_A e.length e_C) (br.mk t_A tms.length t_C) (br.mk fA (ln.ae.n+1) (ln.ae.n+1)) (br.mk bA (ln.ae.n+1) (ln.ae.n+1))))).ro,(bV W 263 [(vP gw)]),(rd e_A e.length 1 (e.map iC)).ro,(rd t_A tms.length 1 (List.zipWith gD tms tb)).ro,(eW (aV ru tms tb)).ro,(own bA (ln.ae.n+1) 278 1 (List.map oC (gY (A::bb) (ln.ae.n+1)))),(bw (aV nT fs fb)),(own fA (ln.ae.n+1) 278 1 (List.map oC (eo fb (ln.ae.n+1))))]) (fun z=>z.1.1.length) ⟨(mb,[((aB.mk 0 0),ri.fZ)],q),C⟩ U (aT U) (aH [0,1,2,3,4,5,6,7,8,9,10,11,12]) ?_
   clear C
   rintro ⟨⟨left,m,V⟩,⟨J,K,L⟩⟩ J80 K8
   try dsimp only at J K L
   try dsimp only
   refine WS fun _ Ck=>sx oS.inj (f:=iV) 0 U U U U (fun KW=>?_) (fun t v hm In=>?_)
   ·refine bf 1 U<|RK Ck<|ah fun _ V5=>aW U<|bu<|ab<|ab<|au<|aG<|KK Ci<|ah fun _ Or=>WS fun _ Os=>fw 1 [] (mc 3 U mn) U<|RK Os<|aj<|AL U ja fun J4=>G1 U Bz U U<|RK Or<|aj<|rP 2 [] (mc 0 U mn) ?_
    refine G1 U Bz U U<|aC<|Kz (C':=[(bV J4 3 [(vI ((b:Int)-1))]),(gW dU ga (bK iV mb)),(bw (fp nT bs bb 0)),(gW dU A (bK iV m)),(bV gq 3 [(vI (b:Int))]),(bw (V.map lF)),(bV gw 274 (bW.cells (bW.mk ln ri (br.mk e_A e.length e_C) (br.mk t_A tms.length t_C) (br.mk fA (ln.ae.n+1) (ln.ae.n+1)) (br.mk bA (ln.ae.n+1) (ln.ae.n+1))))).ro,(bV W 263 [(vP gw)]),(rd e_A e.length 1 (e.map iC)).ro,(rd t_A tms.length 1 (List.zipWith gD tms tb)).ro,(eW (aV ru tms tb)).ro,(own bA (ln.ae.n+1) 278 1 (List.map oC (gY (A::bb) (ln.ae.n+1)))),(bw (aV nT fs fb)),(own fA (ln.ae.n+1) 278 1 (List.map oC (eo fb (ln.ae.n+1))))]) 1 U JN U<|IJ 2 1 N Z U U U ?_
    try dsimp only
    rw [show (b:Int)-1=(ln.ae.n:Int)-(((j+1):Nat):Int) from by omega]
    refine zl (ms:=bs) (m:=m) (a:=A) 0 2 U U U ?_
    try dsimp only
    refine aS (B7 ⟨((j+1),(m::bs),(A::bb),J4,V),⟨I,by simp; omega,by simp; omega,by exact g6.more (b:=b) E I I (by show b<e.length; omega) N K L KW⟩⟩ _ _ _ U os (aT U) (aH [0,1,3,4,5,6,7,8,9,10,11]))
   try dsimp only
   refine bf 1 U<|RK Ck<|ah fun _ PF=>aO U<|WK PF<|av<|WS fun _ PP=>rS (SX (sh 0 U U U) U U)<|bf 2 U<|AL U tW fun J5=>AL U ja fun J6=>ub U rE U<|G1 U Bz U U<|RK PP<|WS fun _ PU=>rP 2 [0,1] (mc 8 U (mc 5 U mn)) ?_
   refine cX (uK gw b) (aI) U fun V0 V8=>?_
   obtain ⟨Cx,C2⟩:=V0
   try dsimp only
   refine RK PU<|av<|kl 11 U (by exact fun _ h=>h)<|kl 13 U (by exact fun _ h=>h)<|kl 15 U (by exact fun _ h=>h)<|kl 12 U (by exact fun _ h=>h) ?_
   refine nG (L0:=[(0,(vP gw)),(1,(vP W)),(2,(vI (ln.ae.n:Int))),(12,(vP gq)),(13,(vP J5)),(14,(vP J6)),(171,(vP B3))]) (F:=[(rd e_A e.length 1 (e.map iC)).ro,(rd t_A tms.length 1 (List.zipWith gD tms tb)).ro,(eW (aV ru tms tb)).ro,(bV gw 274 (bW.cells (bW.mk ln ri (br.mk e_A e.length e_C) (br.mk t_A tms.length t_C) (br.mk fA (ln.ae.n+1) (ln.ae.n+1)) (br.mk bA (ln.ae.n+1) (ln.ae.n+1))))).ro,(bV Cx 263 [(vP gw)]),(bV C2 3 [(vI (b:Int))])]) (fun k (y:FM)=>(nq (cE ln ri e tms) b mb left y (t,v) k)) (fun k y=>[(bV J6 3 [(vI v)]),(bV J5 280 (aB.cells t)),(yZ dU B3 ga (bK iV mb) (bK iV (cq left t)) (some (t,(vI v)))),(bw (fp nT bs bb 0)),(gW dU A (bK iV y)),(bV gq 3 [(vI (b:Int))]),(bw (V.map lF)),(bV gw 274 (bW.cells (bW.mk ln ri (br.mk e_A e.length e_C) (br.mk t_A tms.length t_C) (br.mk fA (ln.ae.n+1) (ln.ae.n+1)) (br.mk bA (ln.ae.n+1) (ln.ae.n+1))))).ro,(bV W 263 [(vP gw)]),(rd e_A e.length 1 (e.map iC)).ro,(rd t_A tms.length 1 (List.zipWith gD tms tb)).ro,(eW (aV ru tms tb)).ro,(own bA (ln.ae.n+1) 278 1 (List.map oC (gY (A::bb) (ln.ae.n+1)))),(bw (aV nT fs fb)),(own fA (ln.ae.n+1) 278 1 (List.map oC (eo fb (ln.ae.n+1))))]) (fun _ (_:Unit)=>False) (fun _ _=>[]) [6,7,8,9,10,11,12,13,14,15,16,17,18,19,20] [3,2,1,0,4,5] m rfl rfl (r9 ln ri e tms e_A e_C tb t_A t_C fA (ln.ae.n+1) (ln.ae.n+1) bA (ln.ae.n+1) (ln.ae.n+1) gw b Cx C2 I I) rfl rfl rfl (by exact nq.start K L) (by simp only [List.forall_mem_cons,List.not_mem_nil,false_imp_iff,implies_true,and_true]; exact ⟨⟨_,aR (i:=0) rfl,(dD (bP _))⟩,⟨_,aR (i:=1) rfl,(dD (bP _))⟩,⟨_,aR (i:=2) rfl,(dD (bP _))⟩,⟨_,aR (i:=3) rfl,(dD (bP _))⟩,⟨_,aR (i:=4) rfl,(bP _)⟩,⟨_,aR (i:=5) rfl,(bP _)⟩⟩) (by rintro k x k2 ⟨o,_,rfl,_⟩; rfl) rfl (aT rfl) ?_ ?_ (fun _ _ _ h=>h.elim) (fun _ _ h=>h.elim)
   rotate_left 1
   ·rintro ST k O A2 A6
    have D:=A6
    try dsimp only
    refine aG<|aG<|KT (X:=V.map lF) 13 0 U U ?_
    try dsimp only
    refine gT 9 U x3 U ?_
    refine aS (K8 ⟨((cq left t),O,(ST::V)),⟨mh J,D.on,D.next In hm A2⟩⟩ _ _ _ U (eN hm) (aT U) (aH [9,10,11,12,0,4,14,1,2,3,18,19,20]))
   rintro k x k2 O l ra rb S w1 K95 Qr96 VS hx H1 Pi AB VZ V2
   obtain ⟨o,ho,rfl,rfl⟩:=hx
   have D:=H1
   try dsimp only
   refine WS fun _ Pl=>rP 1 [] mn ?_
   refine RK Pl<|aj<|AL U de fun WA=>fP U cm U<|aC<|jC (fun _ _ h=>h) (aH [1,0,2,3,4,5,6,7,8,9,10,11,12,13,14,15,16])<|aS (Pi _ _ ?_)
   refine av<|ah fun _ Di=>dG cu [16,18] [] [] [0,1,2,3,4,5,6,7,8,9,10,11,12,13,14,15,16] [] U U U U U<|eS U (Dy 2 U bX U)<|eS U (FA 1 U fu U)<|eS U (L1 (vI o.2.Hi) 1 U bX U U) ?_
   have hp:=E.Un (b:=b) I N (J _ hm)
   have UR:=JR hw hp
   have VO:=uf o.1
   have VR:=hw.opt ho
   dsimp only at UR
   refine eS U (MN U)<|eS U (Dy 10 U bX U)<|eS U (SX (bI U U) U U)<|eS U (FA 10 U fu U)<|eS U (Ii (vS e_A e.length e_C) 9 U bX U U)<|eS U (Dy 7 U bX U) ?_
   obtain ⟨y,hy⟩:=aJ e b I
   have I0:=bG iC hy
   refine eS U (IA b U (aD 11 U) cp dc I I)<|eS U (fV b 0 (vI y) U bX (aD 11 U) I0 U dc U) ?_
   have UW:=hw.least y (aR hy)
   refine eS U (BI U (rO ⟨I,I⟩))<|eS U (LW 3 U bX U U)<|eS U (MV U)<|eS U (CL (JD o.1) (aI) U)<|eS U (CL (v_ t (fc o.1) I I) (aI) U)<|eS U (AG U)<|eV U<|bY U fun T101 Fn=>AL U tW fun V3=>aC (Fn _ _ (aH [1,2,3,4,5,6,7,8,9,10,11,12,13,14,15,16,17]) ?_)
   refine bY U fun T103 F0=>fP U rE U<|aC (F0 _ _ (aH [1,2,3,4,5,6,7,8,9,10,11,12,13,14,15,16,17]) ?_)
   refine fF U<|KK Di<|ah fun _ Do=>dB cu 14 kr<|mL 1 [] (mc 11 U mn) U<|dS (SX (bI U U) U U)<|dP 3 [0,1] (mr 10 U (mc 8 U mn)) ?_
   have IO:(List.map oC (gY (A::bb) (ln.ae.n+1)))[b]? =some (oC (some A)):=rN (ua (i:=0) rfl (by simp; omega))
   refine dS (IA b U (ai (n:=(ln.ae.n+1)) 15 U sq) oj dc I I) ?_
   refine dS (fV b 0 (Value.map (some A)) U bX (ai (n:=(gY (A::bb) (ln.ae.n+1)).length) 15 U sm) IO U dc U)<|mL 1 [] (mc 0 U mn) U<|dS (SX (jN (kV:=dU) (x:=(dk t (fc o.1))) (l:=O) (f:=iV) (z:=0) U U U oU oS VD (by exact aD 7 U)) U U)<|lz 5 U<|cM<|RK Do<|WS fun _ Y=>fw 3 [0,1] (mc 3 U (mc 2 U mn)) U<|rS (MN U)<|rP 4 [] (mc 2 U mn) ?_
   refine bZ (t:=217) U (aL fun T=>?_) (aM fun T=>?_)
   ·refine rP 8 [] mn ?_
    refine RK Y<|aW U<|b_<|aG ?_
    exact AB O _ _ (by exact D.skip (NR T)) (aH [1,3,4,5,6,7,8,9,10,11,12,13,14,15,16,17])
   refine rP 3 [] mn ?_
   refine cQ (t:=220) U (fun AA=>?_) (fun AA=>?_)
   ·rw [Bool.not_eq_true'] at AA
    refine bf 5 U<|RK Y<|aO U<|dB cu 9 kr<|mL 1 [] (mc 11 U mn) U<|dS (SX (bI U U) U U)<|dP 3 [0,1] (mr 10 U (mc 8 U mn)) ?_
    have IR:(List.map oC (gY (A::bb) (ln.ae.n+1)))[b]? =some (oC (some A)):=rN (ua (i:=0) rfl (by simp; omega))
    refine dS (IA b U (ai (n:=(ln.ae.n+1)) 15 U sq) oj dc I I) ?_
    refine dS (fV b 0 (Value.map (some A)) U bX (ai (n:=(gY (A::bb) (ln.ae.n+1)).length) 15 U sm) IR U dc U)<|dP 2 [] (mc 0 U mn) ?_
    refine cM<|g_ (kV:=dU) (x:=(dk t (fc o.1))) (C':=[_,_,_,_,_,_,_,(gW dU A (bK iV (dL O (dk t (fc o.1)) ((min v o.2.Hi)-y)))),_,_,_,_,_,_,_,_,_,_]) 7 U U U U oU oS U (fM _ _ _ _).symm U<|aC<|aG ?_
    exact AB (dL O (dk t (fc o.1)) ((min v o.2.Hi)-y)) _ _ (by exact D.set (by show b<e.length; omega) hp ho (AX hy T) (.inl (by simpa using AA))) (aH [1,3,4,5,6,7,8,9,10,11,12,13,14,15,16,17])
   rw [Bool.not_eq_false'] at AA
   refine rP 5 [] mn ?_
   refine RK Y<|bL U (aL fun AC=>?_) (aM fun AC=>?_)
   ·refine b_<|aG ?_
    exact AB O _ _ (by exact D.ow (AX hy T) (by simpa using AA) AC) (aH [1,3,4,5,6,7,8,9,10,11,12,13,14,15,16,17])
   refine dB cu 9 kr<|mL 1 [] (mc 11 U mn) U<|dS (SX (bI U U) U U)<|dP 3 [0,1] (mr 10 U (mc 8 U mn)) ?_
   have Id:(List.map oC (gY (A::bb) (ln.ae.n+1)))[b]? =some (oC (some A)):=rN (ua (i:=0) rfl (by simp; omega))
   refine dS (IA b U (ai (n:=(ln.ae.n+1)) 15 U sq) oj dc I I) ?_
   refine dS (fV b 0 (Value.map (some A)) U bX (ai (n:=(gY (A::bb) (ln.ae.n+1)).length) 15 U sm) Id U dc U)<|dP 2 [] (mc 0 U mn) ?_
   refine cM<|g_ (kV:=dU) (x:=(dk t (fc o.1))) (C':=[_,_,_,_,_,_,_,(gW dU A (bK iV (dL O (dk t (fc o.1)) ((min v o.2.Hi)-y)))),_,_,_,_,_,_,_,_,_,_]) 7 U U U U oU oS U (fM _ _ _ _).symm U<|aC<|aG ?_
   exact AB (dL O (dk t (fc o.1)) ((min v o.2.Hi)-y)) _ _ (by exact D.set (by show b<e.length; omega) hp ho (AX hy T) (.inr AC)) (aH [1,3,4,5,6,7,8,9,10,11,12,13,14,15,16,17])
  refine dG cu [4,11,12,14] [10] [0,1,2] [0,1,2,3,4,6] [0,1,2,3,4,5,6] U U U U U<|eS U (Dy 1 U bX U)<|eS U (SX (bI U U) U U)<|eS U (FA 12 U fu U)<|eS U (Ii (vS fA (ln.ae.n+1) (ln.ae.n+1)) 0 U bX U U)<|eS U (SX (bh (xs:=[]) (cs:=(aB.cells (aB.mk 0 0))) U U (bg Cv U)) U U)<|eS U (Dy 1 U bX U)<|eS U (SX (bI U U) U U)<|eS U (FA 7 U fu U)<|eS U (FA 7 U fu U)<|eS U (Ii (vI ri.Start) 0 U bX U U) ?_
  obtain ⟨x6,VT⟩:=aJ (List.replicate (ln.ae.n+1) (none:Option Nat)) 0 I
  have hx7m:(List.map oC (List.replicate (ln.ae.n+1) (none:Option Nat)))[0]? =some (oC x6):=by rw [fq,VT]; rfl
  refine fS U (IA 0 U (ai (n:=(ln.ae.n+1)) 5 U sq) oj dc U I) ?_
  refine eV U<|iE U fun T8 GE=>l7 (kV:=dU) U U fun r=>?_
  try dsimp only
  refine aC (GE _ _ (aH [1,2,3,4,5,7]) (aH [1,2,3,4,5,6,7]) ?_)
  refine iE U fun T10 G=>?_
  have Rb:(dL ([]:List (aB×Int)) (aB.mk 0 0) ri.Start)=[((aB.mk 0 0),ri.Start)]:=by rfl
  refine yF (kV:=dU) (x:=(aB.mk 0 0)) (C':=[(gW dU r (bK iV ([((aB.mk 0 0),ri.Start)]))),_,_,_,_,_,_,_]) 0 U U U U oU oS U ((fM _ _ _ _).symm.trans (congrArg _ Rb)) U<|aC (G _ _ (aH [1,2,3,4,5,7]) (aH [1,2,3,4,5,6,7]) ?_)
  refine iE U fun T12 P1=>rS (MV U)<|aC (P1 _ _ (aH [1,2,3,4,5,7]) (aH [1,2,3,4,5,6,7]) ?_)
  refine bY U fun T13 P3=>?_
  have Rz:((List.replicate (ln.ae.n+1) (none:Option Nat)).set 0 (some r))=(eo [r] (ln.ae.n+1)):=by rw [yK]; exact uH rfl sm
  refine ew (k:=0) (o:=0) (vs:=[(Value.map (some r))]) (es':=(List.map oC (eo [r] (ln.ae.n+1)))) (C':=[_,_,_,_,_,_,(own fA (ln.ae.n+1) 278 1 (List.map oC (eo [r] (ln.ae.n+1)))),_]) 6 U U U KD U U U U hx7m U dc (by exact (List.map_set (f:=oC) (l:=(List.replicate (ln.ae.n+1) (none:Option Nat))) (i:=0) (a:=(some r))).symm.trans (congrArg _ Rz)) U<|aC (P3 _ _ (aH [1,2,3,4,5,7]) ?_)
  refine fF U<|Ec<|Cq (X:=[]) (X':=aV nT [[((aB.mk 0 0),ri.Start)]] [r]) 0 1 U U U ?_
  try dsimp only
  refine aS (jC (aT U) (aH [1,2,3,4,5,7,0,6]) (UQ ⟨r,trivial⟩))
 refine pG cu [0,1,2,3,5,6,8,9,11,12] [4,7,10,13] [false,false,false,false,false,false,false,false,false,false] [] [(bV W 263 [(vP gw)]),(rd e_A e.length 1 (e.map iC)).ro,(rd t_A tms.length 1 (List.zipWith gD tms tb)).ro,(eW (aV ru tms tb)).ro] [] kr (aH [0,2,3,4]) (aH [])<|eS U (Dy 0 U bX U)<|eS U (Dy 0 U bX U)<|eS U (MV U)<|eS U (BI U (ic ⟨I,I⟩))<|eS U (MV U)<|eS U (BI U (ic ⟨I,I⟩))<|eS U (SX (bI U U) U U)<|eS U (FA 12 U fu U)<|eS U (SX (bI U U) U U)<|eS U (FA 13 U fu U)<|eV U<|iH [4,7] kr (eE ?_<|eE ?_<|km)
 rotate_left 1
 ·refine NO U U [4,10,13] fun T5 F6=>?_
  refine wP (n:=(ln.ae.n+1)) (es:=(List.map oC (List.replicate (ln.ae.n+1) (none:Option Nat)))) U U U Dd I I (by simp only [maxLen]; omega) (by rw [List.map_replicate]; rfl) U fun b6=>?_
  try dsimp only
  refine aC (F6 _ _ (aH [1,3,4,5]) ?_)
  refine N1 4<|NO U U [10,13] fun T7 A1=>?_
  refine wP (n:=(ln.ae.n+1)) (es:=(List.map oC (List.replicate (ln.ae.n+1) (none:Option Nat)))) U U U Dd I I (by simp only [maxLen]; omega) (by rw [List.map_replicate]; rfl) U fun b8=>?_
  try dsimp only
  refine aC (A1 _ _ (aH [2,4,5,6]) ?_)
  refine N1 10<|NO U U [13] fun T9 GT=>RC (bW.cells (bW.mk ln ri (br.mk e_A e.length e_C) (br.mk t_A tms.length t_C) (br.mk (some ⟨b8,0,none⟩) (ln.ae.n+1) (ln.ae.n+1)) (br.mk none 0 0))) U yY U U<|aC (GT _ _ (aH [2,4,5,6]) ?_)
  refine N1 13<|NO U U [] fun T10 G=>RC (bW.cells (bW.mk ln ri (br.mk e_A e.length e_C) (br.mk t_A tms.length t_C) (br.mk (some ⟨b8,0,none⟩) (ln.ae.n+1) (ln.ae.n+1)) (br.mk (some ⟨b6,0,none⟩) (ln.ae.n+1) (ln.ae.n+1)))) U yY U U<|aC (G _ _ (aH [2,4,5,6]) ?_)
  refine pX ?_
  refine aS (jC (aT U) (aH [2,4,5,6,0,1,3]) (EQ ⟨((some ⟨b8,0,none⟩),(some ⟨b6,0,none⟩)),trivial⟩))
 refine NO U U [7,10,13] fun T5 F6=>?_
 refine wP (n:=(ln.ae.n+1)) (es:=(List.map oC (List.replicate (ln.ae.n+1) (none:Option Nat)))) U U U Dd I I (by simp only [maxLen]; omega) (by rw [List.map_replicate]; rfl) U fun b6=>?_
 try dsimp only
 refine aC (F6 _ _ (aH [1,3,4,5]) ?_)
 refine iH [7,10] kr (eE ?_<|eE ?_<|km)
 rotate_left 1
 ·refine NO U U [7,13] fun T7 A1=>VI (bW.cells (bW.mk ln ri (br.mk e_A e.length e_C) (br.mk t_A tms.length t_C) (br.mk (some ⟨b6,0,none⟩) (ln.ae.n+1) (ln.ae.n+1)) (br.mk none 0 0))) U yY U U<|aC (A1 _ _ (aH [1,3,4,5]) ?_)
  refine N1 7<|NO U U [13] fun T8 GE=>?_
  refine wP (n:=(ln.ae.n+1)) (es:=(List.map oC (List.replicate (ln.ae.n+1) (none:Option Nat)))) U U U Dd I I (by simp only [maxLen]; omega) (by rw [List.map_replicate]; rfl) U fun r=>?_
  try dsimp only
  refine aC (GE _ _ (aH [2,4,5,6]) ?_)
  refine N1 13<|NO U U [] fun T10 G=>RC (bW.cells (bW.mk ln ri (br.mk e_A e.length e_C) (br.mk t_A tms.length t_C) (br.mk (some ⟨b6,0,none⟩) (ln.ae.n+1) (ln.ae.n+1)) (br.mk (some ⟨r,0,none⟩) (ln.ae.n+1) (ln.ae.n+1)))) U yY U U<|aC (G _ _ (aH [2,4,5,6]) ?_)
  refine pX ?_
  refine aS (jC (aT U) (aH [2,4,5,6,1,0,3]) (EQ ⟨((some ⟨b6,0,none⟩),(some ⟨r,0,none⟩)),trivial⟩))
 refine NO U U [10,13] fun T7 A1=>?_
 refine wP (n:=(ln.ae.n+1)) (es:=(List.map oC (List.replicate (ln.ae.n+1) (none:Option Nat)))) U U U Dd I I (by simp only [maxLen]; omega) (by rw [List.map_replicate]; rfl) U fun b8=>?_
 try dsimp only
 refine aC (A1 _ _ (aH [2,4,5,6]) ?_)
 refine N1 10<|NO U U [13] fun T9 GT=>RC (bW.cells (bW.mk ln ri (br.mk e_A e.length e_C) (br.mk t_A tms.length t_C) (br.mk (some ⟨b6,0,none⟩) (ln.ae.n+1) (ln.ae.n+1)) (br.mk none 0 0))) U yY U U<|aC (GT _ _ (aH [2,4,5,6]) ?_)
 refine N1 13<|NO U U [] fun T10 G=>RC (bW.cells (bW.mk ln ri (br.mk e_A e.length e_C) (br.mk t_A tms.length t_C) (br.mk (some ⟨b6,0,none⟩) (ln.ae.n+1) (ln.ae.n+1)) (br.mk (some ⟨b8,0,none⟩) (ln.ae.n+1) (ln.ae.n+1)))) U yY U U<|aC (G _ _ (aH [2,4,5,6]) ?_)
 refine pX ?_
 refine aS (jC (aT U) (aH [2,4,5,6,1,0,3]) (EQ ⟨((some ⟨b6,0,none⟩),(some ⟨b8,0,none⟩)),trivial⟩))
end
section
open Go.RowKit
theorem D3 (l:a_) (kA:OA) (kC:Nat) (az:List RA) (cA:OA) (cC:Nat) (bA:OA) (bC g1:Nat) (bm:Int) (g2:Nat) (hin:er l az):
 dT Tryz.prog 206 [(vP g1),(vP g2)] [(rd kA l.aP.length 9 (l.aP.map al.cells)),(rd cA l.ak.length 2 (List.zipWith ar.cells l.ak az)),(eW (aV ar.g0 l.ak az)),(rd bA l.ae.length 4 (l.ae.map bD.cells)),(bV g1 31 (ck.cells (lk l kA kC cA cC bA bC))),(bV g2 3 [(vI bm)])] (vI (jF l bm)):=by
 have K:=hin.sH
 have J:=hin.sI
 have H:=hin.oF
 have AA:=hin.sG
 refine bx kr Tryz.func206 U U fun L Q hQ hN=>?_
 try dsimp only
 refine WS fun _ B=>bf 1 U<|RK B<|ah fun _ C=>WS fun _ D=>rP 5 [0,1] (mr 4 U (mr 5 U mn)) ?_
 refine cY (xs:=[.tmp 7]) (cs:=[(vI bm)]) U cp ja U U U U (by simp [Value.cells]) U U fun G=>?_
 refine rS (CL (dT.eq (iQ 0 ((l.ae.length:Int)-1) ([bm]) (some ⟨G,0,none⟩) 1 (by (simp; done))) cS) (aw (aZ 0 U U (by simp [bB]) U)<|aI) U) ?_
 refine rP 1 [] mn ?_
 refine RK D<|cy U (bp fun A=>?_) (bq fun A=>?_)
 ·refine WS fun _ E=>rP 1 [] mn ?_
  refine RK E<|an<|Q1 hQ U U U ?_
  exact cI (if_neg I).symm
 refine WK C<|WS fun _ F=>rP 1 [] mn ?_
 refine RK F<|an<|Q1 hQ U U U ?_
 exact cI (if_pos I).symm
end
section
open Go.RowKit
theorem Oa (l:a_) (kA:OA) (kC:Nat) (az:List RA) (cA:OA) (cC:Nat) (bA:OA) (bC:Nat) (r:cw) (sgA:OA) (sgC:Nat) (f:Value) (X:aq) (me:Int) (gm:Nat) (hf:Em Tryz.prog f [] [X] (.int .i64 me)) (hin:er l az) (hsl:r.ag.length≤1000000):
 ly Tryz.prog 205 [(vA (ck.cells (lk l kA kC cA cC bA bC))),(vA (eB.cells (mG r sgA sgC))),(vS (some ⟨gm,0,none⟩) 1 1)] [(rd kA l.aP.length 9 (l.aP.map al.cells)),(rd cA l.ak.length 2 (List.zipWith ar.cells l.ak az)),(eW (aV ar.g0 l.ak az)),(rd bA l.ae.length 4 (l.ae.map bD.cells)),(rd sgA r.ag.length 2 (r.ag.map aK.cells)),X,(bV gm 266 [f])] (fun (x:Bool×Int×Nat×(OA)×Nat×(OA)×Nat×(List Nat)×(List FM)×(List Nat)×(OA)×Nat×(List FM)×(List Nat)×(OA)×Nat)=>bif x.1 then (vT [(Value.pointer (some ⟨x.2.2.1,0,none⟩)),(vI 0)]) else (vT [(Value.pointer none),(vI x.2.1)])) (fun (x:Bool×Int×Nat×(OA)×Nat×(OA)×Nat×(List Nat)×(List FM)×(List Nat)×(OA)×Nat×(List FM)×(List Nat)×(OA)×Nat)=>(x.1=true→(eu l r me=0∧xn (cj l r) x.2.2.2.2.2.2.2.2.1∧uw (cj l r) x.2.2.2.2.2.2.2.2.2.2.2.2.1∧x.2.2.2.2.2.2.2.2.2.1.length=x.2.2.2.2.2.2.2.2.1.length∧x.2.2.2.2.2.2.2.2.2.2.2.2.2.1.length=x.2.2.2.2.2.2.2.2.2.2.2.2.1.length∧x.2.2.2.2.2.2.2.1.length=(dN l r.ag r.ag.length).length))∧(x.1=false→(x.2.1=eu l r me∧ ¬ eu l r me=0))) (fun (x:Bool×Int×Nat×(OA)×Nat×(OA)×Nat×(List Nat)×(List FM)×(List Nat)×(OA)×Nat×(List FM)×(List Nat)×(OA)×Nat)=>bif x.1 then [(bV x.2.2.1 274 (bW.cells (bW.mk (lk l kA kC cA cC bA bC) (mG r sgA sgC) (br.mk x.2.2.2.1 ((cG l l.ae.length).length) x.2.2.2.2.1) (br.mk x.2.2.2.2.2.1 ((dN l r.ag r.ag.length).length) x.2.2.2.2.2.2.1) (br.mk x.2.2.2.2.2.2.2.2.2.2.1 x.2.2.2.2.2.2.2.2.1.length x.2.2.2.2.2.2.2.2.2.2.2.1) (br.mk x.2.2.2.2.2.2.2.2.2.2.2.2.2.2.1 x.2.2.2.2.2.2.2.2.2.2.2.2.1.length x.2.2.2.2.2.2.2.2.2.2.2.2.2.2.2)))),(own x.2.2.2.1 x.2.2.2.2.1 3 1 ((cG l l.ae.length).map iC)),(own x.2.2.2.2.2.1 x.2.2.2.2.2.2.1 64 1 (List.zipWith gD (dN l r.ag r.ag.length) x.2.2.2.2.2.2.2.1)),(bw (aV ru (dN l r.ag r.ag.length) x.2.2.2.2.2.2.2.1)),(own x.2.2.2.2.2.2.2.2.2.2.1 x.2.2.2.2.2.2.2.2.2.2.2.1 278 1 (List.zipWith gD x.2.2.2.2.2.2.2.2.1 x.2.2.2.2.2.2.2.2.2.1)),(bw (aV nT x.2.2.2.2.2.2.2.2.1 x.2.2.2.2.2.2.2.2.2.1)),(own x.2.2.2.2.2.2.2.2.2.2.2.2.2.2.1 x.2.2.2.2.2.2.2.2.2.2.2.2.2.2.2 278 1 (List.zipWith gD x.2.2.2.2.2.2.2.2.2.2.2.2.1 x.2.2.2.2.2.2.2.2.2.2.2.2.2.1)),(bw (aV nT x.2.2.2.2.2.2.2.2.2.2.2.2.1 x.2.2.2.2.2.2.2.2.2.2.2.2.2.1))] else []):=by
 have Sz:=hin.sH
 have SQ:=hin.sI
 have R8:=hin.oF
 have R9:=hin.sG
 have ST:=hin.side
 refine dj kr Tryz.func205 U U fun w0 Q hQ hN=>?_
 try dsimp only
 refine WS fun _ PF=>fK U fun b2=>fK U fun b3=>bf 2 U<|RK PF<|ah fun _ PP=>WS fun _ PU=>fw 1 [] (mc 1 U mn) U<|rS (CL (Bw l kA kC az cA cC bA bC hin) (bj [2,3,4,5]) U)<|bf 1 U<|RK PU<|WS fun _ Pi=>rP 2 [] mn ?_
 refine RK Pi<|cy U (bp fun h=>?_) (bq fun h=>?_)
 ·refine WS fun _ Pl=>rP 3 [] mn ?_
  refine RK Pl<|an<|LX hQ (false,(dq l),0,none,0,none,0,[],[],[],none,0,[],[],none,0) [] [] mn U (by rfl) U U ?_
  exact ry<|II (n8 (r:=r) (me:=me) h) h
 refine WK PP<|ah fun _ P1=>WS fun _ AK=>?_
 have C:dq l=0:=h
 obtain ⟨La,d⟩:=gF C
 have QA:=d.head
 unfold gn at QA
 refine rP 2 [] (mc 0 U mn) ?_
 refine cY (xs:=[.tmp 24]) (cs:=[(vI r.Start)]) U cp ja U U U U (by simp [Value.cells]) U U fun L2=>?_
 refine rS (CL (dT.eq (iQ 0 86400000 ([r.Start]) (some ⟨L2,0,none⟩) 1 (by (simp; done))) cS) (aw (aZ 0 U U (by simp [bB]) U)<|aI) U) ?_
 refine rP 2 [] mn ?_
 refine cQ (t:=28) U (bp fun NU=>?_) (bq fun NU=>?_)
 ·refine bf 14 U<|RK AK<|aO U<|WS fun _ A5=>rP 2 [] mn ?_
  refine RK A5<|an<|LX hQ (false,51,0,none,0,none,0,[],[],[],none,0,[],[],none,0) [] [] mn U (by rfl) U U ?_
  exact ry<|pS (jg (me:=me) C (fun q:e7 l r=>by have q1:=q.time; have q2:=q.len; omega))
 refine rP 4 [] (mc 1 U mn) ?_
 refine cY (xs:=[.tmp 32]) (cs:=[(vI r.fZ)]) U cp ja U U U U (by simp [Value.cells]) U U fun L3=>?_
 refine rS (CL (dT.eq (iQ r.Start 86400000 ([r.fZ]) (some ⟨L3,0,none⟩) 1 (by (simp; done))) cS) (aw (aZ 0 U U (by simp [bB]) U)<|aI) U) ?_
 refine rP 3 [] mn ?_
 refine cQ (t:=37) U (bp fun OP=>?_) (bq fun OP=>?_)
 ·refine bf 5 U<|RK AK<|aO U<|WS fun _ A6=>rP 2 [] mn ?_
  refine RK A6<|an<|LX hQ (false,51,0,none,0,none,0,[],[],[],none,0,[],[],none,0) [] [] mn U (by rfl) U U ?_
  exact ry<|pS (jg (me:=me) C (fun q:e7 l r=>by have q1:=q.time; have q2:=q.len; omega))
 refine rP 5 [] (mc 2 U mn) ?_
 refine RK AK<|cy U (aM fun Op=>?_) (aL fun Op=>?_)
 ·refine WS fun _ A7=>rP 2 [] mn ?_
  refine RK A7<|an<|LX hQ (false,51,0,none,0,none,0,[],[],[],none,0,[],[],none,0) [] [] mn U (by rfl) U U ?_
  exact ry<|pS (jg (me:=me) C (fun q:e7 l r=>by have q1:=q.time; have q2:=q.len; omega))
 refine WK P1<|WS fun _ A8=>rS (SX (bh (xs:=[(0,.const (vI (-1)))]) (cs:=(aK.cells (aK.mk (-1) 0))) U U (bg Fc U)) U U)<|AL U F7 fun V=>fP U wQ U<|RK A8<|ah fun _ A9=>dG cu [5,6,7,8] [] [] [0,1,2,3,4,5,6,7,8,9,10,11] [] U U U U U<|eS U (LW 4 U bX U U)<|eS U (LW 3 U bX U U)<|eS U (FA 3 U fu U)<|eS U (L1 (vS bA l.ae.length bC) 4 U bX U U)<|eS U (LN U QN)<|eV U<|bY U fun T18 Ij=>?_
 refine wP (n:=l.ae.length) (es:=(List.map oC (List.replicate l.ae.length (none:Option Nat)))) U U U Si I I (by simp only [maxLen]; omega) (by rw [List.map_replicate]; rfl) U fun B=>?_
 try dsimp only
 refine aC (Ij _ _ (aH [1,2,3,4,5,6,7,8,9,10,11,12]) ?_)
 refine bY U fun T20 In=>rS (SX (bh (xs:=[(0,.tmp 44),(1,.tmp 45),(3,.tmp 49)]) (cs:=(bW.cells (bW.mk (lk l kA kC cA cC bA bC) (mG r sgA sgC) (br.mk none 0 0) (br.mk (some ⟨B,0,none⟩) l.ae.length l.ae.length) (br.mk none 0 0) (br.mk none 0 0)))) U U (bg Tv U)) U U)<|aC (In _ _ (aH [1,2,3,4,5,6,7,8,9,10,11,12]) ?_)
 refine bY U fun T21 I0=>fK U fun AB=>aC (I0 _ _ (aH [2,3,4,5,6,7,8,9,10,11,12,13]) ?_)
 refine bY U fun T23 JL=>rS (AG U)<|aC (JL _ _ (aH [2,3,4,5,6,7,8,9,10,11,12,13]) ?_)
 refine fF U<|KK A9<|ah fun _ BX=>WS fun _ B3=>rP 4 [] (mc 6 U mn) ?_
 refine RK B3<|av ?_
 rw [yK]
 refine fQ 3 1<|oG ?_
 have E:(0≤l.ae.length)∧(([]:List Nat).length=0):=by exact ⟨Nat.zero_le _,rfl⟩
 refine bH (ι:={z:Nat×(OA)×Nat×(List Nat) // (z.1≤l.ae.length)∧(z.2.2.2.length=z.1)}) [2,3,4,6,7,9,10,54] [4,7,8,9,10,11,12,13,14,15] U U (fun z=>[(55,(vI (z.1.1:Int)))]) (fun z=>[(bw (aV ru (List.replicate z.1.1 ([]:TM)) z.1.2.2.2)),(own z.1.2.1 z.1.2.2.1 3 1 ((cG l z.1.1).map iC)),(bV AB 274 (bW.cells (bW.mk (lk l kA kC cA cC bA bC) (mG r sgA sgC) (br.mk z.1.2.1 ((cG l z.1.1).length) z.1.2.2.1) (br.mk (some ⟨B,0,none⟩) l.ae.length l.ae.length) (br.mk none 0 0) (br.mk none 0 0)))),(own (some ⟨B,0,none⟩) l.ae.length 64 1 (List.map oC (eo z.1.2.2.2 l.ae.length)))]) (fun _=>rfl) (fun _=>rfl) (fun z=>l.ae.length-z.1.1) ⟨(0,none,0,([]:List Nat)),E⟩ (aT U) (aH [4,7,8,9,10,11,12,13,14,15,0,1,2,3]) ?_
 clear E
 rintro ⟨⟨b,a,c,fb⟩,⟨AO,Y⟩⟩ J26 A4
 try dsimp only at AO Y
 try dsimp only
 have QF:(eo fb l.ae.length).length=l.ae.length:=qZ I
 refine WS fun _ B7=>rP 1 [] mn ?_
 refine RK B7<|ah fun _ B9=>cy U (aM fun Ne=>?_) (aL fun Ne=>?_)
 ·refine WK B9<|ah fun _ Ci=>av<|WS fun _ Ck=>rP 2 [] mn ?_
  refine RK Ck<|ah fun _ Cp=>dG cu [12,13,16] [4] [0] [0,1,2,3,4,5,6,7,8,9,10,13] [0,1,2,3,4,5,6,7,8,9,10,11,12,13] U U U U U<|eS U (MV U)<|eS U (MV U)<|eS U (SX (bI U U) U U)<|eS U (FA 10 U fu U)<|fS U (L1 (vS a ((cG l b).length) c) 12 U bX U U)<|eS U (LW 2 U bX U U)<|eS U (MV U)<|eS U (CL (Pt l kA kC az cA cC bA bC (b:Int) hin asm (by exact d.vM) I) (bj [3,4,5,6]) U) ?_
  have S1:=FT La d.vM b
  have S2:=d.Rb b I
  simp only [Int.toNat_natCast]
  refine eS U (BI U (Fe ⟨I,I⟩))<|eS U (FA 1 U fu U)<|eS U (L1 (vI l.hE) 2 U bX U U) ?_
  refine eS U (CL (Pb (1000*(lW l (b:Int).toNat)) l.hE I (by (simp; omega))) (aI) U) ?_
  refine eS U (SX (bI U U) U U)<|eS U (FA 10 U fu U)<|eV U<|iE U fun T33 J2=>cY (xs:=[.tmp 69]) (cs:=[(vI (pa (1000*(lW l (b:Int).toNat)) l.hE))]) U cp ja U U U U (by simp [Value.cells]) U U fun R4=>aC (J2 _ _ (aH [1,2,3,4,5,6,7,8,9,10,11,14]) (aH [1,2,3,4,5,6,7,8,9,10,11,12,13,14]) ?_)
  refine bY U fun T35 J3=>?_
  refine db (es2:=(List.map iC (cG l (b+1)))) (m':=(cG l (b+1)).length) 12 U U U p7 U U (by simp [dV]) (aZ (es:=List.map iC [(pa (1000*(lW l (b:Int).toNat)) l.hE)]) 0 U U (by simp [bB]) U) (kf _) (by have:=dV (l:=l) (n:=b); first|omega|(simp; omega)) (by simp only [maxLen,dV]; omega) (by rw [u0]; simp [dQ]) (by simp [dV]) U fun e g=>?_
  try dsimp only
  refine aC (J3 _ _ (aH [1,2,3,4,5,6,7,8,9,10,11,14]) ?_)
  refine bY U fun T38 J4=>jm (vs:=[(vS e ((cG l (b+1)).length) g)]) (cs':=(bW.cells (bW.mk (lk l kA kC cA cC bA bC) (mG r sgA sgC) (br.mk e ((cG l (b+1)).length) g) (br.mk (some ⟨B,0,none⟩) l.ae.length l.ae.length) (br.mk none 0 0) (br.mk none 0 0)))) (C':=[_,_,_,_,_,_,_,_,_,_,_,_,_,(bV AB 274 (bW.cells (bW.mk (lk l kA kC cA cC bA bC) (mG r sgA sgC) (br.mk e ((cG l (b+1)).length) g) (br.mk (some ⟨B,0,none⟩) l.ae.length l.ae.length) (br.mk none 0 0) (br.mk none 0 0)))),_]) 13 U U U AM U U U U U U U<|aC (J4 _ _ (aH [1,2,3,4,5,6,7,8,9,10,11,14]) ?_)
  refine fF U<|KK Cp<|aj<|bf 1 U<|rS (SX (bI U U) U U)<|rP 3 [] (mc 13 U mn) ?_
  refine l7 (kV:=iV) U U fun J=>?_
  try dsimp only
  obtain ⟨Qr,Lk⟩:=aJ (eo fb l.ae.length) b I
  have hx41m:(List.map oC (eo fb l.ae.length))[b]? =some (oC Qr):=by rw [fq,Lk]; rfl
  refine rS (IA b U (ai (n:=l.ae.length) 15 U sq) FF dc I I) ?_
  have J5:((eo fb l.ae.length).set b (some J))=(eo (fb++[J]) l.ae.length):=by exact uH I I
  refine ew (k:=b) (o:=0) (vs:=[(Value.map (some J))]) (es':=(List.map oC (eo (fb++[J]) l.ae.length))) (C':=[_,_,_,_,_,_,_,_,_,_,_,_,_,_,_,(own (some ⟨B,0,none⟩) l.ae.length 64 1 (List.map oC (eo (fb++[J]) l.ae.length)))]) 15 U U U NY U U U U hx41m U dc (by exact (List.map_set (f:=oC) (l:=(eo fb l.ae.length)) (i:=b) (a:=(some J))).symm.trans (congrArg _ J5)) U<|aC<|aG<|KK Ci<|aj<|rP 2 [] mn ?_
  refine aC<|Cq (X':=aV ru (List.replicate (b+1) ([]:TM)) (fb++[J])) 12 0 U U (OK Y) ?_
  try dsimp only
  have J6:(vI (((b+1):Nat):Int))=(vI ((b:Int)+1)):=by exact cI I
  refine aS (A4 ⟨((b+1),e,g,(fb++[J])),⟨I,by simp; omega⟩⟩ _ _ _ U os (ct 8<|aX U J6<|dh.nil _) (aH [2,3,4,5,6,7,8,9,10,11,0,12,13,14]))
 refine bu<|ab<|ab<|au<|KK BX<|ah fun _ Cx=>WS fun _ C0=>rP 4 [] (mc 1 U mn) ?_
 refine RK C0<|av ?_
 rw [show (List.replicate b ([]:TM))=dN l r.ag 0 from by rw [DM,show b=l.ae.length by omega]]
 rw [show cG l b=cG l l.ae.length from by rw [show b=l.ae.length by omega]]
 have E:(0≤r.ag.length)∧(qa l r.ag 0):=by exact ⟨Nat.zero_le _,zN⟩
 refine bH (ι:={z:Nat // (z≤r.ag.length)∧(qa l r.ag z)}) [2,3,4,6,7,9,10,83,84] [1,2,3,4,5,6,7,8,9,11,12,13] U U (fun z=>[(85,(vI (z.1:Int)))]) (fun z=>[(bV V 123 (aK.cells (mM r.ag z.1))),(bw (aV ru (dN l r.ag z.1) fb))]) (fun _=>rfl) (fun _=>rfl) (fun z=>r.ag.length-z.1) ⟨0,E⟩ (aT U) (aH [1,2,3,4,5,6,7,8,9,11,12,13,0,10]) ?_
 clear E
 rintro ⟨i,⟨L0,A⟩⟩ J46 T
 try dsimp only
 have QI:(dN l r.ag i).length=l.ae.length:=jk
 have QF:(eo fb l.ae.length).length=l.ae.length:=qZ I
 refine WS fun _ C1=>rP 1 [] mn ?_
 refine RK C1<|ah fun _ C2=>bL U (aL fun Or=>?_) (aM fun Or=>?_)
 ·refine bu<|ab<|ab<|au<|KK Cx<|ah fun _ F0=>ah fun _ F6=>?_
  have j:e7 l r:=Ca I I A I
  refine aj<|bf 3 U<|RK F6<|av<|jX 2<|d_ fun R81 If=>WS fun _ GE=>rS (SX (bU (r:= .bool true) U U U gQ) U U)<|RK GE<|ah fun _ GT=>aO U<|WK GT<|ah fun _ GV=>av<|WS fun _ Go=>rS (TQ 0 0 U OS U dc U)<|fw 2 [] (mr 8 U mn) U<|RK Go<|WS fun _ Hi=>bf 1 U<|rS (SX (sk U U U (hf) (bj [7])) U U)<|bf 1 U<|RK Hi<|WS fun _ H1=>rP 2 [] mn ?_
  refine RK H1<|cy U (bp fun K=>?_) (bq fun K=>?_)
  ·refine WS fun _ IO=>rP 3 [] mn ?_
   refine RK IO<|an<|LX hQ (false,me,0,none,0,none,0,[],[],[],none,0,[],[],none,0) [] [] mn U (by rfl) U U ?_
   exact ry<|II (p8 C j K) K
  refine b_<|aG<|KK GV<|aj<|rS (SX (bU (r:= .int .i64 1) U U U (ic ⟨dc,dc⟩)) U U)<|rP 1 [] mn ?_
  refine RK If<|d_ fun R89 R0=>WS fun _ IR=>rS (SX (bU (r:= .bool false) U U U gQ) U U)<|RK IR<|ah fun _ Rz=>aW U<|bu<|ab<|ab<|au<|KK F0<|ah fun _ Id=>?_
  rw [show dN l r.ag i=dN l r.ag r.ag.length from by rw [show i=r.ag.length by omega]]
  have Ay:(dN l r.ag r.ag.length).length=l.ae.length:=jk
  rw [show (List.map oC (eo fb l.ae.length))=(List.zipWith gD (dN l r.ag r.ag.length) fb) from Uh I Ay]
  rw [show (bV AB 274 (bW.cells (bW.mk (lk l kA kC cA cC bA bC) (mG r sgA sgC) (br.mk a ((cG l l.ae.length).length) c) (br.mk (some ⟨B,0,none⟩) l.ae.length l.ae.length) (br.mk none 0 0) (br.mk none 0 0))))=(bV AB 274 (bW.cells (bW.mk (lk l kA kC cA cC bA bC) (mG r sgA sgC) (br.mk a ((cG l l.ae.length).length) c) (br.mk (some ⟨B,0,none⟩) ((dN l r.ag r.ag.length).length) l.ae.length) (br.mk none 0 0) (br.mk none 0 0)))) from by rw [Ay]]
  have Li:=oN La d j
  have R1:(cG l l.ae.length).length=l.ae.length:=dV
  refine aj<|rP 1 [] mn ?_
  refine iP 10 U U U U (Ir (lk l kA kC cA cC bA bC) (mG r sgA sgC) (cG l l.ae.length) (dN l r.ag r.ag.length) a c fb (some ⟨B,0,none⟩) l.ae.length AB (by exact Li) (by exact dV.symm) (by rw [Ay]; omega)) U (dR 9 U U (j8 sm) (dR 11 U U (j8 (by rw [List.length_zipWith]; omega)) (dR 13 U U tP kd))) U (fun Lo P3=>?_)
  obtain ⟨G,S,P,R,F,O,N,H⟩:=Lo
  refine N9 (X:=[(bV AB 274 (bW.cells (bW.mk (lk l kA kC cA cC bA bC) (mG r sgA sgC) (br.mk a ((cG l l.ae.length).length) c) (br.mk (some ⟨B,0,none⟩) ((dN l r.ag r.ag.length).length) l.ae.length) (br.mk P G.length R) (br.mk N F.length H)))),(own P R 278 1 (List.zipWith gD G S)),(bw (aV nT G S)),(own N H 278 1 (List.zipWith gD F O)),(bw (aV nT F O))]) 10 U U ?_
  try dsimp only
  obtain ⟨An,LE,LS,LT⟩:=P3
  dsimp only at An LE LS LT
  refine RK Id<|ah fun _ v=>WS fun _ w=>rP 1 [] mn ?_
  refine cX (GH (lk l kA kC cA cC bA bC) (mG r sgA sgC) (cG l l.ae.length) (dN l r.ag r.ag.length) a c fb (some ⟨B,0,none⟩) l.ae.length G F S P R O N H AB (by exact Li) (by (simp; omega)) (by exact dV.symm) (by exact An) asm) (aw (ai (n:=(cG l l.ae.length).length) 14 U sm)<|aw (ai (n:=(dN l r.ag r.ag.length).length) 15 U (by rw [List.length_zipWith]; omega))<|aw (cL 17 U xY)<|aw (ai (n:=G.length) 1 U (by rw [List.length_zipWith]; omega))<|aw (cL 2 U xY)<|aw (ai (n:=F.length) 3 U (by rw [List.length_zipWith]; omega))<|aw (cL 4 U xY)<|fD 0 U U<|aI) U fun Ls Ql=>?_
  obtain ⟨Q9,RR⟩:=Ls
  try dsimp only
  refine rP 2 [] mn ?_
  refine RK w<|bL U (aL fun W=>?_) (aM fun W=>?_)
  ·refine WK v<|WS fun _ AC=>rP 3 [] mn ?_
   refine RK AC<|an ?_
   refine LX hQ (true,0,AB,a,c,(some ⟨B,0,none⟩),l.ae.length,fb,G,S,P,R,F,O,N,H) [1,15,16,18,2,3,4,5] [] mn U (by (show List.all _ _=true; simp only [cond_true,fz,List.all_nil,Jg,SO,Bool.and_true]; rfl)) U U ?_
   exact ⟨fun _=>⟨lE C j (by first|rfl|exact K) (fun q=>W (congrArg (fun z:List Int=>(z.length:Int)) q)),An,LE,LS,LT,dso⟩,MT⟩
  refine WS fun _ y=>rP 2 [] mn ?_
  refine RK y<|an<|LX hQ (false,8,0,none,0,none,0,[],[],[],none,0,[],[],none,0) [] [] mn U (by rfl) U U ?_
  exact ry<|pS (pL (me:=me) C j (by first|rfl|exact K) (show jD (cj l r)=[] from jy (Int.natCast_eq_zero.1 W)))
 refine WK C2<|ah fun _ AA=>av<|WS fun _ C3=>rP 1 [] mn ?_
 obtain ⟨x,hx⟩:=aJ r.ag i I
 have QJ:=bG aK.cells hx
 refine rS (IA i U (aD 6 U) zY dc I I)<|rS (oI i 0 (aK.cells x) U bX (aD 6 U) QJ U dc U U)<|AL U F7 fun R5=>bf 1 U<|fP U wQ U<|RK C3<|ah fun _ p=>WS fun _ L=>rP 6 [0,1] (mc 2 U (mc 0 U mn)) ?_
 refine cY (xs:=[.tmp 95]) (cs:=[(vI x.gd)]) U cp ja U U U U (by simp [Value.cells]) U U fun M2=>?_
 refine rS (CL (dT.eq (iQ 0 ((l.ae.length:Int)-1) ([x.gd]) (some ⟨M2,0,none⟩) 1 (by (simp; done))) cS) (aw (aZ 0 U U (by simp [bB]) U)<|aI) U) ?_
 refine rP 2 [] mn ?_
 refine cQ (t:=99) U (bp fun Os=>?_) (bq fun Os=>?_)
 ·refine bf 27 U<|RK L<|aO U<|WS fun _ Di=>rP 2 [] mn ?_
  refine RK Di<|an<|LX hQ (false,51,0,none,0,none,0,[],[],[],none,0,[],[],none,0) [] [] mn U (by rfl) U U ?_
  exact ry<|pS (jg (me:=me) C (wb hx (by unfold kb kY; omega)))
 refine rP 2 [] (mc 1 U mn) ?_
 refine cY (xs:=[.tmp 101]) (cs:=[(vI x.Read)]) U cp ja U U U U (by simp [Value.cells]) U U fun NE=>?_
 refine rS (CL (dT.eq (iQ 0 86400000 ([x.Read]) (some ⟨NE,0,none⟩) 1 (by (simp; done))) cS) (aw (aZ 0 U U (by simp [bB]) U)<|aI) U) ?_
 refine rP 3 [] mn ?_
 refine cQ (t:=106) U (bp fun A0=>?_) (bq fun A0=>?_)
 ·refine bf 20 U<|RK L<|aO U<|WS fun _ Do=>rP 2 [] mn ?_
  refine RK Do<|an<|LX hQ (false,51,0,none,0,none,0,[],[],[],none,0,[],[],none,0) [] [] mn U (by rfl) U U ?_
  exact ry<|pS (jg (me:=me) C (wb hx (by unfold kb kY; omega)))
 refine rP 7 [0,1] (mc 2 U (mc 15 U mn)) ?_
 refine cQ (t:=113) U (aM fun A1=>?_) (aL fun A1=>?_)
 ·refine bf 13 U<|RK L<|aO U<|WS fun _ Dr=>rP 2 [] mn ?_
  refine RK Dr<|an<|LX hQ (false,51,0,none,0,none,0,[],[],[],none,0,[],[],none,0) [] [] mn U (by rfl) U U ?_
  exact ry<|pS (jg (me:=me) C (wb hx (by unfold kb kY; omega)))
 refine rP 6 [0,1] (mc 2 U (mc 15 U mn)) ?_
 refine bZ (t:=119) U (aL fun A2=>?_) (aM fun A2=>?_)
 ·refine bf 7 U<|RK L<|aW U<|WK p<|ah fun _ u=>WS fun _ Fd=>fw 2 [0,1] (mc 4 U (mc 2 U mn)) U<|rS (CL (Kn l kA kC az cA cC bA bC x hin asm I) (bj [5,6,7,8]) U)<|AL U de fun R7=>fP U cm U<|RK Fd<|WS fun _ Fn=>rP 5 [] (mc 0 U mn) ?_
  refine RK Fn<|bL U (aL fun D=>?_) (aM fun D=>?_)
  ·refine WK u<|aj<|rP 1 [] (mc 3 U mn) ?_
   refine jm (vs:=(aK.cells x)) (cs':=(aK.cells x)) (C':=[_,_,_,_,_,_,_,_,_,_,_,_,_,_,_,_,(bV V 123 (aK.cells x)),_]) 16 U U U wQ U U U U U U U<|aC<|aG<|KK AA ?_
   have K5:(aK.cells x)=(aK.cells (mM r.ag (i+1))):=by rw [pf hx]
   rw [K5]
   refine aj<|rP 2 [] mn ?_
   refine aC ?_
   rw [show (dN l r.ag i)=(dN l r.ag (i+1)) from (xQ hx D).symm]
   have K8:(vI (((i+1):Nat):Int))=(vI ((i:Int)+1)):=by exact cI I
   refine aS (T ⟨(i+1),⟨I,lH A hx (by unfold kb kY; omega)⟩⟩ _ _ _ U os (ct 9<|aX U K8<|dh.nil _) (aH [4,5,6,7,8,9,10,11,12,13,14,15,16,17]))
  obtain ⟨mb,Z⟩:=aJ (dN l r.ag i) ((x.gd).toNat) I
  obtain ⟨ga,M⟩:=aJ fb ((x.gd).toNat) I
  refine Gr 17 Z M U U U ?_
  try dsimp only
  refine dB cu 10 kr<|lz 1 U<|dS (SX (bI U U) U U)<|dP 4 [0,1] (mc 16 U (mc 5 U mn)) ?_
  have LA:(List.map oC (eo fb l.ae.length))[(x.gd).toNat]? =some (oC (some ga)):=rN (oT M)
  refine dS (IA ((x.gd).toNat) U (ai (n:=l.ae.length) 17 U sq) FF dc I I) ?_
  refine dS (fV ((x.gd).toNat) 0 (Value.map (some ga)) U bX (ai (n:=(eo fb l.ae.length).length) 17 U sm) LA U dc U)<|mL 2 [] (mc 2 U mn) U<|cM<|g_ (kV:=iV) (x:=(i:Int)) (C':=[(gW iV ga (bK dw (dL mb (i:Int) (cD l x)))),_,_,_,_,_,_,_,_,_,_,_,_,_,_,_,_,_,_]) 0 U U U U mC (dC oJ) U (fM _ _ _ _).symm U<|RK u<|aj<|rP 1 [] (mc 5 U mn) ?_
  refine jm (vs:=(aK.cells x)) (cs':=(aK.cells x)) (C':=[_,_,_,_,_,_,_,_,_,_,_,_,_,_,_,_,_,_,(bV V 123 (aK.cells x))]) 18 U U U wQ U U U U U U U<|aC<|aG<|KK AA ?_
  have K0:(aK.cells x)=(aK.cells (mM r.ag (i+1))):=by rw [pf hx]
  rw [K0]
  refine aj<|rP 2 [] mn ?_
  refine aC ?_
  refine Ld (f:=ru) (ms:=(dN l r.ag i)) (m:=(dL mb (i:Int) (cD l x))) 1 0 (by rw [jk]; omega) M U U U ?_
  rw [yz hx I D Z]
  have K4:(vI (((i+1):Nat):Int))=(vI ((i:Int)+1)):=by exact cI I
  refine aS (T ⟨(i+1),⟨I,lH A hx (by unfold kb kY; omega)⟩⟩ _ _ _ U os (ct 9<|aX U K4<|dh.nil _) (aH [5,6,7,8,9,10,11,12,13,14,15,16,17,0]))
 refine rP 7 [0,1] (mc 2 U (mc 15 U mn)) ?_
 refine RK L<|cy U (aM fun A3=>?_) (aL fun A3=>?_)
 ·refine WS fun _ EQ=>rP 2 [] mn ?_
  refine RK EQ<|an<|LX hQ (false,51,0,none,0,none,0,[],[],[],none,0,[],[],none,0) [] [] mn U (by rfl) U U ?_
  exact ry<|pS (jg (me:=me) C (wb hx (by unfold kb kY; omega)))
 refine WK p<|ah fun _ s=>WS fun _ Eq=>fw 2 [0,1] (mc 4 U (mc 2 U mn)) U<|rS (CL (Kn l kA kC az cA cC bA bC x hin asm I) (bj [5,6,7,8]) U)<|AL U de fun R6=>fP U cm U<|RK Eq<|WS fun _ FS=>rP 5 [] (mc 0 U mn) ?_
 refine RK FS<|bL U (aL fun D=>?_) (aM fun D=>?_)
 ·refine WK s<|aj<|rP 1 [] (mc 3 U mn) ?_
  refine jm (vs:=(aK.cells x)) (cs':=(aK.cells x)) (C':=[_,_,_,_,_,_,_,_,_,_,_,_,_,_,_,_,(bV V 123 (aK.cells x)),_]) 16 U U U wQ U U U U U U U<|aC<|aG<|KK AA ?_
  have J9:(aK.cells x)=(aK.cells (mM r.ag (i+1))):=by rw [pf hx]
  rw [J9]
  refine aj<|rP 2 [] mn ?_
  refine aC ?_
  rw [show (dN l r.ag i)=(dN l r.ag (i+1)) from (xQ hx D).symm]
  have KW:(vI (((i+1):Nat):Int))=(vI ((i:Int)+1)):=by exact cI I
  refine aS (T ⟨(i+1),⟨I,lH A hx (by unfold kb kY; omega)⟩⟩ _ _ _ U os (ct 9<|aX U KW<|dh.nil _) (aH [4,5,6,7,8,9,10,11,12,13,14,15,16,17]))
 obtain ⟨mb,Z⟩:=aJ (dN l r.ag i) ((x.gd).toNat) I
 obtain ⟨ga,M⟩:=aJ fb ((x.gd).toNat) I
 refine Gr 17 Z M U U U ?_
 try dsimp only
 refine dB cu 10 kr<|lz 1 U<|dS (SX (bI U U) U U)<|dP 4 [0,1] (mc 16 U (mc 5 U mn)) ?_
 have K_:(List.map oC (eo fb l.ae.length))[(x.gd).toNat]? =some (oC (some ga)):=rN (oT M)
 refine dS (IA ((x.gd).toNat) U (ai (n:=l.ae.length) 17 U sq) FF dc I I) ?_
 refine dS (fV ((x.gd).toNat) 0 (Value.map (some ga)) U bX (ai (n:=(eo fb l.ae.length).length) 17 U sm) K_ U dc U)<|mL 2 [] (mc 2 U mn) U<|cM<|g_ (kV:=iV) (x:=(i:Int)) (C':=[(gW iV ga (bK dw (dL mb (i:Int) (cD l x)))),_,_,_,_,_,_,_,_,_,_,_,_,_,_,_,_,_,_]) 0 U U U U mC (dC oJ) U (fM _ _ _ _).symm U<|RK s<|aj<|rP 1 [] (mc 5 U mn) ?_
 refine jm (vs:=(aK.cells x)) (cs':=(aK.cells x)) (C':=[_,_,_,_,_,_,_,_,_,_,_,_,_,_,_,_,_,_,(bV V 123 (aK.cells x))]) 18 U U U wQ U U U U U U U<|aC<|aG<|KK AA ?_
 have J7:(aK.cells x)=(aK.cells (mM r.ag (i+1))):=by rw [pf hx]
 rw [J7]
 refine aj<|rP 2 [] mn ?_
 refine aC ?_
 refine Ld (f:=ru) (ms:=(dN l r.ag i)) (m:=(dL mb (i:Int) (cD l x))) 1 0 (by rw [jk]; omega) M U U U ?_
 rw [yz hx I D Z]
 have J8:(vI (((i+1):Nat):Int))=(vI ((i:Int)+1)):=by exact cI I
 refine aS (T ⟨(i+1),⟨I,lH A hx (by unfold kb kY; omega)⟩⟩ _ _ _ U os (ct 9<|aX U J8<|dh.nil _) (aH [5,6,7,8,9,10,11,12,13,14,15,16,17,0]))
end
section
open Go.RowKit
theorem JX (l:a_) (kA:OA) (kC:Nat) (az:List RA) (cA:OA) (cC:Nat) (bA:OA) (bC:Nat) (r:cw) (sgA:OA) (sgC:Nat) (bq_:Int) (hin:er l az) (hsl:r.ag.length≤1000000):
 dT Tryz.prog 204 [(vA (ck.cells (lk l kA kC cA cC bA bC))),(vA (eB.cells (mG r sgA sgC))),(vI bq_)] [(rd kA l.aP.length 9 (l.aP.map al.cells)),(rd cA l.ak.length 2 (List.zipWith ar.cells l.ak az)),(eW (aV ar.g0 l.ak az)),(rd bA l.ae.length 4 (l.ae.map bD.cells)),(rd sgA r.ag.length 2 (r.ag.map aK.cells))] (vT [(vA (aa.cells (eT l r bq_))),(vI (eM l r bq_))]):=by
 have J5:=hin.sH
 have Ij:=hin.sI
 have H1:=hin.oF
 have Id:=hin.sG
 have J3:=hin.side
 refine bx kr Tryz.func204 U U fun w0 Q hQ hN=>?_
 try dsimp only
 refine WS fun _ A0=>fK U fun b2=>fK U fun b3=>um U U fun b4=>AL U de fun b5=>bf 1 U<|RK A0<|WS fun _ p=>rP 2 [0,1] (mc 3 U (mc 2 U mn)) ?_
 refine rS (FU U)<|cY (xs:=[.tmp 17]) (cs:=[(Value.func (.func 206) [].toArray [(vP b2),(vP b4)].toArray)]) U OS SZ U U U U (by simp [Value.cells]) U U fun b7=>cX (Oa l kA kC az cA cC bA bC r sgA sgC (Value.func (.func 206) [].toArray [(vP b2),(vP b4)].toArray) (eW [(rd kA l.aP.length 9 (l.aP.map al.cells)),(rd cA l.ak.length 2 (List.zipWith ar.cells l.ak az)),(eW (aV ar.g0 l.ak az)),(rd bA l.ae.length 4 (l.ae.map bD.cells)),(bV b2 31 (ck.cells (lk l kA kC cA cC bA bC))),(bV b4 3 [(vI bq_)])]) (jF l bq_) b7 (by exact nj (fi:=[]) (ca:=[(vP b2),(vP b4)]) (l3 (D3 l kA kC az cA cC bA bC b2 bq_ b4 (by first|assumption|omega)) (bj [0,1,2,3,4,5]))) hin hsl) (lM [5,6,7,8,9]<|aw (l6 (bj [5,6,7,8,4,2]))<|fD 0 U U<|aI) U fun y8 Cp=>?_
 obtain ⟨Cx,F6,E,H,AB,g,j,m,B,L,J,K,A,G,d,f⟩:=y8
 cases Cx
 ·obtain ⟨B7,he⟩:=Cp.2 rfl
  try dsimp only at B7 he
  subst B7
  try dsimp only [cond_true,cond_false,List.cons_append,List.nil_append]
  refine bf 5 U<|RK p<|ah fun _ GE=>WS fun _ A8=>rP 2 [] mn ?_
  refine RK A8<|bL U (bq fun A7=>?_) (bp fun A7=>?_)
  ·exact absurd A7 he
  refine WS fun _ A9=>rS (SX (bh (xs:=[]) (cs:=(aa.cells (aa.mk 0 0))) U U (bg gp U)) U U)<|bf 1 U<|ub U cm U<|rP 1 [] mn ?_
  refine RK A9<|an<|lj hQ [0] (mc 1 U mn) U ?_
  (have e:=nJ (b:=bq_) he; rw [e.1,e.2]<;>rfl)
 obtain ⟨he,D,C,C3,C2,Dr⟩:=Cp.1 rfl
 try dsimp only [cond_true,cond_false,List.cons_append,List.nil_append]
 dsimp only at D C C3 C2 Dr
 obtain ⟨C1,A4,Do,I0⟩:=jO he
 obtain ⟨EQ,Ci⟩:=gF C1
 have Di:=Ci.head
 unfold gn at Di
 have Eq:=oN EQ Ci A4
 have J2:=A4.time
 have JL:=A4.len
 have B9:(cG l l.ae.length).length=l.ae.length:=dV
 have Ck:(dN l r.ag r.ag.length).length=l.ae.length:=jk
 have In:B.length=l.ae.length+1:=by have:=D.len; rw [show (cj l r).n=l.ae.length from dV] at this; exact this
 have If:A.length=l.ae.length+1:=by have:=C.len; rw [show (cj l r).n=l.ae.length from dV] at this; exact this
 obtain ⟨IO,IR⟩:=DZ Do
 obtain ⟨b,A1⟩: ∃ b:Nat,bq_=(b:Int):=⟨bq_.toNat,I⟩
 rw [A1]
 refine bf 5 U<|RK p<|ah fun _ N=>WS fun _ O=>bf 1 U<|rS (SX (bU (r:= .bool false) U U U mz) U U)<|RK O<|aW U<|WK N<|WS fun _ P=>rS (SX (bh (xs:=[(0,.const (vI 1))]) (cs:=(aa.cells (aa.mk 1 0))) U U (bg gp U)) U U)<|AL U de fun A5=>fP U cm U<|RK P<|WS fun _ R=>fw 1 [] (mc 0 U mn) U<|AL U de fun A6=>fP U cm U<|RK R<|ah fun _ T=>WS fun _ AA=>rP 2 [] (mc 12 U mn) ?_
 obtain ⟨mf,Y⟩:=aJ B b I
 obtain ⟨mb,Z⟩:=aJ A (b+1) I
 refine cX (Ll E b) (aI) U fun Fd GT=>?_
 obtain ⟨AC,AK⟩:=Fd
 try dsimp only
 refine RK AA<|av ?_
 refine nG (L0:=[(3,(vP b2)),(4,(vP b3)),(5,(vP b4)),(6,(vP b5)),(7,(vI 0)),(10,(vP A5)),(11,(vP A6))]) (F:=[(own H AB 3 1 ((cG l l.ae.length).map iC)),(own g j 64 1 (List.zipWith gD (dN l r.ag r.ag.length) m)),(bw (aV ru (dN l r.ag r.ag.length) m)),(own J K 278 1 (List.zipWith gD B L)),(bw (aV nT B L)),(own d f 278 1 (List.zipWith gD A G)),(bw (aV nT A G)),(bV E 274 (bW.cells (bW.mk (lk l kA kC cA cC bA bC) (mG r sgA sgC) (br.mk H ((cG l l.ae.length).length) AB) (br.mk g ((dN l r.ag r.ag.length).length) j) (br.mk J B.length K) (br.mk d A.length f)))),(bV AC 263 [(vP E)]),(bV AK 3 [(vI (b:Int))])]) (fun k (y:aa)=>(ki k y)∧(∀ q∈k,q∈pY (cj l r) b mf mb)) (fun k y=>[(bV A6 40 (aa.cells y)),(bV A5 40 (aa.cells (aa.mk 1 0))),(bV b5 40 (aa.cells (aa.mk 0 0))),(bV b4 3 [(vI (b:Int))]),(bV b3 43 (eB.cells (mG r sgA sgC))),(bV b2 31 (ck.cells (lk l kA kC cA cC bA bC))),(rd kA l.aP.length 9 (l.aP.map al.cells)).ro,(rd cA l.ak.length 2 (List.zipWith ar.cells l.ak az)).ro,(eW (aV ar.g0 l.ak az)).ro,(rd bA l.ae.length 4 (l.ae.map bD.cells)).ro,(rd sgA r.ag.length 2 (r.ag.map aK.cells)).ro]) (fun _ (_:Unit)=>False) (fun _ _=>[]) [2,3,13,14,15,16,17,18,19,20,21] [5,6,7,8,9,10,11,4,0,1] mB rfl rfl (He (lk l kA kC cA cC bA bC) (mG r sgA sgC) (cG l l.ae.length) (dN l r.ag r.ag.length) H AB m g j B A L J K G d f E b AC AK mf mb (by rw [B9]; omega) (by exact Eq) (by rw [Ck]; omega) (by exact D) I (by exact C) I (by show r.ag.length≤1000; omega) (by exact Y) (by exact Z)) rfl rfl rfl (by exact ⟨Bt,fun q hq=>by cases hq⟩) (by simp only [List.forall_mem_cons,List.not_mem_nil,false_imp_iff,implies_true,and_true]; exact ⟨⟨_,aR (i:=0) rfl,(j8 sm)⟩,⟨_,aR (i:=1) rfl,(j8 (by rw [List.length_zipWith]; omega))⟩,⟨_,aR (i:=2) rfl,tP⟩,⟨_,aR (i:=3) rfl,(j8 (by rw [List.length_zipWith]; omega))⟩,⟨_,aR (i:=4) rfl,tP⟩,⟨_,aR (i:=5) rfl,(j8 (by rw [List.length_zipWith]; omega))⟩,⟨_,aR (i:=6) rfl,tP⟩,⟨_,aR (i:=7) rfl,(bP _)⟩,⟨_,aR (i:=8) rfl,(bP _)⟩,⟨_,aR (i:=9) rfl,(bP _)⟩⟩) (by rintro k x k2 ⟨o,_,rfl,_⟩; rfl) rfl (aT rfl) ?_ ?_ (fun _ _ _ h=>h.elim) (fun _ _ h=>h.elim)
 ·rintro k x k2 h lr ra rb S w1 K41 Qr42 J4 hx A2 BX X FS Fn
  obtain ⟨q,hq,rfl,rfl⟩:=hx
  obtain ⟨a,c⟩:=A2
  try dsimp only
  refine aj<|AL U de fun GV=>fP U cm U<|aC<|jC (fun _ _ h=>h) (aH [1,0,2,3,4,5,6,7,8,9,10,11,12])<|aS (BX _ _ ?_)
  refine av<|ah fun _ s=>WS fun _ B3=>rP 2 [0,1] (mc 2 U (mc 3 U mn)) ?_
  refine rS (BI U (Rv _ _ h (aa.mk 1 0)))<|RK B3<|bL U (bq fun M=>?_) (bp fun M=>?_)
  ·refine WK s<|aj<|rP 1 [] (mc 1 U mn) ?_
   refine GB U cm U<|aC<|aG ?_
   exact X q.2 _ _ (by refine ⟨yO a (mY hq) ?_,fun z hz=>?_⟩; (first|exact if_neg M|exact if_pos M); (rcases List.mem_append.1 hz with hz|hz; exact c z hz; (rw [List.mem_singleton.1 hz]; exact hq))) (aH [0,2,3,4,5,6,7,8,9,10,11,12])
  refine aj<|fw 4 [0,1] (mc 1 U (mc 2 U mn)) U<|rS (MN U)<|fw 4 [0,1] (mc 1 U (mc 2 U mn)) U<|rS (MX U)<|rS (SX (bh (xs:=[(0,.tmp 40),(1,.tmp 45)]) (cs:=(aa.cells (aa.mk (min q.2.Lo h.Lo) (max q.2.Hi h.Hi)))) U U (bg gp U)) U U)<|ub U cm U<|RK s<|aj<|rP 1 [] (mc 1 U mn) ?_
  refine GB U cm U<|aC<|aG ?_
  exact X (aa.mk (min q.2.Lo h.Lo) (max q.2.Hi h.Hi)) _ _ (by refine ⟨yO a (mY hq) ?_,fun z hz=>?_⟩; (first|exact if_neg M|exact if_pos M); (rcases List.mem_append.1 hz with hz|hz; exact c z hz; (rw [List.mem_singleton.1 hz]; exact hq))) (aH [0,2,3,4,5,6,7,8,9,10,11,12])
 rintro J7 k h v A3
 obtain ⟨a,c⟩:=A3
 try dsimp only
 refine aG<|KK T<|ah fun _ V=>WS fun _ W=>rP 2 [0,1] (mc 11 U (mc 12 U mn)) ?_
 refine rS (BI U (s8 _ _ h (aa.mk 1 0)))<|RK W<|bL U (aL fun Ay=>?_) (aM fun Ay=>?_)
 ·refine WK V<|WS fun _ u=>fw 1 [] (mc 11 U mn) U<|jm (vs:=(aa.cells h)) (cs':=(aa.cells h)) (C':=[_,_,_,_,_,_,_,_,_,_,_,_,_,(bV b5 40 (aa.cells h)),_,_,_,_,_,_,_,_]) 13 U U U cm U U U U U U U<|rP 1 [] mn ?_
  refine RK u<|an<|hQ _ _ _ (ou 0 U U<|gZ (vs:=[(vA (aa.cells h)),(vI 0)]) ⟨⟨_,U,.inl ⟨_,_,bX,pz (vs:=(aa.cells h)) 13 U U,U,U⟩⟩,U,trivial⟩ fun w hs=>Ej ?_ hs)
  show (vT [(vA (aa.cells h)),(vI 0)])=(vT [(vA (aa.cells (eT l r bq_))),(vI (eM l r bq_))])
  clear hs w hQ hN u W V AA T R P O N p A0
  (rw [A1] at he ⊢; have hh:h=mw l r b:=zx (D.min _ _ Y) (C.max _ _ Z) (D.keys _ _ Y) (C.keys _ _ Z) c v a; (have e:=oq he (fun q=>Ay (hh.trans q)); rw [e.1,e.2,hh]<;>rfl))
 refine WS fun _ t=>rS (SX (bh (xs:=[]) (cs:=(aa.cells (aa.mk 0 0))) U U (bg gp U)) U U)<|jm (vs:=(aa.cells (aa.mk 0 0))) (cs':=(aa.cells (aa.mk 0 0))) (C':=[_,_,_,_,_,_,_,_,_,_,_,_,_,(bV b5 40 (aa.cells (aa.mk 0 0))),_,_,_,_,_,_,_,_]) 13 U U U cm U U U U U U U<|rP 1 [] mn ?_
 refine RK t<|an<|hQ _ _ _ (ou 0 U U<|gZ (vs:=[(vA (aa.cells (aa.mk 0 0))),(vI 6)]) ⟨⟨_,U,.inl ⟨_,_,bX,pz (vs:=(aa.cells (aa.mk 0 0))) 13 U U,U,U⟩⟩,U,trivial⟩ fun w hs=>Ej ?_ hs)
 show (vT [(vA (aa.cells (aa.mk 0 0))),(vI 6)])=(vT [(vA (aa.cells (eT l r bq_))),(vI (eM l r bq_))])
 clear hs w hQ hN t W V AA T R P O N p A0
 (rw [A1] at he ⊢; have hh:h=mw l r b:=zx (D.min _ _ Y) (C.max _ _ Z) (D.keys _ _ Y) (C.keys _ _ Z) c v a; (have e:=qM he (hh.symm.trans Ay); rw [e.1,e.2]<;>rfl))
theorem RV (l:a_) (kA:OA) (kC:Nat) (az:List RA) (cA:OA) (cC:Nat) (bA:OA) (bC:Nat) (r:cw) (sgA:OA) (sgC:Nat) (hin:er l az) (hsl:r.ag.length≤1000000):
 dT Tryz.prog 203 [(vA (ck.cells (lk l kA kC cA cC bA bC))),(vA (eB.cells (mG r sgA sgC)))] [(rd kA l.aP.length 9 (l.aP.map al.cells)),(rd cA l.ak.length 2 (List.zipWith ar.cells l.ak az)),(eW (aV ar.g0 l.ak az)),(rd bA l.ae.length 4 (l.ae.map bD.cells)),(rd sgA r.ag.length 2 (r.ag.map aK.cells))] (vT [(vA (aa.cells (AU l r))),(vI (eM l r l.cJ))]):=by
 have N:=hin.sH
 have J:=hin.sI
 have H:=hin.oF
 have AA:=hin.sG
 have M:=hin.side
 refine bx kr Tryz.func203 U U fun T Q hQ hN=>?_
 try dsimp only
 refine WS fun _ C=>fK U fun O=>fK U fun P=>AL U de fun R=>bf 1 U<|RK C<|WS fun _ D=>fw 4 [0,1] (mc 2 U (mc 1 U mn)) U<|rS (CL (JX l kA kC az cA cC bA bC r sgA sgC l.cJ hin hsl) (bj [3,4,5,6,7]) U)<|bf 3 U<|AL U de fun S=>fP U cm U<|bf 1 U<|RK D<|ah fun _ E=>WS fun _ F=>rP 2 [] mn ?_
 refine RK F<|cy U (bp fun A=>?_) (bq fun A=>?_)
 ·refine WS fun _ G=>rS (SX (bh (xs:=[]) (cs:=(aa.cells (aa.mk 0 0))) U U (bg gp U)) U U)<|bf 1 U<|ub U cm U<|rP 1 [] mn ?_
  refine RK G<|an<|lj hQ [0] (mc 1 U mn) U ?_
  (rw [Et A]<;>rfl)
 refine WK E<|WS fun _ B=>rP 4 [0,1] (mc 0 U (mc 2 U mn)) ?_
 have K:=xj A
 have L:=(vc A).time
 refine fw 6 [0,1] (mc 0 U (mc 2 U mn)) U<|rS (SX (bh (xs:=[(0,.tmp 24),(1,.tmp 29)]) (cs:=(aa.cells (aa.mk (((eT l r l.cJ).Lo)-r.Start) (((eT l r l.cJ).Hi)-r.Start)))) U U (bg gp U)) U U)<|ub U cm U<|rP 1 [] mn ?_
 refine RK B<|an<|lj hQ [0] (mc 1 U mn) U ?_
 (rw [AH A,A]<;>rfl)
end
section
open Go.RowKit
theorem M6 (l:a_) (kA:OA) (kC:Nat) (az:List RA) (cA:OA) (cC:Nat) (bA:OA) (bC:Nat) (d:ax) (sgA:OA) (sgC:Nat) (hin:er l az):
 dT Tryz.prog 197 [(vA (ck.cells (lk l kA kC cA cC bA bC))),(vA (bk.cells (bk.mk d.Out d.eH d.Time (mG d.cr sgA sgC))))] [(rd kA l.aP.length 9 (l.aP.map al.cells)),(rd cA l.ak.length 2 (List.zipWith ar.cells l.ak az)),(eW (aV ar.g0 l.ak az)),(rd bA l.ae.length 4 (l.ae.map bD.cells)),(rd sgA d.cr.ag.length 2 (d.cr.ag.map aK.cells))] (vT [(vA (aa.cells d.Time)),(vB (decide (d.eH=false∧d.Time=dv∧l8 d.cr)))]):=by
 refine bx kr Tryz.func197 U U fun K Q hQ hN=>?_
 try dsimp only
 refine WS fun _ B=>fK U fun H=>fK U fun AA=>AL U de fun J=>rP 1 [] mn ?_
 refine RK B<|ah fun _ A=>dG cu [15] [] [] [1,2,3,4,5,6,7] [] U U U U U<|eS U (FA 2 U fu U)<|eS U (LP (aa.cells d.Time) 0 U bX U U U)<|eS U (FA 1 U fu U)<|eS U (L1 (vB d.eH) 0 U bX U U)<|eS U (NT U)<|eS U (MV U)<|rp (t:=11) U (fun G=>?_) (fun G=>?_)
 rotate_left 1
 ·rw [Bool.not_eq_false'] at G
  refine eS U (OX U)<|eS U (OX U)<|eS U (OX U)<|eS U (OX U)<|eS U (PK U)<|eS U (MV U)<|eS U (OX U)<|eS U (OX U)<|eS U (PK U)<|eS U (AG U)<|eV U<|bY U fun T10 C=>fP U cm U<|aC (C _ _ (aH [1,2,3,4,5,6,7]) ?_)
  refine fF U<|KK A<|an<|lj hQ [0] (mc 0 U mn) U ?_
  clear hQ hN C T10 A B
  refine congrArg (fun z=>Value.tuple #[_,vB z]) ?_
  first|rfl|(simp_all [dv]; done)
 rw [Bool.not_eq_true'] at G
 refine eS U (FA 2 U fu U)<|eS U (LP (aa.cells d.Time) 0 U bX U U U)<|eS U (SX (bh (xs:=[]) (cs:=(aa.cells (aa.mk 0 0))) U U (bg gp U)) U U)<|eS U (BI U (s8 _ _ d.Time (aa.mk 0 0)))<|eS U (PK U)<|eS U (MV U)<|rp (t:=17) U (fun D=>?_) (fun D=>?_)
 rotate_left 1
 ·replace D:=DF D
  refine eS U (OX U)<|eS U (OX U)<|eS U (PK U)<|eS U (AG U)<|eV U<|bY U fun T9 F=>fP U cm U<|aC (F _ _ (aH [1,2,3,4,5,6,7]) ?_)
  refine fF U<|KK A<|an<|lj hQ [0] (mc 0 U mn) U ?_
  clear hQ hN F T9 A B
  refine congrArg (fun z=>Value.tuple #[_,vB z]) ?_
  first|rfl|(simp_all [dv]; done)
 replace D:=DT D
 refine eS U (LW 0 U bX U U)<|eS U (CL (KC d sgA sgC) (bj [6]) U)<|eS U (PK U)<|eS U (AG U)<|eV U<|bY U fun T8 E=>fP U cm U<|aC (E _ _ (aH [1,2,3,4,5,6,7]) ?_)
 refine fF U<|KK A<|an<|lj hQ [0] (mc 0 U mn) U ?_
 clear hQ hN E T8 A B
 refine congrArg (fun z=>Value.tuple #[_,vB z]) ?_
 first|rfl|(simp_all [dv]; done)
theorem Oj (l:a_) (kA:OA) (kC:Nat) (az:List RA) (cA:OA) (cC:Nat) (bA:OA) (bC:Nat) (d:ax) (sgA:OA) (sgC:Nat) (hin:er l az):
 dT Tryz.prog 200 [(vA (ck.cells (lk l kA kC cA cC bA bC))),(vA (bk.cells (bk.mk d.Out d.eH d.Time (mG d.cr sgA sgC))))] [(rd kA l.aP.length 9 (l.aP.map al.cells)),(rd cA l.ak.length 2 (List.zipWith ar.cells l.ak az)),(eW (aV ar.g0 l.ak az)),(rd bA l.ae.length 4 (l.ae.map bD.cells)),(rd sgA d.cr.ag.length 2 (d.cr.ag.map aK.cells))] (vT [(vA (aa.cells d.Time)),(vB (decide (iJ d.Time∧l8 d.cr)))]):=by
 refine bx kr Tryz.func200 U U fun AA Q hQ hN=>?_
 try dsimp only
 refine WS fun _ B=>fK U fun F=>fK U fun G=>AL U de fun H=>rP 1 [] mn ?_
 refine RK B<|ah fun _ A=>dG cu [9] [] [] [1,2,3,4,5,6,7] [] U U U U U<|eS U (FA 2 U fu U)<|eS U (LP (aa.cells d.Time) 0 U bX U U U)<|eS U (FA 2 U fu U)<|eS U (LP (aa.cells d.Time) 0 U bX U U U)<|eS U (CL (Fk d.Time) (aI) U)<|eS U (MV U)<|rp (t:=11) U (fun C=>?_) (fun C=>?_)
 rotate_left 1
 ·replace C:=DF C
  refine eS U (OX U)<|eS U (OX U)<|eS U (PK U)<|eS U (AG U)<|eV U<|bY U fun T8 E=>fP U cm U<|aC (E _ _ (aH [1,2,3,4,5,6,7]) ?_)
  refine fF U<|KK A<|an<|lj hQ [0] (mc 0 U mn) U ?_
  clear hQ hN E T8 A B
  refine congrArg (fun z=>Value.tuple #[_,vB z]) ?_
  first|rfl|(simp_all; done)
 replace C:=DT C
 refine eS U (LW 0 U bX U U)<|eS U (CL (KC d sgA sgC) (bj [6]) U)<|eS U (PK U)<|eS U (AG U)<|eV U<|bY U fun T7 D=>fP U cm U<|aC (D _ _ (aH [1,2,3,4,5,6,7]) ?_)
 refine fF U<|KK A<|an<|lj hQ [0] (mc 0 U mn) U ?_
 clear hQ hN D T7 A B
 refine congrArg (fun z=>Value.tuple #[_,vB z]) ?_
 first|rfl|(simp_all; done)
theorem Nk (l:a_) (kA:OA) (kC:Nat) (az:List RA) (cA:OA) (cC:Nat) (bA:OA) (bC:Nat) (d:ax) (sgA:OA) (sgC:Nat) (hin:er l az) (hsl:d.cr.ag.length≤1000000):
 dT Tryz.prog 202 [(vA (ck.cells (lk l kA kC cA cC bA bC))),(vA (bk.cells (bk.mk d.Out d.eH d.Time (mG d.cr sgA sgC))))] [(rd kA l.aP.length 9 (l.aP.map al.cells)),(rd cA l.ak.length 2 (List.zipWith ar.cells l.ak az)),(eW (aV ar.g0 l.ak az)),(rd bA l.ae.length 4 (l.ae.map bD.cells)),(rd sgA d.cr.ag.length 2 (d.cr.ag.map aK.cells))] (vT [(vA (aa.cells (AU l d.cr))),(vB (decide (eM l d.cr l.cJ=0∧d.Time=dv)))]):=by
 have K:=hin.sH
 have AA:=hin.sI
 have G:=hin.oF
 have H:=hin.sG
 have J:=hin.side
 refine bx kr Tryz.func202 U U fun P Q hQ hN=>?_
 try dsimp only
 refine WS fun _ C=>fK U fun L=>fK U fun M=>AL U de fun N=>bf 1 U<|RK C<|WS fun _ D=>fw 2 [] (mc 2 U mn) U<|rS (LP (eB.cells (mG d.cr sgA sgC)) 1 U bX U U U)<|rS (CL (RV l kA kC az cA cC bA bC d.cr sgA sgC hin hsl) (bj [3,4,5,6,7]) U)<|bf 3 U<|AL U de fun O=>fP U cm U<|rP 1 [] mn ?_
 refine RK D<|ah fun _ A=>dG cu [9] [] [] [0,2,3,4,5,6,7,8] [] U U U U U<|eS U (LW 0 U bX U U)<|eS U (MV U)<|eS U (BI U lu)<|eS U (MV U)<|rp (t:=18) U (fun E=>?_) (fun E=>?_)
 rotate_left 1
 ·replace E:=DF E
  refine eS U (OX U)<|eS U (OX U)<|eS U (OX U)<|eS U (OX U)<|eS U (PK U)<|eS U (AG U)<|eV U<|bY U fun T10 B=>ub U cm U<|aC (B _ _ (aH [0,2,3,4,5,6,7,8]) ?_)
  refine fF U<|KK A<|an<|lj hQ [0] (mc 1 U mn) U ?_
  clear hQ hN B T10 A D C
  refine congrArg (fun z=>Value.tuple #[_,vB z]) ?_
  first|rfl|(simp_all [dv]; done)
 replace E:=DT E
 refine eS U (FA 2 U fu U)<|eS U (LP (aa.cells d.Time) 1 U bX U U U)<|eS U (SX (bh (xs:=[]) (cs:=(aa.cells (aa.mk 0 0))) U U (bg gp U)) U U)<|eS U (BI U (s8 _ _ d.Time (aa.mk 0 0)))<|eS U (PK U)<|eS U (AG U)<|eV U<|bY U fun T9 F=>ub U cm U<|aC (F _ _ (aH [0,2,3,4,5,6,7,8]) ?_)
 refine fF U<|KK A<|an<|lj hQ [0] (mc 1 U mn) U ?_
 clear hQ hN F T9 A D C
 refine congrArg (fun z=>Value.tuple #[_,vB z]) ?_
 first|rfl|(simp_all [dv]; done)
theorem Hb (d:ax) (sgA:OA) (sgC g1:Nat):
 dT Tryz.prog 85 [(vA (mN.cells (mN.mk (Value.func (.func 196) [].toArray [].toArray) (Value.func (.func 197) [].toArray [].toArray)))),(vP g1)] [(rd sgA d.cr.ag.length 2 (d.cr.ag.map aK.cells)),(bV g1 45 (bk.cells (bk.mk d.Out d.eH d.Time (mG d.cr sgA sgC))))] (vB d.Out):=by
 refine bx kr Tryz.func85 U U fun D Q hQ hN=>?_
 try dsimp only
 refine WS fun _ A=>fK U fun C=>bf 1 U<|RK A<|WS fun _ B=>fw 3 [0,1] (mc 0 U (mr 2 U mn)) U<|rS (CL (R_ d sgA sgC) (bj [1]) U)<|rP 1 [] mn ?_
 refine RK B<|an<|Q1 hQ U U U ?_
 rfl
theorem G5 (d:ax) (sgA:OA) (sgC g1:Nat):
 dT Tryz.prog 85 [(vA (mN.cells (mN.mk (Value.func (.func 199) [].toArray [].toArray) (Value.func (.func 200) [].toArray [].toArray)))),(vP g1)] [(rd sgA d.cr.ag.length 2 (d.cr.ag.map aK.cells)),(bV g1 45 (bk.cells (bk.mk d.Out d.eH d.Time (mG d.cr sgA sgC))))] (vB d.eH):=by
 refine bx kr Tryz.func85 U U fun D Q hQ hN=>?_
 try dsimp only
 refine WS fun _ A=>fK U fun C=>bf 1 U<|RK A<|WS fun _ B=>fw 3 [0,1] (mc 0 U (mr 2 U mn)) U<|rS (CL (SU d sgA sgC) (bj [1]) U)<|rP 1 [] mn ?_
 refine RK B<|an<|Q1 hQ U U U ?_
 rfl
theorem GG (d:ax) (sgA:OA) (sgC g1:Nat):
 dT Tryz.prog 85 [(vA (mN.cells (mN.mk (Value.func (.func 201) [].toArray [].toArray) (Value.func (.func 202) [].toArray [].toArray)))),(vP g1)] [(rd sgA d.cr.ag.length 2 (d.cr.ag.map aK.cells)),(bV g1 45 (bk.cells (bk.mk d.Out d.eH d.Time (mG d.cr sgA sgC))))] (vB true):=by
 refine bx kr Tryz.func85 U U fun D Q hQ hN=>?_
 try dsimp only
 refine WS fun _ A=>fK U fun C=>bf 1 U<|RK A<|WS fun _ B=>fw 3 [0,1] (mc 0 U (mr 2 U mn)) U<|rS (CL (S0 d sgA sgC) (bj [1]) U)<|rP 1 [] mn ?_
 refine RK B<|an<|Q1 hQ U U U ?_
 rfl
end
section
open Go.RowKit
theorem wL (d:ax) (sgA:OA) (sgC g1:Nat):
 dT Tryz.prog 84 [(vS eX 3 3),(Value.func (.func 85) [].toArray [(vP g1)].toArray)] [(rd eX 3 2 dW),(rd sgA d.cr.ag.length 2 (d.cr.ag.map aK.cells)),(bV g1 45 (bk.cells (bk.mk d.Out d.eH d.Time (mG d.cr sgA sgC))))] (vI (oz d)):=by
 refine bx kr Tryz.func84 U U fun b Q hQ hN=>?_
 try dsimp only
 refine WS fun _ F=>bf 1 U<|RK F<|ah fun _ AA=>WS fun _ G=>bf 3 U<|RK G<|av<|jX 4<|d_ fun R4 Z=>WS fun _ H=>rS (SX (bU (r:= .bool true) U U U gQ) U U)<|RK H<|ah fun _ AB=>aO U<|WK AB<|ah fun _ J=>av<|WS fun _ K=>bf 2 U<|RK K<|WS fun _ L=>rP 3 [] mn ?_
 refine rS (IA 0 U (aD 0 U) Ml dc U I)<|rS (oI 0 0 (mN.cells (mN.mk (Value.func (.func 196) [].toArray [].toArray) (Value.func (.func 197) [].toArray [].toArray))) U bX (aD 0 U) (show dW[0]? =some [(Value.func (.func 196) [].toArray [].toArray),(Value.func (.func 197) [].toArray [].toArray)] from U) U dc U U)<|rS (CL (Hb d sgA sgC g1) (bj [1,2]) U)<|RK L<|cy U (fun X=>?_) (fun X=>?_)
 ·refine WS fun _ M=>rP 2 [] mn ?_
  refine RK M<|an<|Q1 hQ U U U ?_
  clear hQ hN M L K J AB H G AA F
  refine cI ?_
  simp [oz, *]
 refine b_<|aG<|KK J<|aj<|rS (SX (bU (r:= .int .i64 1) U U U (ic ⟨dc,dc⟩)) U U)<|bf 1 U<|RK Z<|d_ fun R12 W=>WS fun _ A=>rS (SX (bU (r:= .bool true) U U U gQ) U U)<|RK A<|ah fun _ B=>aO U<|WK B<|ah fun _ C=>av<|WS fun _ D=>bf 2 U<|RK D<|WS fun _ E=>rP 3 [] mn ?_
 refine rS (IA 1 U (aD 0 U) Ml dc U I)<|rS (oI 1 0 (mN.cells (mN.mk (Value.func (.func 199) [].toArray [].toArray) (Value.func (.func 200) [].toArray [].toArray))) U bX (aD 0 U) (show dW[1]? =some [(Value.func (.func 199) [].toArray [].toArray),(Value.func (.func 200) [].toArray [].toArray)] from U) U dc U U)<|rS (CL (G5 d sgA sgC g1) (bj [1,2]) U)<|RK E<|cy U (fun Y=>?_) (fun Y=>?_)
 ·refine WS fun _ N=>rP 2 [] mn ?_
  refine RK N<|an<|Q1 hQ U U U ?_
  clear hQ hN N E D C B A L K J AB H G AA F
  refine cI ?_
  simp [oz, *]
 refine b_<|aG<|KK C<|aj<|rS (SX (bU (r:= .int .i64 2) U U U (ic ⟨dc,dc⟩)) U U)<|bf 1 U<|RK W<|d_ fun R20 a=>WS fun _ O=>rS (SX (bU (r:= .bool true) U U U gQ) U U)<|RK O<|ah fun _ P=>aO U<|WK P<|ah fun _ V=>av<|WS fun _ R=>bf 2 U<|RK R<|WS fun _ S=>bf 3 U<|rS (IA 2 U (aD 0 U) Ml dc U I)<|rS (oI 2 0 (mN.cells (mN.mk (Value.func (.func 201) [].toArray [].toArray) (Value.func (.func 202) [].toArray [].toArray))) U bX (aD 0 U) (show dW[2]? =some [(Value.func (.func 201) [].toArray [].toArray),(Value.func (.func 202) [].toArray [].toArray)] from U) U dc U U)<|rS (CL (GG d sgA sgC g1) (bj [1,2]) U)<|RK S<|aO U<|WS fun _ T=>rP 2 [] mn ?_
 refine RK T<|an<|Q1 hQ U U U ?_
 clear hQ hN T S R V P O E D C B A L K J AB H G AA F
 refine cI ?_
 simp [oz, *]
end
section
open Go.RowKit
theorem Sj (d:ax) (sgA:OA) (sgC g1:Nat) (hk:d.Out=true):
 dT Tryz.prog 84 [(vS eX 3 3),(Value.func (.func 85) [].toArray [(vP g1)].toArray)] [(rd eX 3 2 dW),(rd sgA d.cr.ag.length 2 (d.cr.ag.map aK.cells)),(bV g1 45 (bk.cells (bk.mk d.Out d.eH d.Time (mG d.cr sgA sgC))))] (vI 0):=by
 have h:=wL d sgA sgC g1
 have e:oz d=0:=by simp [oz,hk]
 rw [e] at h
 exact h
theorem RW (d:ax) (sgA:OA) (sgC g1:Nat) (hk:d.Out=false∧d.eH=true):
 dT Tryz.prog 84 [(vS eX 3 3),(Value.func (.func 85) [].toArray [(vP g1)].toArray)] [(rd eX 3 2 dW),(rd sgA d.cr.ag.length 2 (d.cr.ag.map aK.cells)),(bV g1 45 (bk.cells (bk.mk d.Out d.eH d.Time (mG d.cr sgA sgC))))] (vI 1):=by
 have h:=wL d sgA sgC g1
 have e:oz d=1:=by simp [oz,hk]
 rw [e] at h
 exact h
theorem Sl (d:ax) (sgA:OA) (sgC g1:Nat) (hk:d.Out=false∧d.eH=false):
 dT Tryz.prog 84 [(vS eX 3 3),(Value.func (.func 85) [].toArray [(vP g1)].toArray)] [(rd eX 3 2 dW),(rd sgA d.cr.ag.length 2 (d.cr.ag.map aK.cells)),(bV g1 45 (bk.cells (bk.mk d.Out d.eH d.Time (mG d.cr sgA sgC))))] (vI 2):=by
 have h:=wL d sgA sgC g1
 have e:oz d=2:=by simp [oz,hk]
 rw [e] at h
 exact h
theorem C_ (l:a_) (kA:OA) (kC:Nat) (az:List RA) (cA:OA) (cC:Nat) (bA:OA) (bC:Nat) (d:ax) (sgA:OA) (sgC:Nat) (hin:er l az) (hsl:d.cr.ag.length≤1000000) (hk:d.Out=true):
 dT Tryz.prog 62 [(vA (ck.cells (lk l kA kC cA cC bA bC))),(vA (bk.cells (bk.mk d.Out d.eH d.Time (mG d.cr sgA sgC))))] [(rd eX 3 2 dW),(rd kA l.aP.length 9 (l.aP.map al.cells)),(rd cA l.ak.length 2 (List.zipWith ar.cells l.ak az)),(eW (aV ar.g0 l.ak az)),(rd bA l.ae.length 4 (l.ae.map bD.cells)),(rd sgA d.cr.ag.length 2 (d.cr.ag.map aK.cells))] (vT [(vA (aa.cells (dx l d))),(vB (decide (ib l d)))]):=by
 refine bx kr Tryz.func62 U U fun AA Q hQ hN=>?_
 try dsimp only
 refine WS fun _ A=>fK U fun G=>fK U fun D=>AL U de fun H=>bf 1 U<|RK A<|WS fun _ B=>rS (SX (EK U U yw) U U)<|rS (FU U)<|rS (CL (Sj d sgA sgC D hk) (OL 3 8 1 U U U U U U) U)<|bf 1 U<|RK B<|ah fun _ C=>dB cu 9 kr<|lz 1 U<|dS (SX (Eg (k:=0) U U U yw U I) U U)<|dS (nS ((0*2)+1) U (aD 3 U) (Nat.mul_pos I dc) fu U)<|dS (fV 0 1 (Value.func (.func 197) [].toArray [].toArray) U bX (aD 3 U) (show dW[0]? =some [(Value.func (.func 196) [].toArray [].toArray),(Value.func (.func 197) [].toArray [].toArray)] from U) U dc U)<|mL 2 [0,1] (mc 2 U (mc 1 U mn)) U<|dS (CL (M6 l kA kC az cA cC bA bC d sgA sgC hin) (bj [4,5,6,7,8]) U)<|lz 2 U<|cM<|fP U cm U<|rP 1 [] mn ?_
 refine RK C<|an<|lj hQ [0] (mc 0 U mn) U ?_
 have E:=FQ (l:=l) hk
 have F:=qE (l:=l) hk
 simp only [E,F]
theorem Da (l:a_) (kA:OA) (kC:Nat) (az:List RA) (cA:OA) (cC:Nat) (bA:OA) (bC:Nat) (d:ax) (sgA:OA) (sgC:Nat) (hin:er l az) (hsl:d.cr.ag.length≤1000000) (hk:d.Out=false∧d.eH=true):
 dT Tryz.prog 62 [(vA (ck.cells (lk l kA kC cA cC bA bC))),(vA (bk.cells (bk.mk d.Out d.eH d.Time (mG d.cr sgA sgC))))] [(rd eX 3 2 dW),(rd kA l.aP.length 9 (l.aP.map al.cells)),(rd cA l.ak.length 2 (List.zipWith ar.cells l.ak az)),(eW (aV ar.g0 l.ak az)),(rd bA l.ae.length 4 (l.ae.map bD.cells)),(rd sgA d.cr.ag.length 2 (d.cr.ag.map aK.cells))] (vT [(vA (aa.cells (dx l d))),(vB (decide (ib l d)))]):=by
 refine bx kr Tryz.func62 U U fun AA Q hQ hN=>?_
 try dsimp only
 refine WS fun _ A=>fK U fun G=>fK U fun D=>AL U de fun H=>bf 1 U<|RK A<|WS fun _ B=>rS (SX (EK U U yw) U U)<|rS (FU U)<|rS (CL (RW d sgA sgC D hk) (OL 3 8 1 U U U U U U) U)<|bf 1 U<|RK B<|ah fun _ C=>dB cu 9 kr<|lz 1 U<|dS (SX (Eg (k:=1) U U U yw U I) U U)<|dS (nS ((1*2)+1) U (aD 3 U) (Nat.mul_pos I dc) fu U)<|dS (fV 1 1 (Value.func (.func 200) [].toArray [].toArray) U bX (aD 3 U) (show dW[1]? =some [(Value.func (.func 199) [].toArray [].toArray),(Value.func (.func 200) [].toArray [].toArray)] from U) U dc U)<|mL 2 [0,1] (mc 2 U (mc 1 U mn)) U<|dS (CL (Oj l kA kC az cA cC bA bC d sgA sgC hin) (bj [4,5,6,7,8]) U)<|lz 2 U<|cM<|fP U cm U<|rP 1 [] mn ?_
 refine RK C<|an<|lj hQ [0] (mc 0 U mn) U ?_
 have E:=Ag (l:=l) hk
 have F:=sX (l:=l) hk
 simp only [E,F]
theorem Bx (l:a_) (kA:OA) (kC:Nat) (az:List RA) (cA:OA) (cC:Nat) (bA:OA) (bC:Nat) (d:ax) (sgA:OA) (sgC:Nat) (hin:er l az) (hsl:d.cr.ag.length≤1000000) (hk:d.Out=false∧d.eH=false):
 dT Tryz.prog 62 [(vA (ck.cells (lk l kA kC cA cC bA bC))),(vA (bk.cells (bk.mk d.Out d.eH d.Time (mG d.cr sgA sgC))))] [(rd eX 3 2 dW),(rd kA l.aP.length 9 (l.aP.map al.cells)),(rd cA l.ak.length 2 (List.zipWith ar.cells l.ak az)),(eW (aV ar.g0 l.ak az)),(rd bA l.ae.length 4 (l.ae.map bD.cells)),(rd sgA d.cr.ag.length 2 (d.cr.ag.map aK.cells))] (vT [(vA (aa.cells (dx l d))),(vB (decide (ib l d)))]):=by
 refine bx kr Tryz.func62 U U fun AA Q hQ hN=>?_
 try dsimp only
 refine WS fun _ A=>fK U fun G=>fK U fun D=>AL U de fun H=>bf 1 U<|RK A<|WS fun _ B=>rS (SX (EK U U yw) U U)<|rS (FU U)<|rS (CL (Sl d sgA sgC D hk) (OL 3 8 1 U U U U U U) U)<|bf 1 U<|RK B<|ah fun _ C=>dB cu 9 kr<|lz 1 U<|dS (SX (Eg (k:=2) U U U yw U I) U U)<|dS (nS ((2*2)+1) U (aD 3 U) (Nat.mul_pos I dc) fu U)<|dS (fV 2 1 (Value.func (.func 202) [].toArray [].toArray) U bX (aD 3 U) (show dW[2]? =some [(Value.func (.func 201) [].toArray [].toArray),(Value.func (.func 202) [].toArray [].toArray)] from U) U dc U)<|mL 2 [0,1] (mc 2 U (mc 1 U mn)) U<|dS (CL (Nk l kA kC az cA cC bA bC d sgA sgC hin hsl) (bj [4,5,6,7,8]) U)<|lz 2 U<|cM<|fP U cm U<|rP 1 [] mn ?_
 refine RK C<|an<|lj hQ [0] (mc 0 U mn) U ?_
 have E:=wa (l:=l) hk
 have F:=sU (l:=l) hk
 simp only [E,F]
theorem E3 (l:a_) (kA:OA) (kC:Nat) (az:List RA) (cA:OA) (cC:Nat) (bA:OA) (bC:Nat) (d:ax) (sgA:OA) (sgC:Nat) (hin:er l az) (hsl:d.cr.ag.length≤1000000):
 dT Tryz.prog 62 [(vA (ck.cells (lk l kA kC cA cC bA bC))),(vA (bk.cells (bk.mk d.Out d.eH d.Time (mG d.cr sgA sgC))))] [(rd eX 3 2 dW),(rd kA l.aP.length 9 (l.aP.map al.cells)),(rd cA l.ak.length 2 (List.zipWith ar.cells l.ak az)),(eW (aV ar.g0 l.ak az)),(rd bA l.ae.length 4 (l.ae.map bD.cells)),(rd sgA d.cr.ag.length 2 (d.cr.ag.map aK.cells))] (vT [(vA (aa.cells (dx l d))),(vB (decide (ib l d)))]):=by
 by_cases ho:d.Out=true
 ·exact C_ l kA kC az cA cC bA bC d sgA sgC hin hsl ho
 by_cases hf:d.eH=true
 ·exact Da l kA kC az cA cC bA bC d sgA sgC hin hsl ⟨by simpa using ho,hf⟩
 ·exact Bx l kA kC az cA cC bA bC d sgA sgC hin hsl ⟨by simpa using ho,by simpa using hf⟩
end
section
open Go.RowKit
theorem Mf (r:bT) (kA:OA) (kC:Nat) (az:List RA) (cA:OA) (cC:Nat) (bA:OA) (bC:Nat) (slA:OA) (slC:Nat) (drA:OA) (drC:Nat) (ha:List cO) (heA:OA) (heC:Nat) (tz:List RA) (tA:OA) (tC:Nat) (ms:Value) (gw h:Nat) (gm g1 g2:Nat) (hin:e9 r az ha) (htz:tz.length=r.ay.length) (hh:h<r.ay.length) (hok:j6 r (h+1)):
 Dt Tryz.prog 72 [(vI (h:Int)),(vP g1),(vP g2)] [(rd kA r.ao.aP.length 9 (r.ao.aP.map al.cells)),(rd cA r.ao.ak.length 2 (List.zipWith ar.cells r.ao.ak az)),(eW (aV ar.g0 r.ao.ak az)),(rd bA r.ao.ae.length 4 (r.ao.ae.map bD.cells)),(rd slA r.aQ.length 1 (r.aQ.map iC)),(rd drA r.bQ.length 1 (r.bQ.map iC)),(rd heA r.ay.length 1 (List.zipWith cP r.ay ha)),(eW (aV iu r.ay ha)),(rd tA ((cN r).length) 1 (List.zipWith DC (cN r) tz)),(eW (aV MA (cN r) tz)),(bV gw 91 (fI.cells (fI.mk (oH r kA kC cA cC bA bC slA slC drA drC heA heC) (br.mk tA ((cN r).length) tC) ms))),(bV g1 81 [(vP gw)]),(bV g2 64 [(Value.map (some gm))])] (gW iV gm (bK dw (dZ r.ao r.ay r.aQ.length h 0))) (fun (x:Unit)=>(vT [])) (fun (x:Unit)=>True) (fun (x:Unit)=>(gW iV gm (bK dw (dZ r.ao r.ay r.aQ.length (h+1) 0)))):=by
 have v:=hin.line
 have A3:=hin.iO
 have A4:=hin.has
 have AO:=hin.iN
 have AC:=hin.draw
 have An:=dA (r:=r)
 refine mJ kr Tryz.func72 U U fun w0 Q hQ hN=>?_
 try dsimp only
 refine WS fun _ g=>fw 1 [] (mr 12 U mn) U<|rS (SX (bI U U) U U)<|rP 3 [] (mr 11 U mn) ?_
 obtain ⟨ht,B⟩:=aJ r.ay h I
 obtain ⟨A,C⟩:=aJ ha h I
 have Z:(List.zipWith cP r.ay ha)[h]? =some (cP ht A):=dy B C
 have s:=hin.o5 _ _ _ B C
 have AK:=s.oF
 have N:=hok h ht I B
 obtain ⟨tr,G⟩:=aJ (cN r) h I
 obtain ⟨tra,F⟩:=aJ tz h I
 have c:(List.zipWith DC (cN r) tz)[h]? =some (DC tr tra):=dy G F
 refine rS (IA h U (aD 9 U) Nl dc I I)<|rS (fV h 0 (vS tra.1 tr.length tra.2) U bX (aD 9 U) c U dc U) ?_
 have AB:=yH B G
 have A0:tr.length=r.aQ.length:=by rw [AB,List.length_map]; exact N.1
 have Ay:=N.1
 refine rP 2 [] mn ?_
 refine RK g<|av ?_
 have E:(0≤r.aQ.length):=by exact Nat.zero_le _
 refine bH (ι:={z:Nat // (z≤r.aQ.length)}) [0,1,2,14,15] [1,2,3,4,5,6,7,8,9,10,11,12,13] U U (fun z=>[(16,(vI (z.1:Int)))]) (fun z=>[(gW iV gm (bK dw (dZ r.ao r.ay r.aQ.length h z.1)))]) (fun _=>rfl) (fun _=>rfl) (fun z=>r.aQ.length-z.1) ⟨0,E⟩ (aT U) (aH [1,2,3,4,5,6,7,8,9,10,11,12,13,0]) ?_
 clear E
 rintro ⟨i,u⟩ J2 K
 try dsimp only
 have a:i<r.aQ.length→(dZ r.ao r.ay r.aQ.length h i).lookup (i:Int)=fJ r.ao r.ay i h:=Ky
 refine WS fun _ k=>rP 1 [] mn ?_
 refine RK k<|ah fun _ m=>bL U (aL fun h5=>?_) (aM fun h5=>?_)
 ·refine bu<|ab<|ab<|au ?_
  rw [show (dZ r.ao r.ay r.aQ.length h i)=(dZ r.ao r.ay r.aQ.length (h+1) 0) from by rw [show i=r.aQ.length by omega]; exact Nh]
  refine LM hN () 13 [] mn U U U U ?_
  trivial
 refine WK m<|ah fun _ L=>av<|WS fun _ n=>rP 1 [] mn ?_
 obtain ⟨x,hx⟩:=aJ tr i I
 have y:=bG aa.cells hx
 refine rS (IA i U (show il _ (rd tra.1 tr.length 2 (tr.map aa.cells)).holds from (du 9 U (bM G F (by simp [MA])))) jJ dc I I)<|rS (oI i 0 (aa.cells x) U bX (show il _ (rd tra.1 tr.length 2 (tr.map aa.cells)).holds from (du 9 U (bM G F (by simp [MA])))) y U dc U U)<|AL U de fun b8=>bf 1 U<|fP U cm U<|RK n<|WS fun _ o=>fw 2 [] (mr 13 U mn) U<|rS (SX (jN (kV:=iV) (x:=(i:Int)) (l:=(dZ r.ao r.ay r.aQ.length h i)) (f:=dw) (z:=(aa.mk 0 0)) U U U mC (dC oJ) vy (by exact aD 14 U)) U U)<|bf 3 U<|AL U de fun A1=>fP U cm U<|bf 1 U<|RK o<|ah fun _ P=>WS fun _ H=>fw 1 [] (mr 13 U mn) U<|rS (SX (bI U U) U U)<|fw 4 [] (mr 12 U mn) U<|rS (IA h U (aD 8 U) rz dc I I)<|rS (fV h 0 (vS A.1.1 ht.length A.1.2) U bX (aD 8 U) Z U dc U)<|rP 1 [] mn ?_
 obtain ⟨d,hd⟩:=aJ ht i I
 obtain ⟨da,p⟩:=aJ A.2 i I
 have q:(List.zipWith ax.cells ht A.2)[i]? =some (ax.cells d da):=dy hd p
 refine rS (IA i U (show il _ (rd A.1.1 ht.length 7 (List.zipWith ax.cells ht A.2)).holds from (du 9 U (bM B C cb))) wE dc I I)<|rS (nS (i*7) U (show il _ (rd A.1.1 ht.length 7 (List.zipWith ax.cells ht A.2)).holds from (du 9 U (bM B C cb))) (Nat.mul_pos I dc) fu U)<|rS (fV i 0 (vB d.Out) U bX (show il _ (rd A.1.1 ht.length 7 (List.zipWith ax.cells ht A.2)).holds from (du 9 U (bM B C cb))) q U dc U)<|rP 1 [] mn ?_
 refine cQ (t:=39) U (fun J=>?_) (fun J=>?_)
 ·refine bf 3 U<|RK H<|aO U<|WS fun _ R=>rP 2 [] (mr 14 U mn) ?_
  have T:(cq (dZ r.ao r.ay r.aQ.length h i) (i:Int))=(dZ r.ao r.ay r.aQ.length h (i+1)):=by exact Fg (by exact HR B hd J)
  refine pd (kV:=iV) (x:=(i:Int)) (C':=[_,_,_,_,_,_,_,_,_,_,_,_,_,_,_,(gW iV gm (bK dw (dZ r.ao r.ay r.aQ.length h (i+1))))]) 15 U U U U mC (dC oJ) U ((lO _ _ _).symm.trans (congrArg _ T)) U<|RK R<|bu<|ab<|au<|KK L<|aj<|rP 2 [] mn ?_
  refine aC ?_
  have AA:(vI (((i+1):Nat):Int))=(vI ((i:Int)+1)):=by exact cI I
  refine aS (K ⟨(i+1),(by first|omega|(simp only []; omega))⟩ _ _ _ U os (ct 5<|aX U AA<|dh.nil _) (aH [2,3,4,5,6,7,8,9,10,11,12,13,14,15]))
 refine rP 3 [] mn ?_
 refine RK H<|cy U (fun D=>?_) (fun D=>?_)
 ·rw [Bool.not_eq_true'] at D
  refine WS fun _ S=>rP 2 [] (mr 14 U mn) ?_
  have V:(cq (dZ r.ao r.ay r.aQ.length h i) (i:Int))=(dZ r.ao r.ay r.aQ.length h (i+1)):=by exact Fg (by exact EL ((a I).symm.trans (Option.not_isSome_iff_eq_none.1 (by rw [D]; decide))))
  refine pd (kV:=iV) (x:=(i:Int)) (C':=[_,_,_,_,_,_,_,_,_,_,_,_,_,_,_,(gW iV gm (bK dw (dZ r.ao r.ay r.aQ.length h (i+1))))]) 15 U U U U mC (dC oJ) U ((lO _ _ _).symm.trans (congrArg _ V)) U<|RK S<|bu<|ab<|au<|KK L<|aj<|rP 2 [] mn ?_
  refine aC ?_
  have W:(vI (((i+1):Nat):Int))=(vI ((i:Int)+1)):=by exact cI I
  refine aS (K ⟨(i+1),(by first|omega|(simp only []; omega))⟩ _ _ _ U os (ct 5<|aX U W<|dh.nil _) (aH [2,3,4,5,6,7,8,9,10,11,12,13,14,15]))
 rw [Bool.not_eq_false'] at D
 refine WK P<|aj ?_
 obtain ⟨O,b⟩:=Option.isSome_iff_exists.1 D
 have M:fJ r.ao r.ay i h=some O:=(a I).symm.trans b
 have e:=IW AB hx hd
 have A5:=zZ (fun j x hj hx=>hok j x I hx) I M
 have w:=FC (N.2 d (aR hd))
 rw [← e] at w
 rw [show ((List.lookup (i:Int) (dZ r.ao r.ay r.aQ.length h i)).getD (aa.mk 0 0))=O from by rw [b]; rfl]
 refine fw 6 [0,1,2] (mr 14 U (mc 0 U (mc 1 U mn))) U<|rS (BI U (tx I I I))<|fw 5 [0,1] (mc 0 U (mc 1 U mn)) U<|rS (BI U (tx I I I))<|rP 1 [] mn ?_
 refine rS (SX (bh (xs:=[(0,.tmp 52),(1,.tmp 58)]) (cs:=(aa.cells (aa.mk (O.Lo+(x.Lo/10)) (O.Hi+(x.Hi/10))))) U U (bg gp U)) U U) ?_
 have X:(dL (dZ r.ao r.ay r.aQ.length h i) (i:Int) (aa.mk (O.Lo+(x.Lo/10)) (O.Hi+(x.Hi/10))))=(dZ r.ao r.ay r.aQ.length h (i+1)):=by exact MS I (by rw [M]; rfl) (by rw [e]; exact E5 B hd (by rw [J]; decide) M)
 refine g_ (kV:=iV) (x:=(i:Int)) (C':=[_,_,_,_,_,_,_,_,_,_,_,_,_,_,_,(gW iV gm (bK dw (dZ r.ao r.ay r.aQ.length h (i+1))))]) 15 U U U U mC (dC oJ) U ((fM _ _ _ _).symm.trans (congrArg _ X)) U<|aC<|aG<|KK L<|aj<|rP 2 [] mn ?_
 refine aC ?_
 have Y:(vI (((i+1):Nat):Int))=(vI ((i:Int)+1)):=by exact cI I
 refine aS (K ⟨(i+1),(by first|omega|(simp only []; omega))⟩ _ _ _ U os (ct 5<|aX U Y<|dh.nil _) (aH [2,3,4,5,6,7,8,9,10,11,12,13,14,15]))
theorem O3 (r:bT) (kA:OA) (kC:Nat) (az:List RA) (cA:OA) (cC:Nat) (bA:OA) (bC:Nat) (slA:OA) (slC:Nat) (drA:OA) (drC:Nat) (ha:List cO) (heA:OA) (heC:Nat) (tz:List RA) (tA:OA) (tC:Nat) (ms:Value) (gw n:Nat) (hin:e9 r az ha) (htz:tz.length=r.ay.length) (hn:n≤r.ay.length) (hok:j6 r n):
 ly Tryz.prog 46 [(vP gw),(vI (n:Int))] [(rd kA r.ao.aP.length 9 (r.ao.aP.map al.cells)),(rd cA r.ao.ak.length 2 (List.zipWith ar.cells r.ao.ak az)),(eW (aV ar.g0 r.ao.ak az)),(rd bA r.ao.ae.length 4 (r.ao.ae.map bD.cells)),(rd slA r.aQ.length 1 (r.aQ.map iC)),(rd drA r.bQ.length 1 (r.bQ.map iC)),(rd heA r.ay.length 1 (List.zipWith cP r.ay ha)),(eW (aV iu r.ay ha)),(rd tA ((cN r).length) 1 (List.zipWith DC (cN r) tz)),(eW (aV MA (cN r) tz)),(bV gw 91 (fI.cells (fI.mk (oH r kA kC cA cC bA bC slA slC drA drC heA heC) (br.mk tA ((cN r).length) tC) ms)))] (fun (x:Nat)=>(Value.map (some x))) (fun (x:Nat)=>True) (fun (x:Nat)=>[(gW iV x (bK dw (eG r n)))]):=by
 have c:=hin.line
 have m:=hin.iO
 have o:=hin.has
 have e:=hin.iN
 have d:=hin.draw
 have f:=dA (r:=r)
 refine dj kr Tryz.func46 U U fun q Q hQ hN=>?_
 try dsimp only
 refine WS fun _ V=>um U U fun k=>rP 1 [] mn ?_
 refine RK V<|WS fun _ W=>l7 (kV:=iV) U U fun B=>?_
 try dsimp only
 refine AL U SR fun l=>G1 U NY U U<|RK W<|ah fun _ X=>WS fun _ Y=>fw 1 [] (mc 2 U mn) U<|rS (SX (bI U U) U U)<|rP 5 [] (mr 13 U mn) ?_
 refine RK Y<|av ?_
 skip
 have A:(0≤r.aQ.length):=by exact Nat.zero_le _
 refine bH (ι:={z:Nat // (z≤r.aQ.length)}) [1,2,5,15] [0,2,3,4,5,6,7,8,9,10,11,12,13] U U (fun z=>[(16,(vI (z.1:Int)))]) (fun z=>[(gW iV B (bK dw (dZ r.ao r.ay z.1 0 0)))]) (fun _=>rfl) (fun _=>rfl) (fun z=>r.aQ.length-z.1) ⟨0,A⟩ (aT U) (aH [0,2,3,4,5,6,7,8,9,10,11,12,13,1]) ?_
 clear A
 rintro ⟨i,a⟩ J8 AA
 try dsimp only
 refine WS fun _ Z=>rP 1 [] mn ?_
 refine RK Z<|ah fun _ D=>cy U (aM fun S=>?_) (aL fun S=>?_)
 ·refine WK D<|ah fun _ E=>av<|WS fun _ F=>bf 2 U<|RK F<|aj<|rP 2 [] (mc 0 U mn) ?_
  refine rS (SX (bh (xs:=[]) (cs:=(aa.cells (aa.mk 0 0))) U U (bg gp U)) U U) ?_
  have O:(dL (dZ r.ao r.ay i 0 0) (i:Int) (aa.mk 0 0))=(dZ r.ao r.ay (i+1) 0 0):=by exact NK
  refine g_ (kV:=iV) (x:=(i:Int)) (C':=[_,_,_,_,_,_,_,_,_,_,_,_,_,(gW iV B (bK dw (dZ r.ao r.ay (i+1) 0 0)))]) 13 U U U U mC (dC oJ) U ((fM _ _ _ _).symm.trans (congrArg _ O)) U<|aC<|aG<|KK E<|aj<|rP 2 [] mn ?_
  refine aC ?_
  have P:(vI (((i+1):Nat):Int))=(vI ((i:Int)+1)):=by exact cI I
  refine aS (AA ⟨(i+1),(by first|omega|(simp only []; omega))⟩ _ _ _ U os (ct 4<|aX U P<|dh.nil _) (aH [0,1,2,3,4,5,6,7,8,9,10,11,12,13]))
 refine bu<|ab<|ab<|au<|KK X<|WS fun _ G=>rS (FU U)<|bf 1 U<|RK G<|ah fun _ H=>WS fun _ AB=>rP 2 [] mn ?_
 refine RK AB<|av ?_
 rw [show (dZ r.ao r.ay i 0 0)=(dZ r.ao r.ay r.aQ.length 0 0) from by rw [show i=r.aQ.length by omega]]
 have A:(0≤n):=by exact Nat.zero_le _
 refine bH (ι:={z:Nat // (z≤n)}) [2,5,7,24] [0,1,2,3,4,5,6,7,8,9,10,11,12] U U (fun z=>[(25,(vI (z.1:Int)))]) (fun z=>[(gW iV B (bK dw (dZ r.ao r.ay r.aQ.length z.1 0)))]) (fun _=>rfl) (fun _=>rfl) (fun z=>n-z.1) ⟨0,A⟩ (aT U) (aH [0,1,2,3,4,5,6,7,8,9,10,11,12,13]) ?_
 clear A
 rintro ⟨h,b⟩ J19 C
 try dsimp only
 refine WS fun _ J=>rP 1 [] mn ?_
 refine RK J<|ah fun _ K=>bL U (aL fun T=>?_) (aM fun T=>?_)
 ·refine bu<|ab<|ab<|au<|KK H<|ah fun _ N=>?_
  rw [show (dZ r.ao r.ay r.aQ.length h 0)=(eG r n) from by rw [show h=n by omega]; exact M9]
  refine aj<|rP 2 [] (mc 0 U mn) ?_
  refine RK N<|an<|LX hQ B [13] [] mn U U U U ?_
  trivial
 refine WK K<|ah fun _ L=>av<|WS fun _ M=>bf 2 U<|RK M<|aj<|rP 2 [] mn ?_
 refine iP 13 U U U U (Mf r kA kC az cA cC bA bC slA slC drA drC ha heA heC tz tA tC ms gw h B k l hin htz I (by exact fun j x hj hx=>hok j x I hx)) U (dR 2 U U (dD (bP _)) (dR 3 U U (dD (bP _)) (dR 4 U U (dD (bP _)) (dR 5 U U (dD (bP _)) (dR 6 U U (dD (bP _)) (dR 7 U U (dD (bP _)) (dR 8 U U (dD (bP _)) (dR 9 U U (dD (bP _)) (dR 10 U U (dD (bP _)) (dR 11 U U (dD (bP _)) (dR 12 U U (dD (bP _)) (dR 1 U U (bP _) (dR 0 U U (bP _) kd))))))))))))) U (fun p g=>?_)
 try dsimp only
 refine aC<|aG<|KK L<|aj<|rP 2 [] mn ?_
 refine aC ?_
 have R:(vI (((h+1):Nat):Int))=(vI ((h:Int)+1)):=by exact cI I
 refine aS (C ⟨(h+1),(by first|omega|(simp only []; omega))⟩ _ _ _ U os (ct 4<|aX U R<|dh.nil _) (aH [0,1,2,3,4,5,6,7,8,9,10,11,12,13]))
end
section
open Go.RowKit
theorem og (r:bT) (kA:OA) (kC:Nat) (az:List RA) (cA:OA) (cC:Nat) (bA:OA) (bC:Nat) (slA:OA) (slC:Nat) (drA:OA) (drC:Nat) (ha:List cO) (heA:OA) (heC:Nat) (hin:e9 r az ha):
 ly Tryz.prog 36 [(vA (cv.cells (oH r kA kC cA cC bA bC slA slC drA drC heA heC)))] [(rd eX 3 2 dW),(rd kA r.ao.aP.length 9 (r.ao.aP.map al.cells)),(rd cA r.ao.ak.length 2 (List.zipWith ar.cells r.ao.ak az)),(eW (aV ar.g0 r.ao.ak az)),(rd bA r.ao.ae.length 4 (r.ao.ae.map bD.cells)),(rd slA r.aQ.length 1 (r.aQ.map iC)),(rd drA r.bQ.length 1 (r.bQ.map iC)),(rd heA r.ay.length 1 (List.zipWith cP r.ay ha)),(eW (aV iu r.ay ha))] (fun (x:Bool×Int×Nat×Nat×(OA)×Nat×(List RA))=>bif x.1 then (vT [(Value.pointer (some ⟨x.2.2.1,0,none⟩)),(vI 0)]) else (vT [(Value.pointer none),(vI x.2.1)])) (fun (x:Bool×Int×Nat×Nat×(OA)×Nat×(List RA))=>(x.1=true→(cK r=0∧x.2.2.2.2.2.2.length=r.ay.length))∧(x.1=false→(x.2.1=cK r∧ ¬ cK r=0))) (fun (x:Bool×Int×Nat×Nat×(OA)×Nat×(List RA))=>bif x.1 then [(bV x.2.2.1 91 (fI.cells (fI.mk (oH r kA kC cA cC bA bC slA slC drA drC heA heC) (br.mk x.2.2.2.2.1 ((cN r).length) x.2.2.2.2.2.1) (Value.map (some x.2.2.2.1))))),(own x.2.2.2.2.1 x.2.2.2.2.2.1 82 1 (List.zipWith DC (cN r) x.2.2.2.2.2.2)),(bw (aV Du (cN r) x.2.2.2.2.2.2)),(gW iV x.2.2.2.1 (bK dw (aF r)))] else []):=by
 have K5:=hin.line
 have Op:=hin.iO
 have Or:=hin.has
 have Lo:=hin.iN
 have Li:=hin.draw
 have Fn:=dA (r:=r)
 refine dj kr Tryz.func36 U U fun w0 Q hQ hN=>?_
 try dsimp only
 refine WS fun _ J3=>fK U fun b2=>bf 2 U<|RK J3<|ah fun _ J4=>WS fun _ J5=>bf 1 U<|rS (LP (ck.cells (lk r.ao kA kC cA cC bA bC)) 0 U bX U U U)<|rS (CL (Bw r.ao kA kC az cA cC bA bC asm) (bj [2,3,4,5]) U)<|bf 1 U<|RK J5<|WS fun _ J6=>rP 2 [] mn ?_
 refine RK J6<|cy U (bp fun B=>?_) (bq fun B=>?_)
 ·refine WS fun _ J7=>rP 3 [] mn ?_
  refine RK J7<|an<|LX hQ (false,(dq r.ao),0,0,none,0,[]) [] [] mn U (by rfl) U U ?_
  exact ry<|II (zn B) B
 refine WK J4<|WS fun _ J8=>fw 4 [] (mc 0 U mn) U<|RK J8<|WS fun _ J9=>rP 2 [] (mc 0 U mn) ?_
 refine cX (wM drA r.bQ.length drC) (aI) U fun GT Ls=>?_
 try dsimp only
 refine cX (x4 r.bQ drA drC GT asm) (bj [8,0]) U fun La L0=>?_
 obtain ⟨L3,OP⟩:=La
 try dsimp only
 refine bf 1 U<|RK J9<|ah fun _ e=>WS fun _ H=>rP 1 [] mn ?_
 refine cY (xs:=[.tmp 29]) (cs:=[(vI (r.aQ.length:Int))]) U cp ja U U U U (by simp [Value.cells]) U U fun GV=>?_
 refine rS (CL (dT.eq (j4 1 5 ([(r.aQ.length:Int)]) (some ⟨GV,0,none⟩) 1 (by (simp; done))) cS) (aw (aZ 0 U U (by simp [bB]) U)<|aI) U) ?_
 refine rP 2 [] mn ?_
 refine cQ (t:=33) U (bp fun IO=>?_) (bq fun IO=>?_)
 ·refine bf 26 U<|RK H<|aO U<|WS fun _ f=>rP 2 [] mn ?_
  refine RK f<|an<|LX hQ (false,60,0,0,none,0,[]) [] [] mn U (by rfl) U U ?_
  exact ry<|pS (kz B (fun q:eP r=>by have q1:=q.num; have q2:=q.xo; have q3:=q.nh; have q4:=q.yo; omega))
 refine rP 6 [] mn ?_
 refine cQ (t:=39) U (bp fun IR=>?_) (bq fun IR=>?_)
 ·refine bf 20 U<|RK H<|aO U<|WS fun _ g=>rP 2 [] mn ?_
  refine RK g<|an<|LX hQ (false,60,0,0,none,0,[]) [] [] mn U (by rfl) U U ?_
  exact ry<|pS (kz B (fun q:eP r=>by have q1:=q.num; have q2:=q.xo; have q3:=q.nh; have q4:=q.yo; omega))
 refine rP 2 [] (mc 3 U mn) ?_
 refine cY (xs:=[.tmp 41]) (cs:=[(vI r.iK)]) U cp ja U U U U (by simp [Value.cells]) U U fun Go=>?_
 refine rS (CL (dT.eq (j4 0 5 ([r.iK]) (some ⟨Go,0,none⟩) 1 (by (simp; done))) cS) (aw (aZ 0 U U (by simp [bB]) U)<|aI) U) ?_
 refine rP 3 [] mn ?_
 refine cQ (t:=46) U (bp fun Id=>?_) (bq fun Id=>?_)
 ·refine bf 13 U<|RK H<|aO U<|WS fun _ k=>rP 2 [] mn ?_
  refine RK k<|an<|LX hQ (false,60,0,0,none,0,[]) [] [] mn U (by rfl) U U ?_
  exact ry<|pS (kz B (fun q:eP r=>by have q1:=q.num; have q2:=q.xo; have q3:=q.nh; have q4:=q.yo; omega))
 refine rP 3 [] (mc 4 U mn) ?_
 refine cY (xs:=[.tmp 49]) (cs:=[(vI (r.ay.length:Int))]) U cp ja U U U U (by simp [Value.cells]) U U fun Hi=>?_
 refine rS (CL (dT.eq (j4 1 3 ([(r.ay.length:Int)]) (some ⟨Hi,0,none⟩) 1 (by (simp; done))) cS) (aw (aZ 0 U U (by simp [bB]) U)<|aI) U) ?_
 refine rP 3 [] mn ?_
 refine cQ (t:=54) U (bp fun If=>?_) (bq fun If=>?_)
 ·refine bf 5 U<|RK H<|aO U<|WS fun _ l=>rP 2 [] mn ?_
  refine RK l<|an<|LX hQ (false,60,0,0,none,0,[]) [] [] mn U (by rfl) U U ?_
  exact ry<|pS (kz B (fun q:eP r=>by have q1:=q.num; have q2:=q.xo; have q3:=q.nh; have q4:=q.yo; omega))
 refine fw 2 [] (mc 5 U mn) U<|rS (CL (j4 0 9999 r.aQ slA slC asm) (bj [11]) U)<|rP 2 [] mn ?_
 refine RK H<|cy U (fun N=>?_) (fun N=>?_)
 ·rw [Bool.not_eq_true'] at N
  refine WS fun _ m=>rP 2 [] mn ?_
  refine RK m<|an<|LX hQ (false,60,0,0,none,0,[]) [] [] mn U (by rfl) U U ?_
  exact ry<|pS (kz B (fun q:eP r=>by exact absurd (q.ins.symm.trans N) dc))
 rw [Bool.not_eq_false'] at N
 refine WK e<|ah fun _ o=>WS fun _ p=>?_
 have Os:(df r.bQ).length=r.aQ.length:=by rw [gf]; omega
 refine rP 2 [] mn ?_
 refine RK p<|av ?_
 have A:(0≤r.aQ.length)∧(qR r 0):=by exact ⟨Nat.zero_le _,DY⟩
 refine bH (ι:={z:Nat // (z≤r.aQ.length)∧(qR r z)}) [1,5,6,60] [3,5,6,7,8,9,10,11,12,13,14] U U (fun z=>[(61,(vI (z.1:Int)))]) (fun z=>[]) (fun _=>rfl) (fun _=>rfl) (fun z=>r.aQ.length-z.1) ⟨0,A⟩ (aT U) (aH [3,5,6,7,8,9,10,11,12,13,14]) ?_
 clear A
 rintro ⟨i,⟨K4,J⟩⟩ J28 V
 try dsimp only
 refine WS fun _ s=>rP 1 [] mn ?_
 refine RK s<|ah fun _ w=>cy U (aM fun In=>?_) (aL fun In=>?_)
 ·refine WK w<|ah fun _ W=>av<|WS fun _ AC=>bf 2 U<|RK AC<|ah fun _ O=>dB cu 24 kr<|dP 2 [] mn ?_
  obtain ⟨x,hx⟩:=aJ (df r.bQ) i I
  have K8:=bG iC hx
  refine dS (IA i U (ai (n:=r.bQ.length) 0 U sq) cp dc I I) ?_
  refine dS (fV i 0 (vI x) U bX (ai (n:=(df r.bQ).length) 0 U sm) K8 U dc U)<|dP 3 [] mn ?_
  refine iZ (t:=70) U (bp fun S=>?_) (bq fun S=>?_)
  ·refine lz 17 U<|cM<|RK O<|aO U<|WS fun _ AO=>rP 2 [] mn ?_
   refine RK AO<|an<|LX hQ (false,60,0,0,none,0,[]) [] [] mn U (by rfl) U U ?_
   exact ry<|pS (kz B (fun q:eP r=>by exact absurd (q.drawn hx) S))
  refine dP 3 [] mn ?_
  refine jo (t:=73) U (aL fun I0=>?_) (aM fun I0=>?_)
  ·refine lz 14 U<|cM<|RK O<|aW U<|b_<|aG<|KK W<|aj<|rP 2 [] mn ?_
   refine aC ?_
   have Do:(vI (((i+1):Nat):Int))=(vI ((i:Int)+1)):=by exact cI I
   refine aS (V ⟨(i+1),⟨I,xS J hx S (fun u v hu hv hw=>by omega)⟩⟩ _ _ _ U os (ct 4<|aX U Do<|dh.nil _) (aH [0,1,2,3,4,5,6,7,8,9,10]))
  refine dP 3 [] (mc 1 U mn) ?_
  obtain ⟨y,hy⟩:=aJ r.aQ i I
  have K_:=bG iC hy
  refine dS (IA i U (aD 7 U) cp dc I I)<|dS (fV i 0 (vI y) U bX (aD 7 U) K_ U dc U)<|dP 4 [] (mc 1 U mn) ?_
  obtain ⟨z,hz⟩:=aJ r.aQ (i-1) I
  have LA:=bG iC hz
  refine dS (IA (i-1) U (aD 7 U) cp dc I I)<|dS (fV (i-1) 0 (vI z) U bX (aD 7 U) LA U dc U)<|dP 3 [] mn ?_
  refine cM<|RK O<|bL U (aL fun JL=>?_) (aM fun JL=>?_)
  ·refine b_<|aG<|KK W<|aj<|rP 2 [] mn ?_
   refine aC ?_
   have Di:(vI (((i+1):Nat):Int))=(vI ((i:Int)+1)):=by exact cI I
   refine aS (V ⟨(i+1),⟨I,xS J hx S (fun u v hu hv hw=>by (rw [hy] at hu; cases hu; rw [hz] at hw; cases hw; omega))⟩⟩ _ _ _ rfl os (ct 4<|aX rfl Di<|dh.nil _) (aH [0,1,2,3,4,5,6,7,8,9,10]))
  refine WS fun _ An=>rP 2 [] mn ?_
  refine RK An<|an<|LX hQ (false,60,0,0,none,0,[]) [] [] mn U (by rfl) U U ?_
  exact ry<|pS (kz B (fun q:eP r=>by have q1:=(q.ids i y hy).2 z I hz; omega))
 refine bu<|ab<|ab<|au<|KK o<|WS fun _ Ay=>fw 1 [] (mc 1 U mn) U<|rS (SX (bh (xs:=[(0,.tmp 89)]) (cs:=(fI.cells (fI.mk (oH r kA kC cA cC bA bC slA slC drA drC heA heC) (br.mk none 0 0) (Value.map none)))) U U (bg UK U)) U U)<|fK U fun L=>bf 1 U<|RK Ay<|ah fun _ A0=>WS fun _ A1=>rP 4 [] (mc 2 U mn) ?_
 refine RK A1<|av<|fQ 82 1<|oG ?_
 have A:(0≤r.ay.length)∧(([]:List RA).length=0)∧(j6 r 0):=by exact ⟨Nat.zero_le _,rfl,xI⟩
 refine bH (ι:={z:Nat×(List RA)×(OA)×Nat // (z.1≤r.ay.length)∧(z.2.1.length=z.1)∧(j6 r z.1)}) [1,5,8,93,94] [3,4,5,6,7,8,9,10,11,12,13] U U (fun z=>[(95,(vI (z.1.1:Int)))]) (fun z=>[(bw (aV Du (gu r z.1.1) z.1.2.1)),(own z.1.2.2.1 z.1.2.2.2 82 1 (List.map sC (List.zipWith CM (gu r z.1.1) z.1.2.1))),(bV L 91 (fI.cells (fI.mk (oH r kA kC cA cC bA bC slA slC drA drC heA heC) (br.mk z.1.2.2.1 ((List.zipWith CM (gu r z.1.1) z.1.2.1).length) z.1.2.2.2) (Value.map none))))]) (fun _=>rfl) (fun _=>rfl) (fun z=>r.ay.length-z.1.1) ⟨(0,([]:List RA),none,0),A⟩ (aT U) (aH [3,4,5,6,7,8,9,10,11,12,13,0,1,2]) ?_
 clear A
 rintro ⟨⟨h,tz,a,c⟩,⟨T,C,E⟩⟩ J42 Z
 try dsimp only at T C E
 try dsimp only
 refine WS fun _ A2=>rP 1 [] mn ?_
 refine RK A2<|ah fun _ A3=>bL U (aL fun J2=>?_) (aM fun J2=>?_)
 ·refine bu<|ab<|ab<|au<|KK A0<|ah fun _ C2=>?_
  have K0:gu r h=cN r:=by unfold cN; rw [show h=r.ay.length by omega]
  have F0:tz.length=r.ay.length:=by omega
  rw [K0,yQ,show (List.zipWith CM (cN r) tz).length=(cN r).length from by rw [List.length_zipWith]; omega]
  have X:eP r:=Lp (n:=i) I I I I I N J E I
  refine aj<|rP 5 [] (mc 1 U mn) ?_
  refine cX (O3 r kA kC az cA cC bA bC slA slC drA drC ha heA heC tz a c (Value.map none) L r.ay.length hin asm I (by exact X.AK)) (lM [3,4,5,6,7,8,9,10]<|aw (ai (n:=(cN r).length) 12 U (mW (by rw [Fn]; exact F0)))<|aw (cL 11 U tn)<|fD 13 U U<|aI) U fun K L2=>?_
  try dsimp only
  refine rS (SX (bI U U) U U)<|rP 1 [] mn ?_
  refine jm (vs:=[(Value.map (some K))]) (cs':=(fI.cells (fI.mk (oH r kA kC cA cC bA bC slA slC drA drC heA heC) (br.mk a ((cN r).length) c) (Value.map (some K))))) (C':=[_,_,_,_,_,_,_,_,_,_,_,_,_,_,(bV L 91 (fI.cells (fI.mk (oH r kA kC cA cC bA bC slA slC drA drC heA heC) (br.mk a ((cN r).length) c) (Value.map (some K)))))]) 14 U U U NY U U U U U U U<|RK C2<|ah fun _ C3=>?_
  rw [show eG r r.ay.length=aF r from rfl]
  refine aj<|rP 3 [] mn ?_
  refine RK C3<|an ?_
  refine LX hQ (true,0,L,K,a,c,tz) [14,13,12,0] [] mn U (by (show List.all _ _=true; simp only [cond_true,fz,List.all_nil,xx,Bool.and_true]; rfl)) U U ?_
  exact ⟨fun _=>⟨Cd B X,F0⟩,MT⟩
 refine WK A3<|ah fun _ A4=>av<|WS fun _ A5=>?_
 obtain ⟨ht,D⟩:=aJ r.ay h I
 obtain ⟨G,AB⟩:=aJ ha h I
 have Fd:(List.zipWith cP r.ay ha)[h]? =some (cP ht G):=dy D AB
 refine rS (IA h U (aD 9 U) rz dc I I)<|rS (fV h 0 (vS G.1.1 ht.length G.1.2) U bX (aD 9 U) Fd U dc U)<|rP 1 [] mn ?_
 refine RK A5<|ah fun _ A6=>WS fun _ A7=>?_
 have FS:=hin.o5 _ _ _ D AB
 have Lk:=FS.oF
 refine rP 4 [] mn ?_
 refine RK A7<|cy U (bp fun Y=>?_) (bq fun Y=>?_)
 ·refine WS fun _ A8=>rP 2 [] mn ?_
  refine RK A8<|an<|LX hQ (false,60,0,0,none,0,[]) [] [] mn U (by rfl) U U ?_
  exact ry<|pS (kz B (fun q:eP r=>by have q1:=(q.o5 ht (aR D)).1; omega))
 refine WK A6<|WS fun _ A9=>bf 1 U<|RK A9<|ah fun _ BX=>WS fun _ B3=>rP 3 [] mn ?_
 refine RK B3<|av<|fQ 40 2 ?_
 have A:(0≤ht.length)∧(n7 r.ao ht 0):=by exact ⟨Nat.zero_le _,vh⟩
 refine bH (ι:={z:Nat×(OA)×Nat // (z.1≤ht.length)∧(n7 r.ao ht z.1)}) [1,5,8,10,93,94,95,103,104] [1,2,3,4,5,6,7,8,9,10,11,12,13,14] U U (fun z=>[(11,(vS z.1.2.1 (((ht.take z.1.1).map (dx r.ao)).length) z.1.2.2)),(105,(vI (z.1.1:Int)))]) (fun z=>[(own z.1.2.1 z.1.2.2 40 2 (((ht.take z.1.1).map (dx r.ao)).map aa.cells))]) (fun _=>rfl) (fun _=>rfl) (fun z=>ht.length-z.1.1) ⟨(0,none,0),A⟩ (aT U) (aH [1,2,3,4,5,6,7,8,9,10,11,12,13,14,0]) ?_
 clear A
 rintro ⟨⟨j,la,lc⟩,⟨AA,F⟩⟩ J53 b
 try dsimp only at AA F
 try dsimp only
 refine WS fun _ B7=>rP 1 [] mn ?_
 refine RK B7<|ah fun _ B9=>bL U (aL fun Ij=>?_) (aM fun Ij=>?_)
 ·refine bu<|ab<|ab<|au<|KK BX<|aj<|bf 2 U<|rS (SX (bI U U) U U)<|rP 2 [] (mc 13 U mn) ?_
  rw [show ((ht.take j).map (dx r.ao))=ht.map (dx r.ao) from by rw [List.take_of_length_le I]]
  refine rP 1 [] mn ?_
  refine cY (xs:=[.tmp 128]) (cs:=[(vS la ((ht.map (dx r.ao)).length) lc)]) U Nl SM U U U U (by simp [Value.cells]) U U fun Ne=>?_
  refine db (es2:=(List.map sC (List.zipWith CM (gu r (h+1)) (tz++[(la,lc)])))) (m':=(List.zipWith CM (gu r (h+1)) (tz++[(la,lc)])).length) 13 U U U RL U U sm (aZ (es:=List.map sC [(br.mk la ((ht.map (dx r.ao)).length) lc)]) 0 U U (by simp [zF]) U) (Lu _) (by rw [List.length_zipWith,kI I]; omega) (by rw [List.length_zipWith,kI I]; simp only [maxLen]; omega) (by rw [tI D C,List.map_append]; rfl) (by rw [tI D C]; simp) U fun P R=>?_
  try dsimp only
  refine rS (SX (bI U U) U U)<|bf 1 U<|jm (vs:=[(vS P ((List.zipWith CM (gu r (h+1)) (tz++[(la,lc)])).length) R)]) (cs':=(fI.cells (fI.mk (oH r kA kC cA cC bA bC slA slC drA drC heA heC) (br.mk P ((List.zipWith CM (gu r (h+1)) (tz++[(la,lc)])).length) R) (Value.map none)))) (C':=[_,_,_,_,_,_,_,_,_,_,_,_,_,_,(bV L 91 (fI.cells (fI.mk (oH r kA kC cA cC bA bC slA slC drA drC heA heC) (br.mk P ((List.zipWith CM (gu r (h+1)) (tz++[(la,lc)])).length) R) (Value.map none)))),_]) 14 U U U UH U U U U U U U<|aC<|aG<|KK A4<|aj<|rP 2 [] mn ?_
  refine aC<|Cq (X':=aV Du (gu r (h+1)) (tz++[(la,lc)])) 12 15 U U (Cn (a:=(la,lc)) D C) ?_
  have EQ:(vI (((h+1):Nat):Int))=(vI ((h:Int)+1)):=by exact cI I
  refine aS (Z ⟨((h+1),(tz++[(la,lc)]),P,R),⟨I,by simp; omega,wo E D (F_ I F I)⟩⟩ _ _ _ U os (ct 5<|aX U EQ<|dh.nil _) (aH [2,3,4,5,6,7,8,9,10,11,12,0,13,14]))
 refine WK B9<|ah fun _ Ci=>av<|WS fun _ Ck=>?_
 obtain ⟨d,hd⟩:=aJ ht j I
 obtain ⟨da,Eq⟩:=aJ G.2 j I
 have KW:(List.zipWith ax.cells ht G.2)[j]? =some (ax.cells d da):=dy hd Eq
 refine rS (IA j U (show il _ (rd G.1.1 ht.length 7 (List.zipWith ax.cells ht G.2)).holds from (du 10 U (bM D AB cb))) wE dc I I)<|rS (oI j 0 (bk.cells (bk.mk d.Out d.eH d.Time (eB.mk d.cr.Start d.cr.fZ (br.mk da.1 d.cr.ag.length da.2)))) U bX (show il _ (rd G.1.1 ht.length 7 (List.zipWith ax.cells ht G.2)).holds from (du 10 U (bM D AB cb))) KW U dc U U)<|AL U Of fun M2=>fP U QK U<|RK Ck<|WS fun _ Cp=>bf 1 U<|rS (LP (ck.cells (lk r.ao kA kC cA cC bA bC)) 2 U bX U U U)<|rP 1 [] (mc 0 U mn) ?_
 have PF:=FS.sig d (aR hd)
 refine rS (CL (E3 r.ao kA kC az cA cC bA bC d da.1 da.2 asm asm) (lM [3,4,5,6,7]<|aw (show il _ (rd da.1 d.cr.ag.length 2 (d.cr.ag.map aK.cells)).holds from (du 11 U (bM D AB (cR _ (bM hd Eq (by simp [ax.g0]))))))<|aI) U)<|bf 3 U<|AL U de fun NE=>fP U cm U<|bf 1 U<|RK Cp<|ah fun _ Cx=>WS fun _ C0=>rP 2 [] mn ?_
 refine RK C0<|bL U (bq fun M=>?_) (bp fun M=>?_)
 ·refine WK Cx<|aj<|rP 2 [] (mc 0 U mn) ?_
  refine cY (xs:=[.tmp 119]) (cs:=(aa.cells (dx r.ao d))) U jJ de U U U U (by simp [Value.cells,aa.aU]) U U fun NU=>?_
  refine db (es2:=(List.map aa.cells ((ht.take (j+1)).map (dx r.ao)))) (m':=((ht.take (j+1)).map (dx r.ao)).length) 17 U U U EF U U sm (aZ (es:=List.map aa.cells [(dx r.ao d)]) 0 U U (by simp [aa.aU]) U) (gS _) (by simp only [List.length_map,List.length_take]; omega) (by simp only [maxLen,List.length_map,List.length_take]; omega) (by rw [List.take_add_one,hd]; simp) sq U fun GE H1=>?_
  try dsimp only
  refine bf 1 U<|aC<|aG<|KK Ci<|aj<|rP 2 [] mn ?_
  refine aC ?_
  have Dr:(vI (((j+1):Nat):Int))=(vI ((j:Int)+1)):=by exact cI I
  refine aS (b ⟨((j+1),GE,H1),⟨I,vo F hd M⟩⟩ _ _ _ U os (ct 10<|aX U Dr<|dh.nil _) (aH [3,4,5,6,7,8,9,10,11,12,13,14,15,16,17]))
 refine WS fun _ C1=>rP 2 [] mn ?_
 refine RK C1<|an<|LX hQ (false,60,0,0,none,0,[]) [] [] mn U (by rfl) U U ?_
 exact ry<|pS (kz B (fun q:eP r=>by exact M ((q.o5 ht (aR D)).2 d (aR hd))))
end
section
open Go.RowKit
theorem EJ (l:List Int) (lA:OA) (lC:Nat) (hlen:l.length=1):
 Dt Tryz.prog 59 [(vS lA 1 lC)] [] (own lA lC 3 1 (l.map iC)) (fun (x:Unit)=>(vS lA 1 lC)) (fun (x:Unit)=>True) (fun (x:Unit)=>(own lA lC 3 1 (l.map iC))):=by
 refine mJ kr Tryz.func59 U U fun E Q hQ hN=>?_
 try dsimp only
 refine WS fun _ A=>bf 1 U<|RK A<|ah fun _ D=>WS fun _ B=>bf 2 U<|rS (SX (bU (r:= .bool true) U U U gQ) U U)<|RK B<|aO U<|WS fun _ C=>rP 2 [] mn ?_
 refine RK C<|an<|LM hQ () 0 [] mn U U U U ?_
 trivial
theorem Ey (l:List Int) (lA:OA) (lC:Nat) (hlen:l.length=2):
 Dt Tryz.prog 59 [(vS lA 2 lC)] [] (own lA lC 3 1 (l.map iC)) (fun (x:(List Int))=>(vS lA (Ks l) lC)) (fun (x:(List Int))=>True) (fun (x:(List Int))=>(own lA lC 3 1 (x.map iC))):=by
 refine mJ kr Tryz.func59 U U fun c Q hQ hN=>?_
 try dsimp only
 refine WS fun _ M=>bf 1 U<|RK M<|ah fun _ N=>WS fun _ O=>bf 2 U<|rS (SX (bU (r:= .bool false) U U U gQ) U U)<|RK O<|aW U<|WK N<|ah fun _ P=>WS fun _ R=>bf 1 U<|RK R<|av<|jX 3<|d_ fun R6 V=>ah fun _ S=>WS fun _ T=>bf 3 U<|rS (SX (bU (r:= .bool true) U U U gQ) U U)<|RK T<|aO U<|WK S<|ah fun _ AA=>av<|ah fun _ B=>dB cu 10 kr<|dP 2 [] mn ?_
 obtain ⟨x,hx⟩:=aJ l 1 I
 have W:=bG iC hx
 refine dS (IA 1 U (ai (n:=2) 0 U sq) cp dc U I) ?_
 refine dS (fV 1 0 (vI x) U bX (ai (n:=l.length) 0 U sm) W U dc U)<|dP 2 [] mn ?_
 refine dS (SX (bU (r:= .int .i64 0) U U U (rO ⟨dc,dc⟩)) U U) ?_
 obtain ⟨y,hy⟩:=aJ l 0 I
 have X:=bG iC hy
 refine dS (IA 0 U (ai (n:=2) 0 U sq) cp dc U I) ?_
 refine dS (fV 0 0 (vI y) U bX (ai (n:=l.length) 0 U sm) X U dc U)<|dP 1 [] mn ?_
 refine cM<|RK B<|bL U (aL fun A=>?_) (aM fun A=>?_)
 ·refine b_<|aG<|KK AA<|aj<|bf 1 U<|rS (SX (bU (r:= .int .i64 2) U U U (ic ⟨dc,dc⟩)) U U)<|bf 1 U<|RK V<|d_ fun R19 b=>ah fun _ Z=>WS fun _ AB=>bf 3 U<|rS (SX (bU (r:= .bool false) U U U gQ) U U)<|RK AB<|aW U<|bu<|ab<|ab<|au<|KK P<|WS fun _ J=>rP 2 [] mn ?_
  refine RK J<|an ?_
  refine LM hQ l 0 [] mn U U U ?_ ?_
  ·(rw [Bs hlen hy hx A,hlen]; rfl)
  ·trivial
 refine WS fun _ C=>rP 2 [] mn ?_
 refine rS (Vy 1 U cp U os) ?_
 refine bf 1 U<|RK C<|ah fun _ D=>WS fun _ E=>bf 1 U<|RK E<|av<|jX 2<|d_ fun R14 a=>ah fun _ Y=>WS fun _ F=>rP 4 [] mn ?_
 refine RK F<|cy U (aM fun L=>?_) (aL fun L=>?_)
 ·exfalso; omega
 refine bu<|ab<|ab<|au<|KK D<|WS fun _ G=>rP 2 [] mn ?_
 refine rS (Vy 1 U cp U os) ?_
 refine NH (k:=1) 0 rfl rfl p7 (by intro v hv; simp [Value.cells] at hv; subst hv; rfl) rfl os I ?_
 try dsimp only
 rw [show (own lA lC 3 1 ((l.map iC).take 1))=(own lA lC 3 1 ((l.take 1).map iC)) from by rw [List.map_take]]
 refine RK G<|WS fun _ H=>IE 0 U fun K=>?_
 simp only [List.length_map,List.length_take] at K
 refine bf 2 U<|rS (UT 1 U cp U I)<|rP 1 [] mn ?_
 refine RK H<|an ?_
 refine LM hQ (l.take 1) 0 [] mn U U U ?_ ?_
 ·(rw [zf hlen hy hx A]; rfl)
 ·trivial
end
section
open Go.RowKit
theorem zI (r:bT) (kA:OA) (kC:Nat) (az:List RA) (cA:OA) (cC:Nat) (bA:OA) (bC:Nat) (slA:OA) (slC:Nat) (drA:OA) (drC:Nat) (ha:List cO) (heA:OA) (heC:Nat) (a:Int) (gq:Nat) (hin:e9 r az ha):
 ly Tryz.prog 35 [(vA (cv.cells (oH r kA kC cA cC bA bC slA slC drA drC heA heC))),(vS (some ⟨gq,0,none⟩) 1 1)] [(rd eX 3 2 dW),(rd kA r.ao.aP.length 9 (r.ao.aP.map al.cells)),(rd cA r.ao.ak.length 2 (List.zipWith ar.cells r.ao.ak az)),(eW (aV ar.g0 r.ao.ak az)),(rd bA r.ao.ae.length 4 (r.ao.ae.map bD.cells)),(rd slA r.aQ.length 1 (r.aQ.map iC)),(rd drA r.bQ.length 1 (r.bQ.map iC)),(rd heA r.ay.length 1 (List.zipWith cP r.ay ha)),(eW (aV iu r.ay ha)),(bV gq 3 [(vI a)])] (fun (x:Bool×Int×Nat×Nat×(OA)×Nat×(List RA)×(OA)×Nat)=>bif x.1 then (vT [(Value.pointer (some ⟨x.2.2.1,0,none⟩)),(vS x.2.2.2.2.2.2.2.1 1 x.2.2.2.2.2.2.2.2),(vI 0)]) else (vT [(Value.pointer none),(vS none 0 0),(vI x.2.1)])) (fun (x:Bool×Int×Nat×Nat×(OA)×Nat×(List RA)×(OA)×Nat)=>(x.1=true→(jS r a=0∧x.2.2.2.2.2.2.1.length=r.ay.length))∧(x.1=false→(x.2.1=jS r a∧ ¬ jS r a=0))) (fun (x:Bool×Int×Nat×Nat×(OA)×Nat×(List RA)×(OA)×Nat)=>bif x.1 then [(bV x.2.2.1 91 (fI.cells (fI.mk (oH r kA kC cA cC bA bC slA slC drA drC heA heC) (br.mk x.2.2.2.2.1 ((cN r).length) x.2.2.2.2.2.1) (Value.map (some x.2.2.2.1))))),(own x.2.2.2.2.1 x.2.2.2.2.2.1 82 1 (List.zipWith DC (cN r) x.2.2.2.2.2.2.1)),(bw (aV Du (cN r) x.2.2.2.2.2.2.1)),(gW iV x.2.2.2.1 (bK dw (aF r))),(own x.2.2.2.2.2.2.2.1 x.2.2.2.2.2.2.2.2 40 2 ([(aA (aF r) a)].map aa.cells))] else []):=by
 have y:=hin.line
 have A7:=hin.iO
 have A8:=hin.has
 have A0:=hin.iN
 have Ay:=hin.draw
 have g:=dA (r:=r)
 refine dj kr Tryz.func35 U U fun w0 Q hQ hN=>?_
 try dsimp only
 refine WS fun _ w=>fK U fun b2=>bf 3 U<|RK w<|WS fun _ N=>rP 1 [] (mc 0 U mn) ?_
 refine cX (og r kA kC az cA cC bA bC slA slC drA drC ha heA heC hin) (bj [1,2,3,4,5,6,7,8,9]) U fun y4 j=>?_
 obtain ⟨k,A6,F,E,m,B,C⟩:=y4
 cases k
 ·obtain ⟨e,he⟩:=j.2 rfl
  try dsimp only at e he
  subst e
  try dsimp only [cond_true,cond_false,List.cons_append,List.nil_append]
  refine bf 5 U<|RK N<|ah fun _ AK=>WS fun _ H=>rP 2 [] mn ?_
  refine RK H<|bL U (bq fun G=>?_) (bp fun G=>?_)
  ·exact absurd G he
  refine WS fun _ AB=>rP 4 [] mn ?_
  refine RK AB<|an<|LX hQ (false,(cK r),0,0,none,0,[],none,0) [] [] mn U (by rfl) U U ?_
  exact ry<|II (IS (i:=a) he) he
 obtain ⟨he,h⟩:=j.1 rfl
 try dsimp only [cond_true,cond_false,List.cons_append,List.nil_append]
 refine bf 5 U<|RK N<|ah fun _ J=>WS fun _ K=>bf 1 U<|rS (SX (bU (r:= .bool false) U U U mz) U U)<|RK K<|aW U<|WK J<|ah fun _ L=>WS fun _ A=>rP 2 [] mn ?_
 refine rS (CL (dT.eq (Au r kA kC az cA cC bA bC slA slC drA drC ha heA heC C m B (Value.map (some E)) F ([a]) (some ⟨gq,0,none⟩) 1 hin (by (simp; done))) cS) (lM [6,7,8,9,10,11,12,13]<|aw (ai (n:=(cN r).length) 1 U (mW (by rw [g]; exact h)))<|aw (cL 2 U tn)<|fD 0 U U<|aw (oh 14 U U (by simp [bB]) U)<|aI) U) ?_
 refine rP 2 [] mn ?_
 refine cQ (t:=26) U (bp fun v=>?_) (bq fun v=>?_)
 ·refine bf 3 U<|bf 4 U<|bf 2 U<|RK A<|aO U<|WS fun _ M=>rP 3 [] mn ?_
  refine RK M<|an<|LX hQ (false,2,0,0,none,0,[],none,0) [] [] mn U (by rfl) U U ?_
  exact ry<|pS (IX (i:=a) he I)
 refine rP 1 [] mn ?_
 refine cX (wM (some ⟨gq,0,none⟩) 1 1) (aI) U fun q A1=>?_
 try dsimp only
 refine cX (x4 ([a]) (some ⟨gq,0,none⟩) 1 q (by (simp; done))) (aw (oh 15 U U (by simp [bB]) U)<|fD 0 U U<|aI) U fun AC A2=>?_
 obtain ⟨o,s⟩:=AC
 try dsimp only
 try dsimp only
 refine iP 0 U U U U (EJ (df ([a])) o s (by (simp; done))) U kd U (fun A9 A3=>?_)
 try dsimp only
 refine bf 3 U<|rS (SX (bU (r:= .bool false) U U U gQ) U U)<|bf 1 U<|RK A<|aW U<|WK L<|WS fun _ O=>bf 1 U<|RK O<|ah fun _ P=>WS fun _ R=>bf 3 U<|RK R<|av<|jX 2<|d_ fun R33 d=>WS fun _ S=>rS (SX (bU (r:= .bool true) U U U gQ) U U)<|RK S<|ah fun _ T=>aO U<|WK T<|ah fun _ AA=>av<|WS fun _ V=>rS (TQ 0 0 U cp U dc U)<|fw 2 [] (mr 16 U mn) U<|RK V<|WS fun _ W=>bf 1 U<|rS (SX (bI U U) U U)<|fw 3 [] (mc 2 U mn) U<|rS (SX (jN (kV:=iV) (x:=a) (l:=(aF r)) (f:=dw) (z:=(aa.mk 0 0)) U U U mC (dC oJ) vy (by exact aD 5 U)) U U)<|bf 3 U<|AL U de fun A4=>fP U cm U<|rP 1 [] mn ?_
 refine RK W<|ah fun _ X=>WS fun _ Y=>?_
 rw [show ((List.lookup a (aF r)).getD (aa.mk 0 0))=(aA (aF r) a) from rfl]
 refine rP 2 [] mn ?_
 refine RK Y<|cy U (fun D=>?_) (fun D=>?_)
 ·rw [Bool.not_eq_true'] at D
  refine WS fun _ Z=>rP 3 [] mn ?_
  refine RK Z<|an<|LX hQ (false,6,0,0,none,0,[],none,0) [] [] mn U (by rfl) U U ?_
  exact ry<|pS (zk (i:=a) he I asm)
 rw [Bool.not_eq_false'] at D
 refine WK X<|aj<|rP 2 [] (mc 0 U mn) ?_
 refine cY (xs:=[.tmp 54]) (cs:=(aa.cells (aA (aF r) a))) U jJ de U U U U (by simp [Value.cells,aa.aU]) U U fun A5=>dH 40 2<|db (es2:=(List.map aa.cells ([(aA (aF r) a)]))) (m':=([(aA (aF r) a)]).length) 0 U U U EF U U sm (aZ (es:=List.map aa.cells [(aA (aF r) a)]) 1 U U (by simp [aa.aU]) U) (gS _) sm (by simp [maxLen]) sm sm U fun p u=>?_
 try dsimp only
 refine bf 1 U<|aC<|aG<|KK AA<|aj<|rS (SX (bU (r:= .int .i64 1) U U U (ic ⟨dc,dc⟩)) U U)<|bf 1 U<|RK d<|d_ fun R46 An=>WS fun _ b=>rS (SX (bU (r:= .bool false) U U U gQ) U U)<|RK b<|ah fun _ AO=>aW U<|bu<|ab<|ab<|au<|KK P<|WS fun _ c=>rP 5 [] mn ?_
 refine RK c<|an ?_
 refine LX hQ (true,0,F,E,m,B,C,p,u) [5,6,7,8,0] [] mn U (by (show List.all _ _=true; simp only [cond_true,fz,List.all_nil,xx,Bool.and_true]; rfl)) U U ?_
 exact ⟨fun _=>⟨Gd he I asm,h⟩,MT⟩
end
section
open Go.RowKit
theorem zd (r:bT) (kA:OA) (kC:Nat) (az:List RA) (cA:OA) (cC:Nat) (bA:OA) (bC:Nat) (slA:OA) (slC:Nat) (drA:OA) (drC:Nat) (ha:List cO) (heA:OA) (heC:Nat) (a b:Int) (gq:Nat) (hin:e9 r az ha):
 ly Tryz.prog 35 [(vA (cv.cells (oH r kA kC cA cC bA bC slA slC drA drC heA heC))),(vS (some ⟨gq,0,none⟩) 2 2)] [(rd eX 3 2 dW),(rd kA r.ao.aP.length 9 (r.ao.aP.map al.cells)),(rd cA r.ao.ak.length 2 (List.zipWith ar.cells r.ao.ak az)),(eW (aV ar.g0 r.ao.ak az)),(rd bA r.ao.ae.length 4 (r.ao.ae.map bD.cells)),(rd slA r.aQ.length 1 (r.aQ.map iC)),(rd drA r.bQ.length 1 (r.bQ.map iC)),(rd heA r.ay.length 1 (List.zipWith cP r.ay ha)),(eW (aV iu r.ay ha)),(bV gq 3 [(vI a),(vI b)])] (fun (x:Bool×Int×Nat×Nat×(OA)×Nat×(List RA)×(OA)×Nat)=>bif x.1 then (vT [(Value.pointer (some ⟨x.2.2.1,0,none⟩)),(vS x.2.2.2.2.2.2.2.1 2 x.2.2.2.2.2.2.2.2),(vI 0)]) else (vT [(Value.pointer none),(vS none 0 0),(vI x.2.1)])) (fun (x:Bool×Int×Nat×Nat×(OA)×Nat×(List RA)×(OA)×Nat)=>(x.1=true→(mq r a b=0∧x.2.2.2.2.2.2.1.length=r.ay.length))∧(x.1=false→(x.2.1=mq r a b∧ ¬ mq r a b=0))) (fun (x:Bool×Int×Nat×Nat×(OA)×Nat×(List RA)×(OA)×Nat)=>bif x.1 then [(bV x.2.2.1 91 (fI.cells (fI.mk (oH r kA kC cA cC bA bC slA slC drA drC heA heC) (br.mk x.2.2.2.2.1 ((cN r).length) x.2.2.2.2.2.1) (Value.map (some x.2.2.2.1))))),(own x.2.2.2.2.1 x.2.2.2.2.2.1 82 1 (List.zipWith DC (cN r) x.2.2.2.2.2.2.1)),(bw (aV Du (cN r) x.2.2.2.2.2.2.1)),(gW iV x.2.2.2.1 (bK dw (aF r))),(own x.2.2.2.2.2.2.2.1 x.2.2.2.2.2.2.2.2 40 2 ([(aA (aF r) a),(aA (aF r) b)].map aa.cells))] else []):=by
 have A5:=hin.line
 have Do:=hin.iO
 have Dr:=hin.has
 have B3:=hin.iN
 have BX:=hin.draw
 have v:=dA (r:=r)
 refine dj kr Tryz.func35 U U fun w0 Q hQ hN=>?_
 try dsimp only
 refine WS fun _ A4=>fK U fun b2=>bf 3 U<|RK A4<|WS fun _ N=>rP 1 [] (mc 0 U mn) ?_
 refine cX (og r kA kC az cA cC bA bC slA slC drA drC ha heA heC hin) (bj [1,2,3,4,5,6,7,8,9]) U fun y4 y=>?_
 obtain ⟨AC,C3,F,E,AK,C,D⟩:=y4
 cases AC
 ·obtain ⟨u,he⟩:=y.2 rfl
  try dsimp only at u he
  subst u
  try dsimp only [cond_true,cond_false,List.cons_append,List.nil_append]
  refine bf 5 U<|RK N<|ah fun _ A7=>WS fun _ H=>rP 2 [] mn ?_
  refine RK H<|bL U (bq fun G=>?_) (bp fun G=>?_)
  ·exact absurd G he
  refine WS fun _ AB=>rP 4 [] mn ?_
  refine RK AB<|an<|LX hQ (false,(cK r),0,0,none,0,[],none,0) [] [] mn U (by rfl) U U ?_
  exact ry<|II (JM (a:=a) (b:=b) he) he
 obtain ⟨he,w⟩:=y.1 rfl
 try dsimp only [cond_true,cond_false,List.cons_append,List.nil_append]
 refine bf 5 U<|RK N<|ah fun _ J=>WS fun _ K=>bf 1 U<|rS (SX (bU (r:= .bool false) U U U mz) U U)<|RK K<|aW U<|WK J<|ah fun _ L=>WS fun _ B=>rP 2 [] mn ?_
 refine rS (CL (dT.eq (Au r kA kC az cA cC bA bC slA slC drA drC ha heA heC D AK C (Value.map (some E)) F ([a,b]) (some ⟨gq,0,none⟩) 2 hin (by (simp; done))) qP) (lM [6,7,8,9,10,11,12,13]<|aw (ai (n:=(cN r).length) 1 U (mW (by rw [v]; exact w)))<|aw (cL 2 U tn)<|fD 0 U U<|aw (oh 14 U U (by simp [bB]) U)<|aI) U) ?_
 refine rP 2 [] mn ?_
 refine cQ (t:=26) U (bp fun A2=>?_) (bq fun A2=>?_)
 ·refine bf 3 U<|bf 4 U<|bf 2 U<|RK B<|aO U<|WS fun _ M=>rP 3 [] mn ?_
  refine RK M<|an<|LX hQ (false,2,0,0,none,0,[],none,0) [] [] mn U (by rfl) U U ?_
  exact ry<|pS (Bf (a:=a) (b:=b) he I)
 refine rP 1 [] mn ?_
 refine cX (wM (some ⟨gq,0,none⟩) 2 2) (aI) U fun Ay B7=>?_
 try dsimp only
 refine cX (x4 ([a,b]) (some ⟨gq,0,none⟩) 2 Ay (by (simp; done))) (aw (oh 15 U U (by simp [bB]) U)<|fD 0 U U<|aI) U fun A6 B9=>?_
 obtain ⟨AO,A0⟩:=A6
 try dsimp only
 try dsimp only
 refine iP 0 U U U U (Ey (df ([a,b])) AO A0 (by (simp; done))) U kd U (fun EQ Ci=>?_)
 try dsimp only
 refine rP 3 [] mn ?_
 have Di:=IV a b
 refine rP 2 [] mn ?_
 refine RK B<|cy U (aM fun A3=>?_) (aL fun A3=>?_)
 ·refine WS fun _ O=>rP 3 [] mn ?_
  refine RK O<|an<|LX hQ (false,2,0,0,none,0,[],none,0) [] [] mn U (by rfl) U U ?_
  exact ry<|pS (Bf (a:=a) (b:=b) he I)
 refine WK L<|WS fun _ P=>bf 1 U<|RK P<|ah fun _ R=>WS fun _ S=>bf 3 U<|RK S<|av<|jX 3<|d_ fun R35 q=>WS fun _ T=>rS (SX (bU (r:= .bool true) U U U gQ) U U)<|RK T<|ah fun _ AA=>aO U<|WK AA<|ah fun _ V=>av<|WS fun _ W=>rS (TQ 0 0 U cp U dc U)<|fw 2 [] (mr 16 U mn) U<|RK W<|WS fun _ X=>bf 1 U<|rS (SX (bI U U) U U)<|fw 3 [] (mc 2 U mn) U<|rS (SX (jN (kV:=iV) (x:=a) (l:=(aF r)) (f:=dw) (z:=(aa.mk 0 0)) U U U mC (dC oJ) vy (by exact aD 5 U)) U U)<|bf 3 U<|AL U de fun Cp=>fP U cm U<|rP 1 [] mn ?_
 refine RK X<|ah fun _ Y=>WS fun _ Z=>?_
 rw [show ((List.lookup a (aF r)).getD (aa.mk 0 0))=(aA (aF r) a) from rfl]
 refine rP 2 [] mn ?_
 refine RK Z<|cy U (fun A=>?_) (fun A=>?_)
 ·rw [Bool.not_eq_true'] at A
  refine WS fun _ c=>rP 3 [] mn ?_
  refine RK c<|an<|LX hQ (false,6,0,0,none,0,[],none,0) [] [] mn U (by rfl) U U ?_
  exact ry<|pS (zu (a:=a) (b:=b) he I (by exact .inl asm))
 rw [Bool.not_eq_false'] at A
 refine WK Y<|aj<|rP 2 [] (mc 0 U mn) ?_
 refine cY (xs:=[.tmp 54]) (cs:=(aa.cells (aA (aF r) a))) U jJ de U U U U (by simp [Value.cells,aa.aU]) U U fun Cx=>dH 40 2<|db (es2:=(List.map aa.cells ([(aA (aF r) a)]))) (m':=([(aA (aF r) a)]).length) 0 U U U EF U U sm (aZ (es:=List.map aa.cells [(aA (aF r) a)]) 1 U U (by simp [aa.aU]) U) (gS _) sm (by simp [maxLen]) sm sm U fun Ck C2=>?_
 try dsimp only
 refine bf 1 U<|aC<|aG<|KK V<|aj<|rS (SX (bU (r:= .int .i64 1) U U U (ic ⟨dc,dc⟩)) U U)<|bf 1 U<|RK q<|d_ fun R48 s=>WS fun _ d=>rS (SX (bU (r:= .bool true) U U U gQ) U U)<|RK d<|ah fun _ e=>aO U<|WK e<|ah fun _ g=>av<|WS fun _ h=>rS (TQ 1 1 U cp U dc U)<|fw 2 [] (mr 19 U mn) U<|RK h<|WS fun _ i=>bf 1 U<|rS (SX (bI U U) U U)<|fw 3 [] (mc 5 U mn) U<|rS (SX (jN (kV:=iV) (x:=b) (l:=(aF r)) (f:=dw) (z:=(aa.mk 0 0)) U U U mC (dC oJ) vy (by exact aD 8 U)) U U)<|bf 3 U<|AL U de fun C0=>fP U cm U<|rP 1 [] mn ?_
 refine RK i<|ah fun _ j=>WS fun _ k=>?_
 rw [show ((List.lookup b (aF r)).getD (aa.mk 0 0))=(aA (aF r) b) from rfl]
 refine rP 2 [] mn ?_
 refine RK k<|cy U (fun A=>?_) (fun A=>?_)
 ·rw [Bool.not_eq_true'] at A
  refine WS fun _ m=>rP 3 [] mn ?_
  refine RK m<|an<|LX hQ (false,6,0,0,none,0,[],none,0) [] [] mn U (by rfl) U U ?_
  exact ry<|pS (zu (a:=a) (b:=b) he I (by exact .inr asm))
 rw [Bool.not_eq_false'] at A
 refine WK j<|aj<|rP 2 [] (mc 0 U mn) ?_
 refine cY (xs:=[.tmp 54]) (cs:=(aa.cells (aA (aF r) b))) U jJ de U U U U (by simp [Value.cells,aa.aU]) U U fun C1=>db (es2:=(List.map aa.cells ([(aA (aF r) a),(aA (aF r) b)]))) (m':=([(aA (aF r) a),(aA (aF r) b)]).length) 2 U U U EF U U sm (aZ (es:=List.map aa.cells [(aA (aF r) b)]) 0 U U (by simp [aa.aU]) U) (gS _) sm (by simp [maxLen]) sm sm U fun An A1=>?_
 try dsimp only
 refine bf 1 U<|aC<|aG<|KK g<|aj<|rS (SX (bU (r:= .int .i64 2) U U U (ic ⟨dc,dc⟩)) U U)<|bf 1 U<|RK s<|d_ fun R61 A9=>WS fun _ o=>rS (SX (bU (r:= .bool false) U U U gQ) U U)<|RK o<|ah fun _ A8=>aW U<|bu<|ab<|ab<|au<|KK R<|WS fun _ p=>rP 5 [] mn ?_
 refine RK p<|an ?_
 refine LX hQ (true,0,F,E,AK,C,D,An,A1) [7,8,9,10,2] [] mn U (by (show List.all _ _=true; simp only [cond_true,fz,List.all_nil,xx,Bool.and_true]; rfl)) U U ?_
 exact ⟨fun _=>⟨NN he I asm asm,w⟩,MT⟩
end
section
open Go.RowKit
theorem IU (m:qI) (gm g1:Nat):
 DI Tryz.prog 97 [] [(vP g1)] [(gW iV gm (bK vB m)),(bV g1 67 [(Value.map (some gm))])] ([]:List Int) (fun ys x ys'=> ∃ n zs,(ys++[n]++zs).Perm (m.map (·.1))∧x=[vI n]∧ys'=ys++[n]) (fun ys=>ys.Perm (m.map (·.1))):=by
 refine tT kr Tryz.func97 U U fun l J Z A0 S Q hY M L hQ hN=>?_
 try dsimp only
 refine WS fun _ O=>rP 1 [] (mr 2 U mn) ?_
 refine j0 (kV:=iV) (m:=bK vB m) 1 U U vD U ⟨U,fun h=>h⟩ (by exact j_ 1 U) U fun V=>?_
 try dsimp only
 refine RK O<|av ?_
 have G:(ov m m ([]:List Int))∧(∀ p∈m,p∈m)∧(J ([]:List Int) A0)∧(Fo A0 S A0):=by exact ⟨vg,fun p hp=>hp,M,L⟩
 refine bH (ι:={z:qI×(List Int)×aq // (ov m z.1 z.2.1)∧(∀ p∈z.1,p∈m)∧(J z.2.1 z.2.2)∧(Fo A0 S z.2.2)}) [0,1,5] [2,3] U U (fun z=>[]) (fun z=>[(zm iV V gm (bK vB m) (bK vB z.1.1) none),z.1.2.2]) (fun _=>rfl) (fun _=>rfl) (fun z=>z.1.1.length) ⟨(m,([]:List Int),A0),G⟩ (dh.nil _) (aH [2,3,0,1]) ?_
 clear G
 rintro ⟨⟨left,ys,A⟩,⟨B,H,C,D⟩⟩ J3 N
 try dsimp only at B H C D
 try dsimp only
 refine WS fun _ AB=>jf (dC oJ).inj (f:=Value.bool) 2 U U U U (fun T=>?_) (fun x y hm hn=>?_)
 ·refine rP 1 [] mn ?_
  refine RK AB<|ah fun _ AA=>aW U<|bu<|ab<|ab<|au ?_
  refine hN _ _ _ (gZ (vs:=[]) trivial fun w hs=>Is 3 U (by rw [T] at B; exact wX B) C D hs)
 try dsimp only
 refine bf 1 U<|RK AB<|ah fun _ P=>aO U<|WK P<|av<|WS fun _ R=>rS (SX (jd 2 U U U) U U)<|bf 2 U<|RK R<|WS fun _ K=>rP 2 [] mn ?_
 refine ky (k:=ys) (k':=(ys++[(x)])) 3 (by first|exact hsz|exact Nat.le_refl _) hY C D U U U (by exact ⟨x,_,od hn hm B,U,U⟩) U U (fun B9 F E=>?_) (fun B9 F E=>?_)
 rotate_left 1
 ·refine rP 1 [] mn ?_
  refine RK K<|aO U<|an ?_
  refine hQ _ _ _ (gZ (vs:=[]) trivial fun w hs=>rF 3 U F E hs)
 refine rP 1 [] mn ?_
 refine RK K<|aW U<|b_<|aG<|gT 2 U fr U ?_
 refine aS (N ⟨((cq left x),(ys++[(x)]),B9),⟨od hn hm B,fT H,F,E⟩⟩ _ _ _ U (eN hm) (aT U) (aH [0,1,2,3]))
theorem N6 (gm:Nat):
 ly Tryz.prog 71 [(Value.map (some gm))] [] (fun (x:Nat)=>(Value.func (.func 97) [].toArray [(vP x)].toArray)) (fun (x:Nat)=>True) (fun (x:Nat)=>[(bV x 67 [(Value.map (some gm))])]):=by
 refine dj kr Tryz.func71 U U fun D Q hQ hN=>?_
 try dsimp only
 refine WS fun _ A=>um U U fun C=>bf 1 U<|RK A<|WS fun _ B=>rS (FU U)<|rP 1 [] mn ?_
 refine RK B<|an<|LX hQ C [0] [] mn U U U U ?_
 trivial
end
section
open Go.RowKit
theorem G2 (m:qI) (gm g1:Nat) (hlen:m.length≤12):
 ly Tryz.prog 94 [(vS none 0 0),(Value.func (.func 97) [].toArray [(vP g1)].toArray)] [(gW iV gm (bK vB m)),(bV g1 67 [(Value.map (some gm))])] (fun (x:(List Int)×(OA)×Nat)=>(vS x.2.1 x.1.length x.2.2)) (fun (x:(List Int)×(OA)×Nat)=>x.1.Perm (m.map (·.1))) (fun (x:(List Int)×(OA)×Nat)=>[(own x.2.1 x.2.2 3 1 (x.1.map iC))]):=by
 refine dj kr Tryz.func94 U U fun X Q hQ hN=>?_
 try dsimp only
 refine WS fun _ AB=>um U U fun N=>bf 1 U<|RK AB<|ah fun _ J=>WS fun _ K=>rP 1 [] mn ?_
 refine RK K<|av<|kl 1 U (by exact fun _ h=>h)<|kl 3 U (by exact fun _ h=>h)<|fQ 3 1 ?_
 refine nG (L0:=[(2,(vP N))]) (F:=[(gW iV gm (bK vB m)).ro,(bV g1 67 [(Value.map (some gm))]).ro]) (fun k (y:(OA)×Nat)=>(∃ zs,(k++zs).Perm (m.map (·.1)))) (fun k y=>[(own y.1 y.2 3 1 (k.map iC)),(bV N 32 [(vS y.1 k.length y.2)]),(gW iV gm (bK vB m)).ro]) (fun _ (_:Unit)=>False) (fun _ _=>[]) [0,3,4] [2,1] (none,0) rfl rfl (IU m gm g1) rfl rfl rfl (by exact ⟨_,List.Perm.refl _⟩) (by simp only [List.forall_mem_cons,List.not_mem_nil,false_imp_iff,implies_true,and_true]; exact ⟨⟨_,sm,(dD (bP _))⟩,⟨_,sm,(dD (bP _))⟩⟩) (by rintro k x AA ⟨n,zs,_,rfl,_⟩; rfl) rfl (aT rfl) ?_ ?_ (fun _ _ _ h=>h.elim) (fun _ _ h=>h.elim)
 rotate_left 1
 ·rintro V k ⟨a,c⟩ E A
  have B:=A
  try dsimp only at B
  try dsimp only
  refine aG<|KK J<|WS fun _ C=>rP 2 [] (mc 4 U mn) ?_
  refine RK C<|an<|hQ _ _ _ (ou 0 U U<|gZ (vs:=[(vS a k.length c)]) ⟨U,trivial⟩ fun w hs=>IT (k,a,c) [3] ?_ ?_ U U U hs)
  ·rfl
  ·first|exact E|exact hys
 rintro k x AA ⟨a,c⟩ l ra rb S Y K5 Qr6 T hx G L D O P
 obtain ⟨n,zs,hn,rfl,rfl⟩:=hx; have M:=hn.length_eq; simp only [List.length_append,List.length_map,List.length_singleton] at M
 have B:=G
 try dsimp only at B
 try dsimp only
 refine aj<|rP 1 [] mn ?_
 refine aC<|aS (L _ _ ?_)
 refine av<|aj<|rP 2 [] (mc 2 U mn) ?_
 refine cY (xs:=[.tmp 9]) (cs:=[(vI n)]) U cp ja U U U U (by simp [Value.cells]) U U fun W=>?_
 refine db (es2:=(List.map iC (k++[n]))) (m':=(k++[n]).length) 2 U U U p7 U U sm (aZ (es:=List.map iC [n]) 0 U U (by simp [bB]) U) (kf _) os (by simp only [maxLen]; omega) sm sm U fun R H=>?_
 try dsimp only
 refine Vg U AM U U<|aC<|aG ?_
 exact D (R,H) _ _ (by exact ⟨_,hn⟩) (aH [1,2,3,4])
end
section
open Go.RowKit
theorem D0 (m:qI) (gm g1:Nat) (hlen:m.length≤12):
 ly Tryz.prog 67 [(Value.func (.func 97) [].toArray [(vP g1)].toArray)] [(gW iV gm (bK vB m)),(bV g1 67 [(Value.map (some gm))])] (fun (x:(List Int)×(OA)×Nat)=>(vS x.2.1 x.1.length x.2.2)) (fun (x:(List Int)×(OA)×Nat)=>x.1.Perm (m.map (·.1))) (fun (x:(List Int)×(OA)×Nat)=>[(own x.2.1 x.2.2 3 1 (x.1.map iC))]):=by
 refine dj kr Tryz.func67 U U fun AA Q hQ hN=>?_
 try dsimp only
 refine WS fun _ A=>bf 1 U<|RK A<|WS fun _ B=>rP 1 [] mn ?_
 refine cX (G2 m gm g1 hlen) (bj [0,1]) U fun H C=>?_
 obtain ⟨E,F,G⟩:=H
 try dsimp only
 have D:=C
 refine rP 1 [] mn ?_
 refine RK B<|an<|LX hQ (E,F,G) [0] [] mn U U U U ?_
 first|exact hfin|exact D
theorem G9 (m:qI) (gm g1:Nat) (hlen:m.length≤12):
 ly Tryz.prog 41 [(Value.func (.func 97) [].toArray [(vP g1)].toArray)] [(gW iV gm (bK vB m)),(bV g1 67 [(Value.map (some gm))])] (fun (x:(OA)×Nat)=>(vS x.1 m.length x.2)) (fun (x:(OA)×Nat)=>True) (fun (x:(OA)×Nat)=>[(own x.1 x.2 3 1 ((df (m.map (·.1))).map iC))]):=by
 refine dj kr Tryz.func41 U U fun M Q hQ hN=>?_
 try dsimp only
 refine WS fun _ E=>bf 1 U<|RK E<|WS fun _ F=>rP 1 [] mn ?_
 refine cX (D0 m gm g1 hlen) (bj [0,1]) U fun L H=>?_
 obtain ⟨AA,J,K⟩:=L
 try dsimp only
 have D:=H
 refine bf 1 U<|RK F<|WS fun _ G=>rP 1 [] mn ?_
 have B:=D.length_eq
 simp only [List.length_map] at B
 refine iP 0 U U U U (AW AA J K I) U kd U (fun ms C=>?_)
 try dsimp only
 refine RK G<|WS fun _ A=>?_
 obtain rfl:=qB (C.1.trans D) C.2
 skip
 refine rP 2 [] mn ?_
 refine RK A<|an ?_
 refine LX hQ (J,K) [0] [] mn U U U ?_ ?_
 ·first|rfl|(rw [B]; rfl)
 ·trivial
end
section
open Go.RowKit
theorem Ku (m:qI) (gm:Nat):
 ly Tryz.prog 69 [(Value.map (some gm))] [(gW iV gm (bK vB m))] (fun (x:Nat)=>(Value.map (some x))) (fun (x:Nat)=>True) (fun (x:Nat)=>[(gW iV x (bK vB m))]):=by
 refine dj U3 Tryz.func69 U U fun F Q hQ hN=>?_
 try dsimp only
 refine WS fun _ A=>bf 1 U<|RK A<|ah fun _ B=>WS fun _ C=>bf 1 U<|rS (SX (bU (r:= .bool false) U U U (P2 vD)) U U)<|RK C<|aW U<|WK B<|WS fun _ D=>rP 1 [] mn ?_
 refine rS (SX (Nb U U vD) U U)<|Jv (kV:=iV) (fn:=Tryz.f95) U U Tryz.func95 U U U kr (by exact j_ 0 U) U fun E=>?_
 try dsimp only
 refine rS (SX (SN U U vD) U U)<|rP 1 [] mn ?_
 refine RK D<|an<|LX hQ E [0] [] mn U U U U ?_
 trivial
end
section
open Go.RowKit
theorem HS (r:bT) (kA:OA) (kC:Nat) (cA:OA) (cC:Nat) (bA:OA) (bC:Nat) (slA:OA) (slC:Nat) (drA:OA) (drC:Nat) (heA:OA) (heC:Nat) (tA:OA) (tN tC:Nat) (gs gw:Nat) (m:gV) (i:Int) (g1 g2:Nat) (hb: ∀ p∈m,0≤p.2.Lo∧p.2.Lo≤p.2.Hi∧p.2.Hi≤30000000):
 DI Tryz.prog 96 [] [(vP g1),(vP g2)] [(bV gw 91 (fI.cells (fI.mk (oH r kA kC cA cC bA bC slA slC drA drC heA heC) (br.mk tA tN tC) (Value.map (some gs))))),(gW iV gs (bK dw m)),(bV g1 81 [(vP gw)]),(bV g2 3 [(vI i)])] ([]:List Int) (fun ys x ys'=> ∃ n,n∈(jE m i (aA m i))∧x=[vI n]∧ys'=ys++[n]) (fun ys=> ∀ n,n∈ys↔n∈(jE m i (aA m i))):=by
 have La:=gJ (i:=i) hb
 refine tT kr Tryz.func96 U U fun l J Z A0 w0 Q hY Go GV hQ hN=>?_
 try dsimp only
 refine ah fun _ H1=>dG cu [6,7] [] [] [0,1,2,3,4] [] U U U U U<|eS U (TW 3 U bX U)<|eS U (SX (bI U U) U U)<|eS U (FA 12 U fu U)<|eS U (Ii (Value.map (some gs)) 1 U bX U U)<|eS U (TW 4 U bX U)<|eS U (SX (jW (kV:=iV) (x:=i) (l:=m) (f:=dw) (z:=(aa.mk 0 0)) U U U mC (dC oJ) vy (by exact j_ 2 U)) U U)<|eV U<|bY U fun T2 IR=>AL U de fun b3=>aC (IR _ _ (aH [1,2,3,4,5]) ?_)
 refine bY U fun T4 Id=>fP U cm U<|aC (Id _ _ (aH [1,2,3,4,5]) ?_)
 refine fF U<|KK H1<|ah fun _ IO=>WS fun _ B9=>?_
 rw [show ((List.lookup i m).getD (aa.mk 0 0))=(aA m i) from rfl]
 refine rP 3 [] (mc 0 U mn) ?_
 refine ky (k:=([]:List Int)) (k':=(([]:List Int)++[((aA m i).Lo)])) 1 (by first|exact hsz|exact Nat.le_refl _) hY Go GV U U U (by exact ⟨_,cb ..,U,U⟩) U U (fun B7 u s=>?_) (fun B7 u s=>?_)
 rotate_left 1
 ·refine rP 1 [] mn ?_
  refine RK B9<|aO U<|an ?_
  refine hQ _ _ _ (gZ (vs:=[]) trivial fun w hs=>rF 1 U u s hs)
 refine bf 1 U<|RK B9<|aW U<|WK IO<|WS fun _ AC=>fw 1 [] (mr 4 U mn) U<|rS (SX (bI U U) U U)<|rP 2 [] (mr 2 U mn) ?_
 refine j0 (kV:=iV) (m:=bK dw m) 3 U U mC U ⟨U,fun h=>h⟩ (by exact j_ 3 U) U fun Ij=>?_
 try dsimp only
 refine RK AC<|av ?_
 have j:(yJ m i (aA m i) m (([]:List Int)++[((aA m i).Lo)]))∧(∀ p∈m,p∈m)∧(J (([]:List Int)++[((aA m i).Lo)]) B7)∧(Fo A0 w0 B7):=by exact ⟨LL,fun p hp=>hp,asm,asm⟩
 refine bH (ι:={z:gV×(List Int)×aq // (yJ m i (aA m i) z.1 z.2.1)∧(∀ p∈z.1,p∈m)∧(J z.2.1 z.2.2)∧(Fo A0 w0 z.2.2)}) [0,1,2,4,24] [1,3,4,5,6] U U (fun z=>[]) (fun z=>[(zm iV Ij gs (bK dw m) (bK dw z.1.1) none),z.1.2.2]) (fun _=>rfl) (fun _=>rfl) (fun z=>z.1.1.length) ⟨(m,(([]:List Int)++[((aA m i).Lo)]),B7),j⟩ (dh.nil _) (aH [1,3,4,5,6,0,2]) ?_
 clear j
 rintro ⟨⟨left,ys,A⟩,⟨D,B,E,F⟩⟩ J12 G
 try dsimp only at D B E F
 try dsimp only
 refine WS fun _ o=>jf (dC oJ).inj (f:=dw) 5 U U U U (fun q=>?_) (fun x y hm hn=>?_)
 ·refine rP 1 [] mn ?_
  refine RK o<|ah fun _ In=>aW U<|bu<|ab<|ab<|au ?_
  refine hN _ _ _ (gZ (vs:=[]) trivial fun w hs=>Is 6 U (by rw [q] at D; exact OE D) E F hs)
 try dsimp only
 refine bf 1 U<|RK o<|ah fun _ AK=>aO U<|WK AK<|av<|WS fun _ AO=>rS (SX (jd 5 U U U) U U)<|bf 2 U<|AL U de fun LT=>bf 1 U<|fP U cm U<|RK AO<|WS fun _ An=>rP 1 [] mn ?_
 have If:=hb _ (B _ hm)
 dsimp only at If
 refine fw 5 [] (mc 0 U mn) U<|rS (SX (bh (xs:=[(0,.tmp 32),(1,.tmp 35)]) (cs:=[(vI (y.Lo+1)),(vI (y.Hi+1))]) U U (bg Tn U)) U U)<|bf 1 U<|RK An<|av<|jX 3<|d_ fun R19 c=>WS fun _ Ay=>rS (SX (bU (r:= .bool true) U U U gQ) U U)<|RK Ay<|ah fun _ A1=>aO U<|WK A1<|ah fun _ X=>av<|WS fun _ A2=>rS (SX (qT (v:=(vI (y.Lo+1))) 0 U U U F8 bX U dc U) U U)<|bf 1 U<|RK A2<|WS fun _ M=>rP 4 [] (mr 5 U mn) ?_
 refine bZ (t:=43) U (bq fun q=>?_) (bp fun q=>?_)
 ·refine bf 14 U<|RK M<|aW U<|b_<|aG<|KK X<|aj<|rS (SX (bU (r:= .int .i64 1) U U U (ic ⟨dc,dc⟩)) U U)<|bf 1 U<|RK c<|d_ fun R73 g=>WS fun _ Cx=>rS (SX (bU (r:= .bool true) U U U gQ) U U)<|RK Cx<|ah fun _ C0=>aO U<|WK C0<|ah fun _ b=>av<|WS fun _ C1=>rS (SX (qT (v:=(vI (y.Hi+1))) 1 U U U F8 bX U dc U) U U)<|bf 1 U<|RK C1<|WS fun _ P=>rP 4 [] (mr 5 U mn) ?_
  refine bZ (t:=43) U (bq fun GE=>?_) (bp fun GE=>?_)
  ·refine bf 14 U<|RK P<|aW U<|b_<|aG<|KK b<|aj<|rS (SX (bU (r:= .int .i64 2) U U U (ic ⟨dc,dc⟩)) U U)<|rP 1 [] mn ?_
   refine RK g<|d_ fun R91 LE=>WS fun _ Di=>rS (SX (bU (r:= .bool false) U U U gQ) U U)<|RK Di<|ah fun _ J8=>aW U<|bu<|ab<|ab<|au<|aG<|gT 6 U fr U ?_
   refine aS (G ⟨((cq left x),ys,A),⟨ld hn hm B D (fun n C=>by first|exact C|(simp [C]; done)) (fun n C=>by exact .inl C) (fun L n C K=>by simp only [ed,List.not_mem_nil,or_false] at C; rcases C with rfl|rfl<;>first|(simp; done)|(exfalso; omega)),fT B,E,F⟩⟩ _ _ _ rfl (eN hm) (aT rfl) (aH [1,2,3,4,5,6,7]))
  refine fw 5 [] (mc 1 U mn) U<|cY (xs:=[.tmp 48]) (cs:=[(vI (y.Hi+1))]) U cp ja U U U U (by simp [Value.cells]) U U fun Eq=>rS (CL (dT.eq (j4 ((aA m i).Lo) ((aA m i).Hi) ([(y.Hi+1)]) (some ⟨Eq,0,none⟩) 1 I) cS) (aw (aZ 0 U U (by simp [bB]) U)<|aI) U)<|rP 2 [] mn ?_
  refine bZ (t:=52) U (aL fun GT=>?_) (aM fun GT=>?_)
  ·refine bf 5 U<|RK P<|aW U<|b_<|aG<|KK b<|aj<|rS (SX (bU (r:= .int .i64 2) U U U (ic ⟨dc,dc⟩)) U U)<|rP 1 [] mn ?_
   refine RK g<|d_ fun R88 LA=>WS fun _ C3=>rS (SX (bU (r:= .bool false) U U U gQ) U U)<|RK C3<|ah fun _ J7=>aW U<|bu<|ab<|ab<|au<|aG<|gT 7 U fr U ?_
   refine aS (G ⟨((cq left x),ys,A),⟨ld hn hm B D (fun n C=>by first|exact C|(simp [C]; done)) (fun n C=>by exact .inl C) (fun L n C K=>by simp only [ed,List.not_mem_nil,or_false] at C; rcases C with rfl|rfl<;>first|(simp; done)|(exfalso; omega)),fT B,E,F⟩⟩ _ _ _ rfl (eN hm) (aT rfl) (aH [2,3,4,5,6,7,8]))
  refine rP 2 [] mn ?_
  refine ky (k:=ys) (k':=(ys++[((y.Hi+1))])) 8 (by first|exact hsz|exact Nat.le_refl _) hY E F U U U (by exact ⟨_,mV (B _ hm) dso (by first|exact .inl rfl|exact .inr U) I,U,U⟩) U U (fun B82 W T=>?_) (fun B82 W T=>?_)
  rotate_left 1
  ·refine rP 2 [] mn ?_
   refine RK P<|aO U<|an ?_
   refine hQ _ _ _ (gZ (vs:=[]) trivial fun w hs=>rF 8 U W T hs)
  refine bf 2 U<|RK P<|aW U<|b_<|aG<|KK b<|aj<|rS (SX (bU (r:= .int .i64 2) U U U (ic ⟨dc,dc⟩)) U U)<|rP 1 [] mn ?_
  refine RK g<|d_ fun R85 K_=>WS fun _ C2=>rS (SX (bU (r:= .bool false) U U U gQ) U U)<|RK C2<|ah fun _ J6=>aW U<|bu<|ab<|ab<|au<|aG<|gT 7 U fr U ?_
  refine aS (G ⟨((cq left x),(ys++[((y.Hi+1))]),B82),⟨ld hn hm B D (fun n C=>by first|exact C|(simp [C]; done)) (fun n C=>by (simp only [kG,bS] at C; rcases C with C|rfl<;>first|exact .inl C|exact .inr (mV (B _ hm) dso sm I))) (fun L n C K=>by simp only [ed,List.not_mem_nil,or_false] at C; rcases C with rfl|rfl<;>first|(simp; done)|(exfalso; omega)),fT B,W,T⟩⟩ _ _ _ rfl (eN hm) (aT rfl) (aH [2,3,4,5,6,7,8]))
 refine rP 5 [] (mc 1 U mn) ?_
 refine cY (xs:=[.tmp 48]) (cs:=[(vI (y.Lo+1))]) U cp ja U U U U (by simp [Value.cells]) U U fun Do=>?_
 refine rS (CL (dT.eq (j4 ((aA m i).Lo) ((aA m i).Hi) ([(y.Lo+1)]) (some ⟨Do,0,none⟩) 1 (by (simp; done))) cS) (aw (aZ 0 U U (by simp [bB]) U)<|aI) U) ?_
 refine rP 2 [] mn ?_
 refine bZ (t:=52) U (aL fun FS=>?_) (aM fun FS=>?_)
 ·refine bf 5 U<|RK M<|aW U<|b_<|aG<|KK X<|aj<|rS (SX (bU (r:= .int .i64 1) U U U (ic ⟨dc,dc⟩)) U U)<|bf 1 U<|RK c<|d_ fun R52 e=>WS fun _ A9=>rS (SX (bU (r:= .bool true) U U U gQ) U U)<|RK A9<|ah fun _ BX=>aO U<|WK BX<|ah fun _ a=>av<|WS fun _ B3=>rS (SX (qT (v:=(vI (y.Hi+1))) 1 U U U F8 bX U dc U) U U)<|bf 1 U<|RK B3<|WS fun _ O=>rP 4 [] (mr 6 U mn) ?_
  refine bZ (t:=43) U (bq fun F0=>?_) (bp fun F0=>?_)
  ·refine bf 14 U<|RK O<|aW U<|b_<|aG<|KK a<|aj<|rS (SX (bU (r:= .int .i64 2) U U U (ic ⟨dc,dc⟩)) U U)<|rP 1 [] mn ?_
   refine RK e<|d_ fun R70 K8=>WS fun _ Cp=>rS (SX (bU (r:= .bool false) U U U gQ) U U)<|RK Cp<|ah fun _ J5=>aW U<|bu<|ab<|ab<|au<|aG<|gT 7 U fr U ?_
   refine aS (G ⟨((cq left x),ys,A),⟨ld hn hm B D (fun n C=>by first|exact C|(simp [C]; done)) (fun n C=>by exact .inl C) (fun L n C K=>by simp only [ed,List.not_mem_nil,or_false] at C; rcases C with rfl|rfl<;>first|(simp; done)|(exfalso; omega)),fT B,E,F⟩⟩ _ _ _ rfl (eN hm) (aT rfl) (aH [2,3,4,5,6,7,8]))
  refine rP 5 [] (mc 2 U mn) ?_
  refine cY (xs:=[.tmp 48]) (cs:=[(vI (y.Hi+1))]) U cp ja U U U U (by simp [Value.cells]) U U fun EQ=>?_
  refine rS (CL (dT.eq (j4 ((aA m i).Lo) ((aA m i).Hi) ([(y.Hi+1)]) (some ⟨EQ,0,none⟩) 1 (by (simp; done))) cS) (aw (aZ 0 U U (by simp [bB]) U)<|aI) U) ?_
  refine rP 2 [] mn ?_
  refine bZ (t:=52) U (aL fun F6=>?_) (aM fun F6=>?_)
  ·refine bf 5 U<|RK O<|aW U<|b_<|aG<|KK a<|aj<|rS (SX (bU (r:= .int .i64 2) U U U (ic ⟨dc,dc⟩)) U U)<|rP 1 [] mn ?_
   refine RK e<|d_ fun R67 K5=>WS fun _ Ck=>rS (SX (bU (r:= .bool false) U U U gQ) U U)<|RK Ck<|ah fun _ J4=>aW U<|bu<|ab<|ab<|au<|aG<|gT 8 U fr U ?_
   refine aS (G ⟨((cq left x),ys,A),⟨ld hn hm B D (fun n C=>by first|exact C|(simp [C]; done)) (fun n C=>by exact .inl C) (fun L n C K=>by simp only [ed,List.not_mem_nil,or_false] at C; rcases C with rfl|rfl<;>first|(simp; done)|(exfalso; omega)),fT B,E,F⟩⟩ _ _ _ rfl (eN hm) (aT rfl) (aH [3,4,5,6,7,8,9]))
  refine rP 2 [] mn ?_
  refine ky (k:=ys) (k':=(ys++[((y.Hi+1))])) 9 (by first|exact hsz|exact Nat.le_refl _) hY E F U U U (by exact ⟨_,mV (B _ hm) dso (by first|exact .inl rfl|exact .inr U) I,U,U⟩) U U (fun B61 V S=>?_) (fun B61 V S=>?_)
  rotate_left 1
  ·refine rP 2 [] mn ?_
   refine RK O<|aO U<|an ?_
   refine hQ _ _ _ (gZ (vs:=[]) trivial fun w hs=>rF 9 U V S hs)
  refine bf 2 U<|RK O<|aW U<|b_<|aG<|KK a<|aj<|rS (SX (bU (r:= .int .i64 2) U U U (ic ⟨dc,dc⟩)) U U)<|rP 1 [] mn ?_
  refine RK e<|d_ fun R64 K4=>WS fun _ Ci=>rS (SX (bU (r:= .bool false) U U U gQ) U U)<|RK Ci<|ah fun _ J3=>aW U<|bu<|ab<|ab<|au<|aG<|gT 8 U fr U ?_
  refine aS (G ⟨((cq left x),(ys++[((y.Hi+1))]),B61),⟨ld hn hm B D (fun n C=>by first|exact C|(simp [C]; done)) (fun n C=>by (simp only [kG,bS] at C; rcases C with C|rfl<;>first|exact .inl C|exact .inr (mV (B _ hm) dso sm I))) (fun L n C K=>by simp only [ed,List.not_mem_nil,or_false] at C; rcases C with rfl|rfl<;>first|(simp; done)|(exfalso; omega)),fT B,V,S⟩⟩ _ _ _ rfl (eN hm) (aT rfl) (aH [3,4,5,6,7,8,9]))
 refine rP 2 [] mn ?_
 refine ky (k:=ys) (k':=(ys++[((y.Lo+1))])) 8 (by first|exact hsz|exact Nat.le_refl _) hY E F U U U (by exact ⟨_,mV (B _ hm) dso (by first|exact .inl rfl|exact .inr U) I,U,U⟩) U U (fun B28 AB H=>?_) (fun B28 AB H=>?_)
 rotate_left 1
 ·refine rP 2 [] mn ?_
  refine RK M<|aO U<|an ?_
  refine hQ _ _ _ (gZ (vs:=[]) trivial fun w hs=>rF 8 U AB H hs)
 refine bf 2 U<|RK M<|aW U<|b_<|aG<|KK X<|aj<|rS (SX (bU (r:= .int .i64 1) U U U (ic ⟨dc,dc⟩)) U U)<|bf 1 U<|RK c<|d_ fun R31 d=>WS fun _ A3=>rS (SX (bU (r:= .bool true) U U U gQ) U U)<|RK A3<|ah fun _ A4=>aO U<|WK A4<|ah fun _ Y=>av<|WS fun _ A5=>rS (SX (qT (v:=(vI (y.Hi+1))) 1 U U U F8 bX U dc U) U U)<|bf 1 U<|RK A5<|WS fun _ N=>rP 4 [] (mr 6 U mn) ?_
 refine bZ (t:=43) U (bq fun Fd=>?_) (bp fun Fd=>?_)
 ·refine bf 14 U<|RK N<|aW U<|b_<|aG<|KK Y<|aj<|rS (SX (bU (r:= .int .i64 2) U U U (ic ⟨dc,dc⟩)) U U)<|rP 1 [] mn ?_
  refine RK d<|d_ fun R49 K0=>WS fun _ A8=>rS (SX (bU (r:= .bool false) U U U gQ) U U)<|RK A8<|ah fun _ J2=>aW U<|bu<|ab<|ab<|au<|aG<|gT 7 U fr U ?_
  refine aS (G ⟨((cq left x),(ys++[((y.Lo+1))]),B28),⟨ld hn hm B D (fun n C=>by first|exact C|(simp [C]; done)) (fun n C=>by (simp only [kG,bS] at C; rcases C with C|rfl<;>first|exact .inl C|exact .inr (mV (B _ hm) dso sm I))) (fun L n C K=>by simp only [ed,List.not_mem_nil,or_false] at C; rcases C with rfl|rfl<;>first|(simp; done)|(exfalso; omega)),fT B,AB,H⟩⟩ _ _ _ rfl (eN hm) (aT rfl) (aH [2,3,4,5,6,7,8]))
 refine rP 5 [] (mc 2 U mn) ?_
 refine cY (xs:=[.tmp 48]) (cs:=[(vI (y.Hi+1))]) U cp ja U U U U (by simp [Value.cells]) U U fun Dr=>?_
 refine rS (CL (dT.eq (j4 ((aA m i).Lo) ((aA m i).Hi) ([(y.Hi+1)]) (some ⟨Dr,0,none⟩) 1 (by (simp; done))) cS) (aw (aZ 0 U U (by simp [bB]) U)<|aI) U) ?_
 refine rP 2 [] mn ?_
 refine bZ (t:=52) U (aL fun Fn=>?_) (aM fun Fn=>?_)
 ·refine bf 5 U<|RK N<|aW U<|b_<|aG<|KK Y<|aj<|rS (SX (bU (r:= .int .i64 2) U U U (ic ⟨dc,dc⟩)) U U)<|rP 1 [] mn ?_
  refine RK d<|d_ fun R46 KW=>WS fun _ A7=>rS (SX (bU (r:= .bool false) U U U gQ) U U)<|RK A7<|ah fun _ JL=>aW U<|bu<|ab<|ab<|au<|aG<|gT 8 U fr U ?_
  refine aS (G ⟨((cq left x),(ys++[((y.Lo+1))]),B28),⟨ld hn hm B D (fun n C=>by first|exact C|(simp [C]; done)) (fun n C=>by (simp only [kG,bS] at C; rcases C with C|rfl<;>first|exact .inl C|exact .inr (mV (B _ hm) dso sm I))) (fun L n C K=>by simp only [ed,List.not_mem_nil,or_false] at C; rcases C with rfl|rfl<;>first|(simp; done)|(exfalso; omega)),fT B,AB,H⟩⟩ _ _ _ rfl (eN hm) (aT rfl) (aH [3,4,5,6,7,8,9]))
 refine rP 2 [] mn ?_
 refine ky (k:=(ys++[((y.Lo+1))])) (k':=((ys++[((y.Lo+1))])++[((y.Hi+1))])) 9 (by first|exact hsz|exact Nat.le_refl _) hY AB H U U U (by exact ⟨_,mV (B _ hm) dso (by first|exact .inl rfl|exact .inr U) I,U,U⟩) U U (fun B40 AA R=>?_) (fun B40 AA R=>?_)
 rotate_left 1
 ·refine rP 2 [] mn ?_
  refine RK N<|aO U<|an ?_
  refine hQ _ _ _ (gZ (vs:=[]) trivial fun w hs=>rF 9 U AA R hs)
 refine bf 2 U<|RK N<|aW U<|b_<|aG<|KK Y<|aj<|rS (SX (bU (r:= .int .i64 2) U U U (ic ⟨dc,dc⟩)) U U)<|rP 1 [] mn ?_
 refine RK d<|d_ fun R43 J9=>WS fun _ A6=>rS (SX (bU (r:= .bool false) U U U gQ) U U)<|RK A6<|ah fun _ I0=>aW U<|bu<|ab<|ab<|au<|aG<|gT 8 U fr U ?_
 refine aS (G ⟨((cq left x),((ys++[((y.Lo+1))])++[((y.Hi+1))]),B40),⟨ld hn hm B D (fun n C=>by first|exact C|(simp [C]; done)) (fun n C=>by (simp only [kG,bS] at C; rcases C with (C|rfl)|rfl<;>first|exact .inl C|exact .inr (mV (B _ hm) dso sm I))) (fun L n C K=>by simp only [ed,List.not_mem_nil,or_false] at C; rcases C with rfl|rfl<;>first|(simp; done)|(exfalso; omega)),fT B,AA,R⟩⟩ _ _ _ rfl (eN hm) (aT rfl) (aH [3,4,5,6,7,8,9]))
theorem Jm (gw:Nat) (i:Int):
 ly Tryz.prog 70 [(vP gw),(vI i)] [] (fun (x:Nat×Nat)=>(Value.func (.func 96) [].toArray [(Value.pointer (some ⟨x.1,0,none⟩)),(Value.pointer (some ⟨x.2,0,none⟩))].toArray)) (fun (x:Nat×Nat)=>True) (fun (x:Nat×Nat)=>[(bV x.1 81 [(vP gw)]),(bV x.2 3 [(vI i)])]):=by
 refine dj kr Tryz.func70 U U fun E Q hQ hN=>?_
 try dsimp only
 refine WS fun _ A=>um U U fun C=>um U U fun D=>bf 1 U<|RK A<|WS fun _ B=>rS (FU U)<|rP 1 [] mn ?_
 refine RK B<|an<|LX hQ (C,D) [1,0] [] mn U U U U ?_
 trivial
end
section
open Go.RowKit
theorem AV (r:bT) (kA:OA) (kC:Nat) (cA:OA) (cC:Nat) (bA:OA) (bC:Nat) (slA:OA) (slC:Nat) (drA:OA) (drC:Nat) (heA:OA) (heC:Nat) (tA:OA) (tN tC:Nat) (gs gw:Nat) (m:gV) (i:Int) (hb: ∀ p∈m,0≤p.2.Lo∧p.2.Lo≤p.2.Hi∧p.2.Hi≤30000000) (hi:m.lookup i≠none) (hm12:m.length≤12):
 ly Tryz.prog 44 [(vP gw),(vI i)] [(bV gw 91 (fI.cells (fI.mk (oH r kA kC cA cC bA bC slA slC drA drC heA heC) (br.mk tA tN tC) (Value.map (some gs))))),(gW iV gs (bK dw m))] (fun (x:(OA)×Nat)=>(vS x.1 ((c_ m i (aA m i)).length) x.2)) (fun (x:(OA)×Nat)=>True) (fun (x:(OA)×Nat)=>[(own x.1 x.2 3 1 ((c_ m i (aA m i)).map iC))]):=by
 refine dj kr Tryz.func44 U U fun w0 Q hQ hN=>?_
 try dsimp only
 refine WS fun _ GV=>um U U fun b2=>um U U fun b3=>rP 1 [] mn ?_
 refine RK GV<|WS fun _ Go=>l7 (kV:=iV) U U fun AA=>?_
 try dsimp only
 refine AL U U7 fun b6=>G1 U Uc U U<|RK Go<|ah fun _ H1=>WS fun _ IO=>fw 1 [] (mc 3 U mn) U<|rS (SX (bI U U) U U)<|fw 2 [] (mr 4 U mn) U<|rS (SX (rW U U mC (by exact j_ 5 U)) U U)<|rP 1 [] mn ?_
 refine RK IO<|av ?_
 have A:(0≤m.length)∧(iR ([]:qI) (fun u=>1≤u∧u≤(0:Int))):=by exact ⟨Nat.zero_le _,Mp fun k=>by omega⟩
 refine bH (ι:={z:Nat×qI // (z.1≤m.length)∧(iR z.2 (fun u=>1≤u∧u≤(z.1:Int)))}) [2,3,5,20] [0,2,3,4,5] U U (fun z=>[(21,(vI (z.1.1:Int)))]) (fun z=>[(gW iV AA (bK vB z.1.2))]) (fun _=>rfl) (fun _=>rfl) (fun z=>m.length-z.1.1) ⟨(0,([]:qI)),A⟩ (aT U) (aH [0,2,3,4,5,1]) ?_
 clear A
 rintro ⟨⟨n,nv⟩,⟨j,K⟩⟩ J9 GT
 try dsimp only at j K
 try dsimp only
 refine WS fun _ An=>rP 1 [] mn ?_
 refine RK An<|ah fun _ Ay=>cy U (aM fun F0=>?_) (aL fun F0=>?_)
 ·refine WK Ay<|ah fun _ A0=>av<|WS fun _ A1=>bf 2 U<|RK A1<|aj<|fw 3 [] (mc 0 U mn) U<|g_ (kV:=iV) (x:=((n:Int)+1)) (C':=[_,_,_,_,_,(gW iV AA (bK vB (dL nv ((n:Int)+1) true)))]) 5 U U U U vD (dC oJ) U (fM _ _ _ _).symm U<|aC<|aG<|KK A0<|aj<|rP 2 [] mn ?_
  refine aC ?_
  have EQ:(vI (((n+1):Nat):Int))=(vI ((n:Int)+1)):=by exact cI I
  refine aS (GT ⟨((n+1),(dL nv ((n:Int)+1) true)),⟨I,(Kp K I).yu fun k=>by omega⟩⟩ _ _ _ U os (ct 4<|aX U EQ<|dh.nil _) (aH [0,1,2,3,4,5]))
 refine bu<|ab<|ab<|au<|KK H1<|WS fun _ A2=>rP 1 [] (mc 0 U mn) ?_
 refine cX (Ku nv AA) (bj [5]) U fun G K0=>?_
 try dsimp only
 refine bf 1 U<|RK A2<|ah fun _ A3=>WS fun _ A4=>rP 2 [0,1] (mc 3 U (mc 2 U mn)) ?_
 refine cX (Jm gw i) (aI) U fun J2 K4=>?_
 obtain ⟨Z,c⟩:=J2
 try dsimp only
 refine RK A4<|av<|kl 6 U (by exact fun _ h=>h)<|kl 8 U (by exact fun _ h=>h) ?_
 refine nG (L0:=[(2,(vP b2)),(3,(vP b3)),(5,(vP b6)),(7,(Value.map (some G)))]) (F:=[(bV gw 91 (fI.cells (fI.mk (oH r kA kC cA cC bA bC slA slC drA drC heA heC) (br.mk tA tN tC) (Value.map (some gs))))).ro,(gW iV gs (bK dw m)).ro,(bV Z 81 [(vP gw)]),(bV c 3 [(vI i)])]) (fun k (y:qI)=>(iR y (uc m i k))) (fun k y=>[(gW iV G (bK vB nv)),(bV b6 67 [(Value.map (some AA))]),(bV b3 3 [(vI i)]),(bV b2 81 [(vP gw)]),(bV gw 91 (fI.cells (fI.mk (oH r kA kC cA cC bA bC slA slC drA drC heA heC) (br.mk tA tN tC) (Value.map (some gs))))).ro,(gW iV gs (bK dw m)).ro,(gW iV AA (bK vB y))]) (fun _ (_:Unit)=>False) (fun _ _=>[]) [4,5,6,7,8,9,10] [1,0,2,3] nv rfl rfl (HS r kA kC cA cC bA bC slA slC drA drC heA heC tA tN tC gs gw m i Z c (by exact hb)) rfl rfl rfl (by exact Ix (K.yu fun k=>by omega)) (by simp only [List.forall_mem_cons,List.not_mem_nil,false_imp_iff,implies_true,and_true]; exact ⟨⟨_,sm,(dD (bP _))⟩,⟨_,sm,(dD (bP _))⟩,⟨_,sm,(bP _)⟩,⟨_,sm,(bP _)⟩⟩) (by rintro k x k2 ⟨n,_,rfl,_⟩; rfl) rfl (aT rfl) ?_ ?_ (fun _ _ _ h=>h.elim) (fun _ _ h=>h.elim)
 rotate_left 1
 ·rintro Ls k nw Eq g
  have T:=g
  try dsimp only
  refine aG<|KK A3<|ah fun _ C2=>WS fun _ C3=>rP 1 [] (mc 6 U mn) ?_
  refine uB 11 U U vD U U fun I0=>?_
  try dsimp only
  refine RK C3<|av ?_
  have A:(∀ p∈nw,p∈nw)∧(iR nv (fun u=>(1≤u∧u≤(m.length:Int))∧ ¬ (uc m i k u∧u ∉ nw.map (·.1)))):=by exact ⟨fun p hp=>hp,K.yu fun u=>⟨fun q=>⟨I,fun z=>z.2 ((T.2 u).2 z.1)⟩,fun q=>by omega⟩⟩
  refine bH (ι:={z:qI×qI // (∀ p∈z.1,p∈nw)∧(iR z.2 (fun u=>(1≤u∧u≤(m.length:Int))∧ ¬ (uc m i k u∧u ∉ z.1.map (·.1))))}) [7,68] [0,1,2,9,10] U U (fun z=>[]) (fun z=>[(gW iV G (bK vB z.1.2)),(yZ iV I0 AA (bK vB nw) (bK vB z.1.1) none)]) (fun _=>rfl) (fun _=>rfl) (fun z=>z.1.1.length) ⟨(nw,nv),A⟩ (dh.nil _) (aH [0,1,2,9,10,5,11]) ?_
  clear A
  rintro ⟨⟨left,rk⟩,⟨AB,J⟩⟩ J55 AO
  try dsimp only at AB J
  try dsimp only
  refine WS fun _ X=>sx (dC oJ).inj (f:=Value.bool) 6 U U U U (fun GE=>?_) (fun u v FS LA=>?_)
  rotate_left 1
  ·try dsimp only
   refine bf 1 U<|RK X<|ah fun _ Do=>aO U<|WK Do<|av<|WS fun _ Dr=>rS (SX (sh 6 U U U) U U)<|bf 2 U<|RK Dr<|aj<|rP 2 [] mn ?_
   refine pd (kV:=iV) (x:=u) (C':=[_,_,_,_,_,(gW iV G (bK vB (cq rk u))),_]) 5 U U U U vD (dC oJ) U (lO _ _ _).symm U<|aC<|aG<|gT 6 U x3 U ?_
   refine aS (AO ⟨((cq left u),(cq rk u)),⟨fT AB,M0 AB T FS J⟩⟩ _ _ _ U (eN FS) (aT U) (aH [0,1,2,3,4,5,6]))
  refine rP 1 [] mn ?_
  refine RK X<|ah fun _ KW=>aW U<|bu<|ab<|ab<|au<|KK C2<|WS fun _ Di=>?_
  have Fd:iR rk (fun u=>(1≤u∧u≤(m.length:Int))∧ ¬ uc m i k u):=J.yu fun u=>⟨fun q=>⟨q.1,fun z=>q.2 ⟨z,by rw [GE]; simp⟩⟩,fun q=>⟨q.1,fun z=>q.2 z.1⟩⟩
  have Y:df (rk.map (·.1))=(c_ m i (aA m i)):=ED hi Eq Fd
  have LS:rk.length≤m.length:=Mi Fd fun k q=>q.1
  have IR:rk.length=(c_ m i (aA m i)).length:=by rw [← Y]; simp
  refine rP 1 [] mn ?_
  refine cX (N6 G) (aI) U fun Fn K5=>?_
  try dsimp only
  refine cX (G9 rk G Fn I) (bj [6,0]) U fun J3 K8=>?_
  obtain ⟨o,AC⟩:=J3
  try dsimp only
  rw [Y]
  refine rP 1 [] mn ?_
  refine RK Di<|an<|hQ _ _ _ (ou 2 U U<|gZ (vs:=[(vS o rk.length AC)]) ⟨U,trivial⟩ fun w hs=>IT (o,AC) [0] ?_ ?_ U U U hs)
  ·(rw [← IR]; rfl)
  ·trivial
 rintro k x k2 nw l ra rb S w1 K26 Qr27 Li hx e A5 d JL J4
 obtain ⟨n,LE,rfl,rfl⟩:=hx
 have T:=e
 try dsimp only
 refine aj<|rP 1 [] mn ?_
 refine aC<|aS (A5 _ _ ?_)
 refine av<|WS fun _ A6=>bf 2 U<|RK A6<|ah fun _ A7=>WS fun _ A8=>fw 1 [] (mc 4 U mn) U<|rS (SX (bI U U) U U)<|rP 2 [] (mr 5 U mn) ?_
 refine j0 (kV:=iV) (m:=bK dw m) 6 U U mC U ⟨U,fun h=>h⟩ (by exact j_ 6 U) U fun In=>?_
 try dsimp only
 refine RK A8<|av ?_
 have A:((1:Int)+(gG m i n:Int)=1+(gG m i n:Int))∧((1:Int)+(jr m i n:Int)=1+(jr m i n:Int))∧(∀ p∈m,p∈m)∧(1≤(1:Int)∧1≤(1:Int)):=by exact ⟨rfl,rfl,fun p hp=>hp,I⟩
 refine bH (ι:={z:gV×Int×Int // (z.2.1+(gG z.1 i n:Int)=1+(gG m i n:Int))∧(z.2.2+(jr z.1 i n:Int)=1+(jr m i n:Int))∧(∀ p∈z.1,p∈m)∧(1≤z.2.1∧1≤z.2.2)}) [2,3,5,7,8,38] [1,2,3,4,5,6,7,8] U U (fun z=>[(9,(vI z.1.2.1)),(10,(vI z.1.2.2))]) (fun z=>[(zm iV In gs (bK dw m) (bK dw z.1.1) none)]) (fun _=>rfl) (fun _=>rfl) (fun z=>z.1.1.length) ⟨(m,(1:Int),(1:Int)),A⟩ (aT U) (aH [1,2,3,4,5,6,7,8,0]) ?_
 clear A
 rintro ⟨⟨left,s,t⟩,⟨C,D,B,R⟩⟩ J33 L
 try dsimp only at C D B R
 try dsimp only
 have Id:=Fl (m:=m) (i:=i) (n:=n)
 have If:=IQ (m:=m) (i:=i) (n:=n)
 refine WS fun _ V=>jf (dC oJ).inj (f:=dw) 8 U U U U (fun P=>?_) (fun x y hm hn=>?_)
 ·refine bf 1 U<|RK V<|ah fun _ J8=>aW U<|bu<|ab<|ab<|au<|KK A7<|WS fun _ A9=>rP 2 [] mn ?_
  refine RK A9<|av ?_
  have A:(s≤s∧(s≤t+1∨s=s))∧(iR nw (fun u=>uc m i k u∧ ¬ (s≤u∧u<s))):=by exact ⟨⟨Int.le_refl _,.inr rfl⟩,T.yu fun u=>⟨fun q=>⟨q,fun z=>by omega⟩,fun q=>q.1⟩⟩
  refine bH (ι:={z:Int×qI // (s≤z.1∧(z.1≤t+1∨z.1=s))∧(iR z.2 (fun u=>uc m i k u∧ ¬ (s≤u∧u<z.1)))}) [2,3,5,7,8,9,10] [0,1,2,3,4,5,6,8] U U (fun z=>[(13,(vI z.1.1))]) (fun z=>[(gW iV AA (bK vB z.1.2))]) (fun _=>rfl) (fun _=>rfl) (fun z=>(t+1-z.1.1).toNat) ⟨(s,nw),A⟩ (aT U) (aH [0,1,2,3,4,5,6,8,7]) ?_
  clear A
  rintro ⟨⟨q,n2⟩,⟨N,H⟩⟩ J37 AK
  try dsimp only at N H
  try dsimp only
  have Id:=Fl (m:=m) (i:=i) (n:=n)
  have If:=IQ (m:=m) (i:=i) (n:=n)
  have LT:s=1+(gG m i n:Int):=by rw [P] at C; simp only [yM] at C; omega
  have La:t=1+(jr m i n:Int):=by rw [P] at D; simp only [By] at D; omega
  refine ah fun _ BX=>WS fun _ B3=>rP 3 [] mn ?_
  refine RK B3<|bL U (aL fun F6=>?_) (aM fun F6=>?_)
  ·refine bu<|ab<|ab<|au<|aG ?_
   exact d n2 _ _ (by exact Kw (a:=s) (b:=t) (by rw [P,yM] at C; omega) (by rw [P,By] at D; omega) (H.yu fun u=>⟨fun z=>⟨z.1,fun w=>z.2 I⟩,fun z=>⟨z.1,fun w=>z.2 I⟩⟩)) (aH [0,1,2,3,4,5,6,8])
  refine WK BX<|ah fun _ B7=>av<|aj<|fw 2 [] (mc 2 U mn) U<|pd (kV:=iV) (x:=q) (C':=[_,_,_,_,_,_,_,_,(gW iV AA (bK vB (cq n2 q)))]) 8 U U U U vD (dC oJ) U (lO _ _ _).symm U<|aC<|aG<|KK B7<|aj<|rP 3 [] mn ?_
  refine aC ?_
  refine aS (AK ⟨((q+1),(cq n2 q)),⟨I,D5 N.1 H⟩⟩ _ _ _ U dso (aT U) (aH [0,1,2,3,4,5,6,7,8]))
 try dsimp only
 refine bf 1 U<|RK V<|ah fun _ B9=>aO U<|WK B9<|av<|WS fun _ Ci=>rS (SX (jd 8 U U U) U U)<|bf 2 U<|AL U de fun K_=>bf 1 U<|fP U cm U<|RK Ci<|ah fun _ Ck=>WS fun _ Cp=>rP 3 [] (mc 4 U mn) ?_
 refine RK Cp<|cy U (aM fun E=>?_) (aL fun E=>?_)
 ·refine bu<|ab<|au<|gT 9 U fr U ?_
  refine aS (L ⟨((cq left x),s,t),(by refine ⟨?_,?_,fT B,?_⟩<;>dsimp only <;>first|omega|(rw [← Hr hn hm E]; omega)|(rw [← KZ hn hm E]; omega))⟩ _ _ _ U (eN hm) (aT U) (aH [1,2,3,4,5,6,7,8,9]))
 refine WK Ck<|ah fun _ W=>WS fun _ Cx=>rP 4 [] (mc 0 U mn) ?_
 refine RK Cx<|bL U (aL fun O=>?_) (aM fun O=>?_)
 ·refine WK W<|WS fun _ C1=>rP 4 [] (mc 0 U mn) ?_
  refine RK C1<|bL U (aL fun M=>?_) (aM fun M=>?_)
  ·refine b_<|aG<|gT 9 U fr U ?_
   refine aS (L ⟨((cq left x),s,t),(by refine ⟨?_,?_,fT B,?_⟩<;>dsimp only <;>first|omega|(have:=BQ hn hm E O; omega)|(have:=F9 hn hm E M; omega))⟩ _ _ _ U (eN hm) (aT U) (aH [1,2,3,4,5,6,7,8,9]))
  refine aj<|rP 3 [] mn ?_
  refine aC<|aG<|gT 9 U fr U ?_
  refine aS (L ⟨((cq left x),s,(t+1)),(by refine ⟨?_,?_,fT B,?_⟩<;>dsimp only <;>first|omega|(have:=BQ hn hm E O; omega)|(have:=B2 hn hm E M; omega))⟩ _ _ _ U (eN hm) (aT U) (aH [1,2,3,4,5,6,7,8,9]))
 refine aj<|bf 3 U<|RK W<|WS fun _ C0=>rP 4 [] (mc 0 U mn) ?_
 refine RK C0<|bL U (aL fun M=>?_) (aM fun M=>?_)
 ·refine b_<|aG<|gT 9 U fr U ?_
  refine aS (L ⟨((cq left x),(s+1),t),(by refine ⟨?_,?_,fT B,?_⟩<;>dsimp only <;>first|omega|(have:=zG hn hm E O; omega)|(have:=F9 hn hm E M; omega))⟩ _ _ _ U (eN hm) (aT U) (aH [1,2,3,4,5,6,7,8,9]))
 refine aj<|rP 3 [] mn ?_
 refine aC<|aG<|gT 9 U fr U ?_
 refine aS (L ⟨((cq left x),(s+1),(t+1)),(by refine ⟨?_,?_,fT B,?_⟩<;>dsimp only <;>first|omega|(have:=zG hn hm E O; omega)|(have:=B2 hn hm E M; omega))⟩ _ _ _ U (eN hm) (aT U) (aH [1,2,3,4,5,6,7,8,9]))
end
section
open Go.RowKit
theorem Oz (i:Int) (r:bT) (kA:OA) (kC:Nat) (az:List RA) (cA:OA) (cC:Nat) (bA:OA) (bC:Nat) (slA:OA) (slC:Nat) (drA:OA) (drC:Nat) (ha:List cO) (heA:OA) (heC:Nat) (hin:e9 r az ha):
 ly Tryz.prog 28 [(vA (cv.cells (oH r kA kC cA cC bA bC slA slC drA drC heA heC))),(vI i)] [(rd eX 3 2 dW),(rd kA r.ao.aP.length 9 (r.ao.aP.map al.cells)),(rd cA r.ao.ak.length 2 (List.zipWith ar.cells r.ao.ak az)),(eW (aV ar.g0 r.ao.ak az)),(rd bA r.ao.ae.length 4 (r.ao.ae.map bD.cells)),(rd slA r.aQ.length 1 (r.aQ.map iC)),(rd drA r.bQ.length 1 (r.bQ.map iC)),(rd heA r.ay.length 1 (List.zipWith cP r.ay ha)),(eW (aV iu r.ay ha))] (fun (x:(OA)×Nat)=>(vT [(vS x.1 ((gL r i).length) x.2),(vI (jS r i))])) (fun (x:(OA)×Nat)=>True) (fun (x:(OA)×Nat)=>[(own x.1 x.2 3 1 ((gL r i).map iC))]):=by
 have V:=hin.line
 have k:=hin.iO
 have l:=hin.has
 have c:=hin.iN
 have Z:=hin.draw
 have d:=dA (r:=r)
 refine dj kr Tryz.func28 U U fun o Q hQ hN=>?_
 try dsimp only
 refine WS fun _ AA=>fK U fun n=>bf 2 U<|RK AA<|WS fun _ G=>rP 2 [] (mc 0 U mn) ?_
 refine cY (xs:=[.tmp 11]) (cs:=[(vI i)]) U cp ja U U U U (by simp [Value.cells]) U U fun h=>cX (zI r kA kC az cA cC bA bC slA slC drA drC ha heA heC i h hin) (bj [2,3,4,5,6,7,8,9,10,0]) U fun m L=>?_
 obtain ⟨M,j,T,S,N,O,Ao,f,g⟩:=m
 cases M
 ·obtain ⟨H,he⟩:=L.2 rfl
  try dsimp only at H he
  subst H
  try dsimp only [cond_true,cond_false,List.cons_append,List.nil_append]
  refine bf 7 U<|RK G<|ah fun _ Y=>WS fun _ B=>rP 2 [] mn ?_
  refine RK B<|bL U (bq fun A=>?_) (bp fun A=>?_)
  ·exact absurd A he
  refine WS fun _ C=>dH 3 1 ?_
  rw [show (own none 0 3 1 ([]:List (List Value)))=own none 0 3 1 ((gL r i).map iC) from by rw [zE he]; rfl]
  refine bf 1 U<|rP 2 [] mn ?_
  refine RK C<|an ?_
  refine LX hQ (none,0) [0] [] mn U U U ?_ ?_
  ·(rw [zE he]; rfl)
  ·trivial
 obtain ⟨he,W⟩:=L.1 rfl
 try dsimp only [cond_true,cond_false,List.cons_append,List.nil_append]
 try dsimp only at W
 obtain ⟨J,a,AB⟩:=uP he
 have K:=np J
 have b:=mA J
 refine bf 7 U<|RK G<|ah fun _ D=>WS fun _ E=>bf 1 U<|rS (SX (bU (r:= .bool false) U U U mz) U U)<|RK E<|aW U<|WK D<|WS fun _ F=>rP 2 [] mn ?_
 refine cX (AV r kA kC cA cC bA bC slA slC drA drC heA heC N ((cN r).length) O S T (aF r) i (by exact K) (by exact AB) I) (bj [0,3]) U fun X e=>?_
 obtain ⟨P,R⟩:=X
 try dsimp only
 rw [show (c_ (aF r) i (aA (aF r) i))=gL r i from (zr he).symm]
 refine rP 2 [] mn ?_
 refine RK F<|an ?_
 refine LX hQ (P,R) [0] [] mn U U U ?_ ?_
 ·(rw [he]; rfl)
 ·trivial
theorem ti (a b:Int) (r:bT) (kA:OA) (kC:Nat) (az:List RA) (cA:OA) (cC:Nat) (bA:OA) (bC:Nat) (slA:OA) (slC:Nat) (drA:OA) (drC:Nat) (ha:List cO) (heA:OA) (heC:Nat) (hin:e9 r az ha):
 dT Tryz.prog 15 [(vA (cv.cells (oH r kA kC cA cC bA bC slA slC drA drC heA heC))),(vI a),(vI b)] [(rd eX 3 2 dW),(rd kA r.ao.aP.length 9 (r.ao.aP.map al.cells)),(rd cA r.ao.ak.length 2 (List.zipWith ar.cells r.ao.ak az)),(eW (aV ar.g0 r.ao.ak az)),(rd bA r.ao.ae.length 4 (r.ao.ae.map bD.cells)),(rd slA r.aQ.length 1 (r.aQ.map iC)),(rd drA r.bQ.length 1 (r.bQ.map iC)),(rd heA r.ay.length 1 (List.zipWith cP r.ay ha)),(eW (aV iu r.ay ha))] (vT [(Value.int .u8 (oB r a b)),(vI (mq r a b))]):=by
 have M:=hin.line
 have k:=hin.iO
 have l:=hin.has
 have V:=hin.iN
 have R:=hin.draw
 have W:=dA (r:=r)
 refine bx kr Tryz.func15 U U fun p Q hQ hN=>?_
 try dsimp only
 refine WS fun _ L=>fK U fun o=>bf 2 U<|RK L<|WS fun _ H=>rP 3 [] (mc 0 U mn) ?_
 refine cY (xs:=[.tmp 13,.tmp 14]) (cs:=[(vI a),(vI b)]) U cp ja U U U U (by simp [Value.cells]) U U fun d=>cX (zd r kA kC az cA cC bA bC slA slC drA drC ha heA heC a b d hin) (bj [2,3,4,5,6,7,8,9,10,0]) U fun m J=>?_
 obtain ⟨K,e,g,f,Z,c,Ao,X,Y⟩:=m
 cases K
 ·obtain ⟨AB,he⟩:=J.2 rfl
  try dsimp only at AB he
  subst AB
  try dsimp only [cond_true,cond_false,List.cons_append,List.nil_append]
  refine bf 7 U<|RK H<|ah fun _ P=>WS fun _ C=>rP 2 [] mn ?_
  refine RK C<|bL U (bq fun B=>?_) (bp fun B=>?_)
  ·exact absurd B he
  refine WS fun _ D=>rP 3 [] mn ?_
  refine RK D<|an<|Q2 hQ U U U U ?_
  (rw [show oB r a b=0 from if_neg he]; done)
 obtain ⟨he,O⟩:=J.1 rfl
 try dsimp only [cond_true,cond_false,List.cons_append,List.nil_append]
 try dsimp only at O
 obtain ⟨N,S,T,AA⟩:=yA he
 have A:=np N
 have h:=gJ (i:=a) A
 have j:=gJ (i:=b) A
 refine bf 7 U<|RK H<|ah fun _ E=>WS fun _ F=>bf 1 U<|rS (SX (bU (r:= .bool false) U U U mz) U U)<|RK F<|aW U<|WK E<|ah fun _ G=>dB cu 21 kr<|dP 1 [] mn ?_
 refine dS (IA 0 U (ai (n:=2) 4 U sq) jJ dc U I) ?_
 refine dS (nS ((0*2)+1) U (ai (n:=([(aA (aF r) a),(aA (aF r) b)]).length) 4 U sm) (Nat.succ_pos _) fu U)<|dS (fV 0 1 (vI ((aA (aF r) a).Hi)) U bX (ai (n:=([(aA (aF r) a),(aA (aF r) b)]).length) 4 U sm) (show ([(aA (aF r) a),(aA (aF r) b)].map aa.cells)[0]? =some [(vI ((aA (aF r) a).Lo)),(vI ((aA (aF r) a).Hi))] from U) U dc U)<|dP 1 [] mn ?_
 refine dS (IA 1 U (ai (n:=2) 4 U sq) jJ dc U I) ?_
 refine dS (nS (1*2) U (ai (n:=([(aA (aF r) a),(aA (aF r) b)]).length) 4 U sm) (Nat.succ_pos _) fu U)<|dS (fV 1 0 (vI ((aA (aF r) b).Lo)) U bX (ai (n:=([(aA (aF r) a),(aA (aF r) b)]).length) 4 U sm) (show ([(aA (aF r) a),(aA (aF r) b)].map aa.cells)[1]? =some [(vI ((aA (aF r) b).Lo)),(vI ((aA (aF r) b).Hi))] from U) U dc U)<|dP 2 [] mn ?_
 refine dS (IA 0 U (ai (n:=2) 4 U sq) jJ dc U I) ?_
 refine dS (nS (0*2) U (ai (n:=([(aA (aF r) a),(aA (aF r) b)]).length) 4 U sm) (Nat.succ_pos _) fu U)<|dS (fV 0 0 (vI ((aA (aF r) a).Lo)) U bX (ai (n:=([(aA (aF r) a),(aA (aF r) b)]).length) 4 U sm) (show ([(aA (aF r) a),(aA (aF r) b)].map aa.cells)[0]? =some [(vI ((aA (aF r) a).Lo)),(vI ((aA (aF r) a).Hi))] from U) U dc U)<|dP 1 [] mn ?_
 refine dS (IA 1 U (ai (n:=2) 4 U sq) jJ dc U I) ?_
 refine dS (nS ((1*2)+1) U (ai (n:=([(aA (aF r) a),(aA (aF r) b)]).length) 4 U sm) (Nat.succ_pos _) fu U)<|dS (fV 1 1 (vI ((aA (aF r) b).Hi)) U bX (ai (n:=([(aA (aF r) a),(aA (aF r) b)]).length) 4 U sm) (show ([(aA (aF r) a),(aA (aF r) b)].map aa.cells)[1]? =some [(vI ((aA (aF r) b).Lo)),(vI ((aA (aF r) b).Hi))] from U) U dc U)<|lz 1 U<|dS (CL (xA (decide (((aA (aF r) a).Hi)<((aA (aF r) b).Lo))) (decide (((aA (aF r) a).Lo)<((aA (aF r) b).Hi)))) (aI) U)<|dP 2 [] mn ?_
 refine cM<|RK G<|an<|Q2 hQ U U U U ?_
 (rw [he,show oB r a b=vJ _ _ from if_pos he,← NM])
theorem QP (a b:Int) (r:bT) (kA:OA) (kC:Nat) (az:List RA) (cA:OA) (cC:Nat) (bA:OA) (bC:Nat) (slA:OA) (slC:Nat) (drA:OA) (drC:Nat) (ha:List cO) (heA:OA) (heC:Nat) (hin:e9 r az ha):
 dT Tryz.prog 16 [(vA (cv.cells (oH r kA kC cA cC bA bC slA slC drA drC heA heC))),(vI a),(vI b)] [(rd eX 3 2 dW),(rd kA r.ao.aP.length 9 (r.ao.aP.map al.cells)),(rd cA r.ao.ak.length 2 (List.zipWith ar.cells r.ao.ak az)),(eW (aV ar.g0 r.ao.ak az)),(rd bA r.ao.ae.length 4 (r.ao.ae.map bD.cells)),(rd slA r.aQ.length 1 (r.aQ.map iC)),(rd drA r.bQ.length 1 (r.bQ.map iC)),(rd heA r.ay.length 1 (List.zipWith cP r.ay ha)),(eW (aV iu r.ay ha))] (vT [(Value.int .u8 (pU r a b)),(vI (mq r a b))]):=by
 have T:=hin.line
 have q:=hin.iO
 have s:=hin.has
 have d:=hin.iN
 have X:=hin.draw
 have e:=dA (r:=r)
 refine bx kr Tryz.func16 U U fun w Q hQ hN=>?_
 try dsimp only
 refine WS fun _ P=>fK U fun v=>bf 2 U<|RK P<|WS fun _ J=>rP 3 [] (mc 0 U mn) ?_
 refine cY (xs:=[.tmp 14,.tmp 15]) (cs:=[(vI a),(vI b)]) U cp ja U U U U (by simp [Value.cells]) U U fun l=>cX (zd r kA kC az cA cC bA bC slA slC drA drC ha heA heC a b l hin) (bj [2,3,4,5,6,7,8,9,10,0]) U fun u N=>?_
 obtain ⟨O,m,p,o,h,j,Ao,f,g⟩:=u
 cases O
 ·obtain ⟨M,he⟩:=N.2 rfl
  try dsimp only at M he
  subst M
  try dsimp only [cond_true,cond_false,List.cons_append,List.nil_append]
  refine bf 7 U<|RK J<|ah fun _ W=>WS fun _ E=>rP 2 [] mn ?_
  refine RK E<|bL U (bq fun D=>?_) (bp fun D=>?_)
  ·exact absurd D he
  refine WS fun _ F=>rP 3 [] mn ?_
  refine RK F<|an<|Q2 hQ U U U U ?_
  (rw [show pU r a b=0 from if_neg he]; done)
 obtain ⟨he,V⟩:=N.1 rfl
 try dsimp only [cond_true,cond_false,List.cons_append,List.nil_append]
 try dsimp only at V
 obtain ⟨AA,Y,Z,c⟩:=yA he
 have B:=np AA
 have R:=gJ (i:=a) B
 have S:=gJ (i:=b) B
 refine bf 7 U<|RK J<|ah fun _ G=>WS fun _ H=>rP 1 [] mn ?_
 refine rS (SX (bU (r:= .bool false) U U U mz) U U)<|RK H<|aW U<|WK G<|ah fun _ AB=>dG cu [19,20] [] [] [0,1,2,3,4,5,6,7,8,9,10,11,12,13,14,15] [] U U U U U<|eS U (MV U) ?_
 refine eS U (IA 0 U (ai (n:=2) 4 U sq) jJ dc U I) ?_
 refine eS U (nS (0*2) U (ai (n:=([(aA (aF r) a),(aA (aF r) b)]).length) 4 U sm) (Nat.succ_pos _) fu U)<|eS U (fV 0 0 (vI ((aA (aF r) a).Lo)) U bX (ai (n:=([(aA (aF r) a),(aA (aF r) b)]).length) 4 U sm) (show ([(aA (aF r) a),(aA (aF r) b)].map aa.cells)[0]? =some [(vI ((aA (aF r) a).Lo)),(vI ((aA (aF r) a).Hi))] from U) U dc U)<|eS U (MV U) ?_
 refine eS U (IA 1 U (ai (n:=2) 4 U sq) jJ dc U I) ?_
 refine eS U (nS (1*2) U (ai (n:=([(aA (aF r) a),(aA (aF r) b)]).length) 4 U sm) (Nat.succ_pos _) fu U)<|eS U (fV 1 0 (vI ((aA (aF r) b).Lo)) U bX (ai (n:=([(aA (aF r) a),(aA (aF r) b)]).length) 4 U sm) (show ([(aA (aF r) a),(aA (aF r) b)].map aa.cells)[1]? =some [(vI ((aA (aF r) b).Lo)),(vI ((aA (aF r) b).Hi))] from U) U dc U)<|eS U (MX U)<|eS U (MV U) ?_
 refine eS U (IA 0 U (ai (n:=2) 4 U sq) jJ dc U I) ?_
 refine eS U (nS ((0*2)+1) U (ai (n:=([(aA (aF r) a),(aA (aF r) b)]).length) 4 U sm) (Nat.succ_pos _) fu U)<|eS U (fV 0 1 (vI ((aA (aF r) a).Hi)) U bX (ai (n:=([(aA (aF r) a),(aA (aF r) b)]).length) 4 U sm) (show ([(aA (aF r) a),(aA (aF r) b)].map aa.cells)[0]? =some [(vI ((aA (aF r) a).Lo)),(vI ((aA (aF r) a).Hi))] from U) U dc U)<|eS U (MV U) ?_
 refine eS U (IA 1 U (ai (n:=2) 4 U sq) jJ dc U I) ?_
 refine eS U (nS ((1*2)+1) U (ai (n:=([(aA (aF r) a),(aA (aF r) b)]).length) 4 U sm) (Nat.succ_pos _) fu U)<|eS U (fV 1 1 (vI ((aA (aF r) b).Hi)) U bX (ai (n:=([(aA (aF r) a),(aA (aF r) b)]).length) 4 U sm) (show ([(aA (aF r) a),(aA (aF r) b)].map aa.cells)[1]? =some [(vI ((aA (aF r) b).Lo)),(vI ((aA (aF r) b).Hi))] from U) U dc U)<|eS U (MN U)<|eS U (SX (bh (xs:=[(0,.tmp 32),(1,.tmp 41)]) (cs:=(aa.cells (aa.mk (max ((aA (aF r) a).Lo) ((aA (aF r) b).Lo)) (min ((aA (aF r) a).Hi) ((aA (aF r) b).Hi))))) U U (bg gp U)) U U)<|eV U<|bY U fun T22 K=>AL U de fun k=>aC (K _ _ (aH [1,2,3,4,5,6,7,8,9,10,11,12,13,14,15,16]) ?_)
 refine bY U fun T24 L=>fP U cm U<|aC (L _ _ (aH [1,2,3,4,5,6,7,8,9,10,11,12,13,14,15,16]) ?_)
 refine fF U<|KK AB<|ah fun _ A=>dB cu 22 kr<|dP 1 [] mn ?_
 refine dS (IA 0 U (ai (n:=2) 5 U sq) jJ dc U I) ?_
 refine dS (oI 0 0 (aa.cells (aA (aF r) a)) U bX (ai (n:=([(aA (aF r) a),(aA (aF r) b)]).length) 5 U sm) (show ([(aA (aF r) a),(aA (aF r) b)].map aa.cells)[0]? =some [(vI ((aA (aF r) a).Lo)),(vI ((aA (aF r) a).Hi))] from U) U dc U U)<|dP 1 [] mn ?_
 refine dS (IA 1 U (ai (n:=2) 5 U sq) jJ dc U I) ?_
 refine dS (oI 1 0 (aa.cells (aA (aF r) b)) U bX (ai (n:=([(aA (aF r) a),(aA (aF r) b)]).length) 5 U sm) (show ([(aA (aF r) a),(aA (aF r) b)].map aa.cells)[1]? =some [(vI ((aA (aF r) b).Lo)),(vI ((aA (aF r) b).Hi))] from U) U dc U U)<|dS (BI U (s8 _ _ (aA (aF r) a) (aA (aF r) b)))<|dP 1 [] mn ?_
 refine jo (t:=50) U (aL fun C=>?_) (aM fun C=>?_)
 ·refine mL 11 [] (mc 0 U mn) U<|dS (CL (xA false (decide ((max ((aA (aF r) a).Lo) ((aA (aF r) b).Lo))≤(min ((aA (aF r) a).Hi) ((aA (aF r) b).Hi))))) (aI) U)<|dP 2 [] mn ?_
  refine cM<|RK A<|an<|Q2 hQ U U U U ?_
  (rw [he,show pU r a b=qC _ _ from if_pos he,← Oq R.2.1 S.2.1 C]; done)
 refine mL 11 [] (mc 0 U mn) U<|dS (CL (xA (decide ((max ((aA (aF r) a).Lo) ((aA (aF r) b).Lo))=(min ((aA (aF r) a).Hi) ((aA (aF r) b).Hi)))) (decide ((max ((aA (aF r) a).Lo) ((aA (aF r) b).Lo))≤(min ((aA (aF r) a).Hi) ((aA (aF r) b).Hi))))) (aI) U)<|dP 2 [] mn ?_
 refine cM<|RK A<|an<|Q2 hQ U U U U ?_
 (rw [he,show pU r a b=qC _ _ from if_pos he,← Jk C]; done)
end
section
open Go.RowKit
theorem Kr (m:gV) (gm g1:Nat):
 DI Tryz.prog 68 [] [(vP g1)] [(gW iV gm (bK dw m)),(bV g1 64 [(Value.map (some gm))])] ([]:List Int) (fun ys x ys'=> ∃ n zs,(ys++[n]++zs).Perm (m.map (·.1))∧x=[vI n]∧ys'=ys++[n]) (fun ys=>ys.Perm (m.map (·.1))):=by
 refine tT kr Tryz.func68 U U fun l J Z A0 S Q hY M L hQ hN=>?_
 try dsimp only
 refine WS fun _ O=>rP 1 [] (mr 2 U mn) ?_
 refine j0 (kV:=iV) (m:=bK dw m) 1 U U mC U ⟨U,fun h=>h⟩ (by exact j_ 1 U) U fun V=>?_
 try dsimp only
 refine RK O<|av ?_
 have G:(ov m m ([]:List Int))∧(∀ p∈m,p∈m)∧(J ([]:List Int) A0)∧(Fo A0 S A0):=by exact ⟨vg,fun p hp=>hp,M,L⟩
 refine bH (ι:={z:gV×(List Int)×aq // (ov m z.1 z.2.1)∧(∀ p∈z.1,p∈m)∧(J z.2.1 z.2.2)∧(Fo A0 S z.2.2)}) [0,1,5] [2,3] U U (fun z=>[]) (fun z=>[(zm iV V gm (bK dw m) (bK dw z.1.1) none),z.1.2.2]) (fun _=>rfl) (fun _=>rfl) (fun z=>z.1.1.length) ⟨(m,([]:List Int),A0),G⟩ (dh.nil _) (aH [2,3,0,1]) ?_
 clear G
 rintro ⟨⟨left,ys,A⟩,⟨B,H,C,D⟩⟩ J3 N
 try dsimp only at B H C D
 try dsimp only
 refine WS fun _ AB=>jf (dC oJ).inj (f:=dw) 2 U U U U (fun T=>?_) (fun x y hm hn=>?_)
 ·refine rP 1 [] mn ?_
  refine RK AB<|ah fun _ AA=>aW U<|bu<|ab<|ab<|au ?_
  refine hN _ _ _ (gZ (vs:=[]) trivial fun w hs=>Is 3 U (by rw [T] at B; exact wX B) C D hs)
 try dsimp only
 refine bf 1 U<|RK AB<|ah fun _ P=>aO U<|WK P<|av<|WS fun _ R=>rS (SX (jd 2 U U U) U U)<|bf 2 U<|RK R<|WS fun _ K=>rP 2 [] mn ?_
 refine ky (k:=ys) (k':=(ys++[(x)])) 3 (by first|exact hsz|exact Nat.le_refl _) hY C D U U U (by exact ⟨x,_,od hn hm B,U,U⟩) U U (fun B9 F E=>?_) (fun B9 F E=>?_)
 rotate_left 1
 ·refine rP 1 [] mn ?_
  refine RK K<|aO U<|an ?_
  refine hQ _ _ _ (gZ (vs:=[]) trivial fun w hs=>rF 3 U F E hs)
 refine rP 1 [] mn ?_
 refine RK K<|aW U<|b_<|aG<|gT 2 U fr U ?_
 refine aS (N ⟨((cq left x),(ys++[(x)]),B9),⟨od hn hm B,fT H,F,E⟩⟩ _ _ _ U (eN hm) (aT U) (aH [0,1,2,3]))
theorem Gk (gm:Nat):
 ly Tryz.prog 42 [(Value.map (some gm))] [] (fun (x:Nat)=>(Value.func (.func 68) [].toArray [(vP x)].toArray)) (fun (x:Nat)=>True) (fun (x:Nat)=>[(bV x 64 [(Value.map (some gm))])]):=by
 refine dj kr Tryz.func42 U U fun D Q hQ hN=>?_
 try dsimp only
 refine WS fun _ A=>um U U fun C=>bf 1 U<|RK A<|WS fun _ B=>rS (FU U)<|rP 1 [] mn ?_
 refine RK B<|an<|LX hQ C [0] [] mn U U U U ?_
 trivial
end
section
open Go.RowKit
theorem G7 (m:gV) (gm g1:Nat) (hlen:m.length≤12):
 ly Tryz.prog 94 [(vS none 0 0),(Value.func (.func 68) [].toArray [(vP g1)].toArray)] [(gW iV gm (bK dw m)),(bV g1 64 [(Value.map (some gm))])] (fun (x:(List Int)×(OA)×Nat)=>(vS x.2.1 x.1.length x.2.2)) (fun (x:(List Int)×(OA)×Nat)=>x.1.Perm (m.map (·.1))) (fun (x:(List Int)×(OA)×Nat)=>[(own x.2.1 x.2.2 3 1 (x.1.map iC))]):=by
 refine dj kr Tryz.func94 U U fun X Q hQ hN=>?_
 try dsimp only
 refine WS fun _ AB=>um U U fun N=>bf 1 U<|RK AB<|ah fun _ J=>WS fun _ K=>rP 1 [] mn ?_
 refine RK K<|av<|kl 1 U (by exact fun _ h=>h)<|kl 3 U (by exact fun _ h=>h)<|fQ 3 1 ?_
 refine nG (L0:=[(2,(vP N))]) (F:=[(gW iV gm (bK dw m)).ro,(bV g1 64 [(Value.map (some gm))]).ro]) (fun k (y:(OA)×Nat)=>(∃ zs,(k++zs).Perm (m.map (·.1)))) (fun k y=>[(own y.1 y.2 3 1 (k.map iC)),(bV N 32 [(vS y.1 k.length y.2)]),(gW iV gm (bK dw m)).ro]) (fun _ (_:Unit)=>False) (fun _ _=>[]) [0,3,4] [2,1] (none,0) rfl rfl (Kr m gm g1) rfl rfl rfl (by exact ⟨_,List.Perm.refl _⟩) (by simp only [List.forall_mem_cons,List.not_mem_nil,false_imp_iff,implies_true,and_true]; exact ⟨⟨_,sm,(dD (bP _))⟩,⟨_,sm,(dD (bP _))⟩⟩) (by rintro k x AA ⟨n,zs,_,rfl,_⟩; rfl) rfl (aT rfl) ?_ ?_ (fun _ _ _ h=>h.elim) (fun _ _ h=>h.elim)
 rotate_left 1
 ·rintro V k ⟨a,c⟩ E A
  have B:=A
  try dsimp only at B
  try dsimp only
  refine aG<|KK J<|WS fun _ C=>rP 2 [] (mc 4 U mn) ?_
  refine RK C<|an<|hQ _ _ _ (ou 0 U U<|gZ (vs:=[(vS a k.length c)]) ⟨U,trivial⟩ fun w hs=>IT (k,a,c) [3] ?_ ?_ U U U hs)
  ·rfl
  ·first|exact E|exact hys
 rintro k x AA ⟨a,c⟩ l ra rb S Y K5 Qr6 T hx G L D O P
 obtain ⟨n,zs,hn,rfl,rfl⟩:=hx; have M:=hn.length_eq; simp only [List.length_append,List.length_map,List.length_singleton] at M
 have B:=G
 try dsimp only at B
 try dsimp only
 refine aj<|rP 1 [] mn ?_
 refine aC<|aS (L _ _ ?_)
 refine av<|aj<|rP 2 [] (mc 2 U mn) ?_
 refine cY (xs:=[.tmp 9]) (cs:=[(vI n)]) U cp ja U U U U (by simp [Value.cells]) U U fun W=>?_
 refine db (es2:=(List.map iC (k++[n]))) (m':=(k++[n]).length) 2 U U U p7 U U sm (aZ (es:=List.map iC [n]) 0 U U (by simp [bB]) U) (kf _) os (by simp only [maxLen]; omega) sm sm U fun R H=>?_
 try dsimp only
 refine Vg U AM U U<|aC<|aG ?_
 exact D (R,H) _ _ (by exact ⟨_,hn⟩) (aH [1,2,3,4])
end
section
open Go.RowKit
theorem EY (m:gV) (gm g1:Nat) (hlen:m.length≤12):
 ly Tryz.prog 67 [(Value.func (.func 68) [].toArray [(vP g1)].toArray)] [(gW iV gm (bK dw m)),(bV g1 64 [(Value.map (some gm))])] (fun (x:(List Int)×(OA)×Nat)=>(vS x.2.1 x.1.length x.2.2)) (fun (x:(List Int)×(OA)×Nat)=>x.1.Perm (m.map (·.1))) (fun (x:(List Int)×(OA)×Nat)=>[(own x.2.1 x.2.2 3 1 (x.1.map iC))]):=by
 refine dj kr Tryz.func67 U U fun AA Q hQ hN=>?_
 try dsimp only
 refine WS fun _ A=>bf 1 U<|RK A<|WS fun _ B=>rP 1 [] mn ?_
 refine cX (G7 m gm g1 hlen) (bj [0,1]) U fun H C=>?_
 obtain ⟨E,F,G⟩:=H
 try dsimp only
 have D:=C
 refine rP 1 [] mn ?_
 refine RK B<|an<|LX hQ (E,F,G) [0] [] mn U U U U ?_
 first|exact hfin|exact D
theorem zo (m:gV) (gm g1:Nat) (hlen:m.length≤12):
 ly Tryz.prog 41 [(Value.func (.func 68) [].toArray [(vP g1)].toArray)] [(gW iV gm (bK dw m)),(bV g1 64 [(Value.map (some gm))])] (fun (x:(OA)×Nat)=>(vS x.1 m.length x.2)) (fun (x:(OA)×Nat)=>True) (fun (x:(OA)×Nat)=>[(own x.1 x.2 3 1 ((df (m.map (·.1))).map iC))]):=by
 refine dj kr Tryz.func41 U U fun M Q hQ hN=>?_
 try dsimp only
 refine WS fun _ E=>bf 1 U<|RK E<|WS fun _ F=>rP 1 [] mn ?_
 refine cX (EY m gm g1 hlen) (bj [0,1]) U fun L H=>?_
 obtain ⟨AA,J,K⟩:=L
 try dsimp only
 have D:=H
 refine bf 1 U<|RK F<|WS fun _ G=>rP 1 [] mn ?_
 have B:=D.length_eq
 simp only [List.length_map] at B
 refine iP 0 U U U U (AW AA J K sd) U kd U (fun ms C=>?_)
 try dsimp only
 refine RK G<|WS fun _ A=>?_
 obtain rfl:=qB (C.1.trans D) C.2
 skip
 refine rP 2 [] mn ?_
 refine RK A<|an ?_
 refine LX hQ (J,K) [0] [] mn U U U ?_ ?_
 ·first|rfl|(rw [B]; rfl)
 ·trivial
end
section
open Go.RowKit
theorem vW (l:List Int) (lA:OA) (lC:Nat) (hlen:l.length≤1000000):
 ly Tryz.prog 45 [(vS lA l.length lC)] [(rd lA l.length 1 (l.map iC))] (fun (x:(OA)×Nat)=>(vS x.1 l.length x.2)) (fun (x:(OA)×Nat)=>True) (fun (x:(OA)×Nat)=>[(own x.1 x.2 3 1 (l.map iC))]):=by
 refine dj kr Tryz.func45 U U fun L Q hQ hN=>?_
 try dsimp only
 refine WS fun _ D=>bf 1 U<|RK D<|ah fun _ E=>WS fun _ F=>rP 1 [] mn ?_
 refine rS (BI U (qn Rl))<|RK F<|cy U (aM fun B=>?_) (aL fun B=>?_)
 ·refine WS fun _ G=>mm (aD 0 U) B dc fun C=>?_
  have A:l=[]:=by simpa using C
  refine dH 3 1 ?_
  rw [show (own none 0 3 1 ([]:List (List Value)))=own none 0 3 1 (l.map iC) from by rw [A]; rfl]
  refine rP 1 [] mn ?_
  refine RK G<|an ?_
  refine LX hQ (none,0) [0] [] mn U U U ?_ ?_
  ·first|rfl|(rw [A]; rfl)
  ·trivial
 refine WK E<|WS fun _ H=>tD U cp U fun J=>rP 1 [] mn ?_
 refine dM (es:=(List.map iC [])) (C':=[own (some ⟨J,0,none⟩) 0 3 1 (List.map iC []),_]) 0 U sm U (by simp [maxLen]) U ?_
 refine db (es2:=(List.map iC l)) (m':=l.length) 0 U U U p7 U U sm (aD 1 U) (kf _) os (by first|(simp only [maxLen]; omega)|(simp [maxLen]; omega)) sm sm U fun AA K=>?_
 try dsimp only
 refine rP 1 [] mn ?_
 refine RK H<|an ?_
 refine LX hQ (AA,K) [0] [] mn U U U ?_ ?_
 ·first|rfl|(rw [A]; rfl)
 ·trivial
theorem Bq (l:List Int) (lA:OA) (lC:Nat) (f:Value) (key:Int→Int) (X:aq) (hf: ∀ x0 x1,x0∈l∧x1∈l→Em Tryz.prog f [.int .i64 x0,.int .i64 x1] [X] (.int .i64 (key x0-key x1))) (hkb: ∀ x∈l,0≤key x∧key x≤30000000) (hlen:l.length≤1000000):
 Dt Tryz.prog 127 [(vS lA l.length lC),(vI 0),(vI (l.length:Int)),f] [X] (own lA lC 3 1 (l.map iC)) (fun (x:Unit)=>(vT [])) (fun (x:Unit)=>True) (fun (x:Unit)=>(own lA lC 3 1 ((ep key l).map iC))):=by
 refine mJ kr Tryz.func127 U U fun s Q hQ hN=>?_
 try dsimp only
 refine WS fun _ Z=>bf 1 U<|rS (SX (bU (r:= .int .i64 1) U U U (ic ⟨dc,dc⟩)) U U)<|rP 1 [] mn ?_
 refine RK Z<|av ?_
 have C:(1≤1∧(1≤l.length∨1=1))∧(l.length=l.length)∧(1=1∧l=[]∨tG key l 1 l)∧(∀ x∈l,x∈l):=by exact ⟨I,rfl,HU,fun x h=>h⟩
 refine bH (ι:={z:Nat×(List Int) // (1≤z.1∧(z.1≤l.length∨z.1=1))∧(z.2.length=l.length)∧(z.1=1∧l=[]∨tG key l z.1 z.2)∧(∀ x∈z.2,x∈l)}) [0,1,2,3] [1] U U (fun z=>[(8,(vI (z.1.1:Int)))]) (fun z=>[(own lA lC 3 1 (z.1.2.map iC))]) (fun _=>rfl) (fun _=>rfl) (fun z=>l.length-z.1.1) ⟨(1,l),C⟩ (aT U) (aH [1,0]) ?_
 clear C
 rintro ⟨⟨i,m⟩,⟨AB,E,F,G⟩⟩ J2 L
 try dsimp only at AB E F G
 try dsimp only
 refine ah fun _ b=>WS fun _ c=>rP 3 [] mn ?_
 refine RK c<|bL U (aL fun p=>?_) (aM fun p=>?_)
 ·refine bu<|ab<|ab<|au ?_
  rw [show m=ep key l from I2 I E F]
  refine LM hN () 1 [] mn U U U U ?_
  trivial
 refine WK b<|ah fun _ N=>av<|WS fun _ d=>rP 2 [] mn ?_
 refine RK d<|av ?_
 have C:(i≤i)∧(m.length=l.length)∧(∀ x∈m,x∈l)∧(Cu key l i i m):=by exact ⟨Nat.le_refl _,E,G,DG I (Nr I F)⟩
 refine bH (ι:={z:Nat×(List Int) // (z.1≤i)∧(z.2.length=l.length)∧(∀ x∈z.2,x∈l)∧(Cu key l i z.1 z.2)}) [0,1,2,3,8] [0] U U (fun z=>[(9,(vI (z.1.1:Int)))]) (fun z=>[(own lA lC 3 1 (z.1.2.map iC))]) (fun _=>rfl) (fun _=>rfl) (fun z=>z.1.1) ⟨(i,m),C⟩ (aT U) (aH [0,1]) ?_
 clear C
 rintro ⟨⟨j,q⟩,⟨J,D,A,B⟩⟩ J8 Y
 try dsimp only at J D A B
 try dsimp only
 refine ah fun _ e=>ah fun _ H=>dB cu 17 kr<|dP 4 [] mn ?_
 refine jo (t:=21) U (aL fun V=>?_) (aM fun V=>?_)
 ·refine lz 13 U<|cM<|RK H<|aW U<|bu<|ab<|ab<|au<|aG<|KK N<|aj<|rP 3 [] mn ?_
  refine aC ?_
  refine aS (L ⟨((i+1),q),⟨I,D,.inr (by first|exact ze I B|exact yR I B hx hy I),A⟩⟩ _ _ _ U (by simp only []; omega) (aT U) (aH [0,1]))
 refine dP 3 [] mn ?_
 obtain ⟨x,hx⟩:=aJ q j I
 have K:=bG iC hx
 refine dS (IA j U (ai (n:=l.length) 1 U sq) cp dc I I) ?_
 refine dS (fV j 0 (vI x) U bX (ai (n:=q.length) 1 U sm) K U dc U)<|dP 3 [] mn ?_
 obtain ⟨y,hy⟩:=aJ q (j-1) I
 have AA:=bG iC hy
 refine dS (IA (j-1) U (ai (n:=l.length) 1 U sq) cp dc I I) ?_
 refine dS (fV (j-1) 0 (vI y) U bX (ai (n:=q.length) 1 U sm) AA U dc U)<|dS (SX (sk U U U (hf x y ⟨A _ (aR hx),A _ (aR hy)⟩) (bj [0])) U U)<|dP 2 [] mn ?_
 refine cM<|RK H<|bL U (aL fun W=>?_) (aM fun W=>?_)
 ·refine bu<|ab<|ab<|au<|aG<|KK N<|aj<|rP 3 [] mn ?_
  refine aC ?_
  refine aS (L ⟨((i+1),q),⟨I,D,.inr (by first|exact ze I B|exact yR I B hx hy I),A⟩⟩ _ _ _ U (by simp only []; omega) (aT U) (aH [0,1]))
 refine WK e<|ah fun _ M=>av<|dG cu [15,16,17] [8,9,12,13,14] [] [0] [0,1] U U U U U<|eS U (MV U)<|eS U (MV U)<|eS U (MV U)<|eS U (MV U)<|eS U (BI U (rO ⟨I,I⟩))<|eS U (MV U)<|eS U (MV U)<|eS U (BI U (rO ⟨I,I⟩)) ?_
 refine fS U (IA (j-1) U (ai (n:=l.length) 1 U sq) cp dc I I) ?_
 refine fS U (fV (j-1) 0 (vI y) U bX (ai (n:=q.length) 1 U sm) AA U dc U)<|eS U (MV U)<|eS U (MV U) ?_
 refine fS U (IA j U (ai (n:=l.length) 1 U sq) cp dc I I) ?_
 refine fS U (fV j 0 (vI x) U bX (ai (n:=q.length) 1 U sm) K U dc U) ?_
 refine fS U (IA j U (ai (n:=l.length) 1 U sq) cp dc I I) ?_
 refine eV U<|bY U fun T14 O=>ew (k:=j) (o:=0) (vs:=[(vI y)]) (es':=(List.map iC (q.set j y))) (C':=[_,(own lA lC 3 1 (List.map iC (q.set j y)))]) 1 U U U Bz U U U U K U dc (by exact (List.map_set (f:=iC) (l:=q) (i:=j) (a:=y)).symm) U<|aC (O _ _ (aH [0]) ?_)
 refine bY U fun T15 P=>?_
 obtain ⟨g,T⟩:=aJ (q.set j y) (j-1) os
 have hx17m:(List.map iC (q.set j y))[(j-1)]? =some (iC g):=by rw [fq,T]; rfl
 refine rS (IA (j-1) U (ai (n:=l.length) 1 U sq) cp dc I I) ?_
 refine aC (P _ _ (aH [0]) ?_)
 refine bY U fun T18 R=>ew (k:=(j-1)) (o:=0) (vs:=[(vI x)]) (es':=(List.map iC ((q.set j y).set (j-1) x))) (C':=[_,(own lA lC 3 1 (List.map iC ((q.set j y).set (j-1) x)))]) 1 U U U Bz U U U U hx17m U dc (by exact (List.map_set (f:=iC) (l:=(q.set j y)) (i:=(j-1)) (a:=x)).symm) U<|aC (R _ _ (aH [0]) ?_)
 refine fF U<|aG<|KK M<|aj<|rP 3 [] mn ?_
 refine aC ?_
 have S:(vI (((j-1):Nat):Int))=(vI ((j:Int)-1)):=by exact cI I
 refine aS (Y ⟨((j-1),((q.set j y).set (j-1) x)),⟨I,by simp; exact D,Mj hx hy A,HY I B hx hy I⟩⟩ _ _ _ U (by simp only []; omega) (ct 5<|aX U S<|dh.nil _) (aH [0,1]))
theorem IC (l:List Int) (lA:OA) (lC:Nat) (f:Value) (key:Int→Int) (X:aq) (hf: ∀ x0 x1,x0∈l∧x1∈l→Em Tryz.prog f [.int .i64 x0,.int .i64 x1] [X] (.int .i64 (key x0-key x1))) (hkb: ∀ x∈l,0≤key x∧key x≤30000000) (hlen:l.length≤12):
 Dt Tryz.prog 98 [(vS lA l.length lC),(vI (l.length:Int)),f] [X] (own lA lC 3 1 (l.map iC)) (fun (x:Unit)=>(vT [])) (fun (x:Unit)=>True) (fun (x:Unit)=>(own lA lC 3 1 ((ep key l).map iC))):=by
 refine mJ kr Tryz.func98 U U fun N Q hQ hN=>?_
 try dsimp only
 refine WS fun _ C=>bf 1 U<|RK C<|WS fun _ D=>bf 3 U<|RK D<|ah fun _ E=>av<|jX 1<|d_ fun R4 M=>ah fun _ L=>WS fun _ F=>rP 3 [] mn ?_
 refine RK F<|cy U (aM fun K=>?_) (aL fun K=>?_)
 ·exfalso; omega
 refine bu<|ab<|ab<|au<|KK E<|WS fun _ G=>rP 4 [] mn ?_
 refine iP 0 U U U U (Bq l lA lC f key X (by exact hf) hkb sd) U (dR 1 U U (dD (bP _)) kd) U (fun O J=>?_)
 try dsimp only
 refine RK G<|av<|jX 1<|d_ fun R11 AA=>ah fun _ H=>WS fun _ A=>rP 3 [] mn ?_
 refine RK A<|cy U (aM fun B=>?_) (aL fun B=>?_)
 ·exfalso; omega
 refine bu<|ab<|ab<|au<|LM hN () 0 [] mn U U U U ?_
 trivial
theorem Aq (l:List Int) (lA:OA) (lC:Nat) (f:Value) (key:Int→Int) (X:aq) (hf: ∀ x0 x1,x0∈l∧x1∈l→Em Tryz.prog f [.int .i64 x0,.int .i64 x1] [X] (.int .i64 (key x0-key x1))) (hkb: ∀ x∈l,0≤key x∧key x≤30000000) (hlen:l.length≤12):
 Dt Tryz.prog 73 [(vS lA l.length lC),f] [X] (own lA lC 3 1 (l.map iC)) (fun (x:Unit)=>(vT [])) (fun (x:Unit)=>True) (fun (x:Unit)=>(own lA lC 3 1 ((ep key l).map iC))):=by
 refine mJ kr Tryz.func73 U U fun B Q hQ hN=>?_
 try dsimp only
 refine aj<|rP 4 [] mn ?_
 refine iP 0 U U U U (IC l lA lC f key X (by exact hf) hkb hlen) U (dR 1 U U (dD (bP _)) kd) U (fun C A=>?_)
 try dsimp only
 refine aC<|LM hN () 0 [] mn U U U U ?_
 trivial
theorem zj (l:List Int) (lA:OA) (lC:Nat) (f:Value) (key:Int→Int) (X:aq) (hf: ∀ x0 x1,x0∈l∧x1∈l→Em Tryz.prog f [.int .i64 x0,.int .i64 x1] [X] (.int .i64 (key x0-key x1))) (hkb: ∀ x∈l,0≤key x∧key x≤30000000) (hlen:l.length≤12):
 ly Tryz.prog 47 [(vS lA l.length lC),f] [(rd lA l.length 1 (l.map iC)),X] (fun (x:(OA)×Nat)=>(vS x.1 ((ep key l).length) x.2)) (fun (x:(OA)×Nat)=>True) (fun (x:(OA)×Nat)=>[(own x.1 x.2 3 1 ((ep key l).map iC))]):=by
 refine dj kr Tryz.func47 U U fun J Q hQ hN=>?_
 try dsimp only
 refine WS fun _ B=>bf 1 U<|RK B<|WS fun _ C=>rP 1 [] mn ?_
 refine cX (vW l lA lC sd) (bj [0]) U fun AA G=>?_
 obtain ⟨E,F⟩:=AA
 try dsimp only
 refine bf 1 U<|RK C<|WS fun _ D=>rP 2 [] mn ?_
 refine iP 0 U U U U (Aq l E F f key X (by exact hf) hkb hlen) U (dR 2 U U (dD (bP _)) kd) U (fun K H=>?_)
 try dsimp only
 refine RK D<|WS fun _ A=>rP 2 [] mn ?_
 refine RK A<|an ?_
 refine LX hQ (E,F) [0] [] mn U U U ?_ ?_
 ·first|rfl|(rw [kp]; rfl)
 ·trivial
theorem H6 (l:List Int) (lA:OA) (lC k:Nat) (hk:k≤l.length) (hlen:l.length≤1000000):
 Dt Tryz.prog 49 [(vS lA k lC)] [] (own lA lC 3 1 (l.map iC)) (fun (x:Unit)=>(vT [])) (fun (x:Unit)=>True) (fun (x:Unit)=>(own lA lC 3 1 ((rH k l).map iC))):=by
 refine mJ kr Tryz.func49 U U fun V Q hQ hN=>?_
 try dsimp only
 refine WS fun _ J=>rP 5 [] mn ?_
 refine RK J<|av ?_
 have B:(0≤k)∧(GC l k 0 l):=by exact ⟨Nat.zero_le _,Mw⟩
 have P:(vI ((k:Int)-1-(0:Int)))=(vI ((k:Int)-1)):=by exact cI I
 refine bH (ι:={z:Nat×(List Int) // (z.1≤k)∧(GC l k z.1 z.2)}) [0] [] U U (fun z=>[(2,(vI (z.1.1:Int))),(3,(vI ((k:Int)-1-(z.1.1:Int))))]) (fun z=>[(own lA lC 3 1 (z.1.2.map iC))]) (fun _=>rfl) (fun _=>rfl) (fun z=>k-z.1.1) ⟨(0,l),B⟩ (dh.cons U<|aX U P<|dh.nil _) (aH [0]) ?_
 clear B
 rintro ⟨⟨i,m⟩,⟨C,A⟩⟩ J3 AB
 try dsimp only at C A
 try dsimp only
 have AA:=A.1
 refine ah fun _ K=>WS fun _ L=>rP 3 [] mn ?_
 refine RK L<|bL U (aL fun T=>?_) (aM fun T=>?_)
 ·refine bu<|ab<|ab<|au ?_
  rw [show m=rH k l from Oe hk I A]
  refine LM hN () 0 [] mn U U U U ?_
  trivial
 refine WK K<|ah fun _ M=>av<|dG cu [13,14,15] [6,7,10,11,12] [] [] [0] U U U U U<|eS U (MV U)<|eS U (MV U)<|eS U (MV U)<|eS U (MV U)<|eS U (MV U)<|eS U (MV U) ?_
 obtain ⟨y,hy⟩:=aJ m ((((k:Int)-1-(i:Int))).toNat) I
 have R:=bG iC hy
 refine fS U (Tq ((((k:Int)-1-(i:Int))).toNat) U (ai (n:=m.length) 0 U sm) cp dc I I I)<|fS U (fV ((((k:Int)-1-(i:Int))).toNat) 0 (vI y) U bX (ai (n:=m.length) 0 U sm) R U dc U)<|eS U (MV U)<|eS U (MV U) ?_
 obtain ⟨x,hx⟩:=aJ m i I
 have H:=bG iC hx
 refine fS U (Tq i U (ai (n:=m.length) 0 U sm) cp dc I I I)<|fS U (fV i 0 (vI x) U bX (ai (n:=m.length) 0 U sm) H U dc U)<|fS U (Tq i U (ai (n:=m.length) 0 U sm) cp dc I I I)<|eV U<|bY U fun T8 N=>ew (k:=i) (o:=0) (vs:=[(vI y)]) (es':=(List.map iC (m.set i y))) (C':=[(own lA lC 3 1 (List.map iC (m.set i y)))]) 0 U U U Bz U U U U H U dc (by exact (List.map_set (f:=iC) (l:=m) (i:=i) (a:=y)).symm) U<|aC (N _ _ (aH []) ?_)
 refine bY U fun T9 O=>?_
 obtain ⟨S,G⟩:=aJ (m.set i y) ((((k:Int)-1-(i:Int))).toNat) os
 have hx11m:(List.map iC (m.set i y))[(((k:Int)-1-(i:Int))).toNat]? =some (iC S):=by rw [fq,G]; rfl
 refine rS (Tq ((((k:Int)-1-(i:Int))).toNat) U (ai (n:=(m.set i y).length) 0 U sm) cp dc I I (by simp; omega)) ?_
 refine aC (O _ _ (aH []) ?_)
 refine bY U fun T12 D=>ew (k:=(((k:Int)-1-(i:Int))).toNat) (o:=0) (vs:=[(vI x)]) (es':=(List.map iC ((m.set i y).set ((((k:Int)-1-(i:Int))).toNat) x))) (C':=[(own lA lC 3 1 (List.map iC ((m.set i y).set ((((k:Int)-1-(i:Int))).toNat) x)))]) 0 U U U Bz U U U U hx11m U dc (by exact (List.map_set (f:=iC) (l:=(m.set i y)) (i:=(((k:Int)-1-(i:Int))).toNat) (a:=x)).symm) U<|aC (D _ _ (aH []) ?_)
 refine fF U<|aG<|KK M<|aj<|rP 6 [] mn ?_
 refine aC ?_
 have E:(vI (((i+1):Nat):Int))=(vI ((i:Int)+1)):=by exact cI I
 have F:(vI ((k:Int)-1-(((i+1):Nat):Int)))=(vI (((k:Int)-1-(i:Int))-1)):=by exact cI I
 refine aS (AB ⟨((i+1),((m.set i y).set ((((k:Int)-1-(i:Int))).toNat) x)),⟨I,Jr hk I I A hx hy⟩⟩ _ _ _ U os (dh.cons U<|aX U E<|aX U F<|dh.nil _) (aH [0]))
end
end Go.Proofs.YtadjgjnicdcjbaaGreatDoor
