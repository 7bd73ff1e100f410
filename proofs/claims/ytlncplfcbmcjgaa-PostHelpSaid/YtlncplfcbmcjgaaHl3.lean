/-
  The statement postHelp_said, part 3 of 5: Help, DrawB, B1, B2, B3, P1, P2, P3, P5, P6, RangeG, MapR, MarkD, MapD.
  Conditions: none.
-/
import Derived.Test.YtlncplfcbmcjgaaHl1
import Derived.Test.YtlncplfcbmcjgaaHl2
namespace Go.Proofs.Ytlncplfcbmcjgaa
section
set_option linter.unusedVariables false
/-- where something stands in a truth -/
def standF (bl : List Int) (ts : List StretchV) (s : SpotV) (c : Int) : Int := tMark bl ts s.Stretch.toNat + someF s.Off (chooseF bl c)
theorem apart_truth {bl : List Int} {ts : List StretchV} {a b : SpotV} {oa ob : Int} (ht : trackOk ts = true) (ha : SpotOk ts a) (hb : SpotOk ts b) (h1 : a.Off.Lo ≤ oa ∧ oa ≤ a.Off.Hi) (h2 : b.Off.Lo ≤ ob ∧ ob ≤ b.Off.Hi) :
    (apartF ts a b).Lo ≤ tMark bl ts b.Stretch.toNat + ob - (tMark bl ts a.Stretch.toNat + oa) ∧ tMark bl ts b.Stretch.toNat + ob - (tMark bl ts a.Stretch.toNat + oa) ≤ (apartF ts a b).Hi := by
  have hst := trackOk_all ht
  have hsa := ha.1
  have hsb := hb.1
  unfold apartF wayB
  by_cases q : b.Stretch < a.Stretch
  · rw [if_pos q, Int.min_eq_right (by omega), Int.max_eq_left (by omega)]
    have h := tMark_span (bl := bl) hst (i := b.Stretch.toNat) (a.Stretch - b.Stretch).toNat (by omega)
    rw [show b.Stretch.toNat + (a.Stretch - b.Stretch).toNat = a.Stretch.toNat by omega] at h
    simp only [addZ, lessZ]; omega
  · rw [if_neg q, Int.min_eq_left (by omega), Int.max_eq_right (by omega)]
    have h := tMark_span (bl := bl) hst (i := a.Stretch.toNat) (b.Stretch - a.Stretch).toNat (by omega)
    rw [show a.Stretch.toNat + (b.Stretch - a.Stretch).toNat = b.Stretch.toNat by omega] at h
    simp only [addZ, lessZ]; omega
theorem spot_some {bl : List Int} {ts : List StretchV} {s : SpotV} (h : SpotOk ts s) (c : Int) : s.Off.Lo ≤ someF s.Off (chooseF bl c) ∧ someF s.Off (chooseF bl c) ≤ s.Off.Hi := by
  obtain ⟨_, x, _, ho⟩ := h
  exact someF_in ho.1
/-- what hears is near in each truth -/
theorem hears_truth {bl : List Int} {d : GuardM} {a b : SpotV} {ca cb : Int} (ht : trackOk d.Track = true) (ha : SpotOk d.Track a) (hb : SpotOk d.Track b) (h : hearsP d a b) :
    max (standF bl d.Track b cb - standF bl d.Track a ca) (-(standF bl d.Track b cb - standF bl d.Track a ca)) ≤ d.Radio := by
  have h1 := apart_truth (bl := bl) ht ha hb (spot_some (bl := bl) ha ca) (spot_some (bl := bl) hb cb)
  unfold hearsP at h
  unfold standF
  omega
def postC (i : Nat) : Int := 31 + (i : Int)
def nearT (bl : List Int) (d : GuardM) (a : SpotV) (ca : Int) (b : SpotV) (cb : Int) : Prop := max (standF bl d.Track b cb - standF bl d.Track a ca) (-(standF bl d.Track b cb - standF bl d.Track a ca)) ≤ d.Radio
instance (bl : List Int) (d : GuardM) (a : SpotV) (ca : Int) (b : SpotV) (cb : Int) : Decidable (nearT bl d a ca b cb) := by unfold nearT; infer_instance
/-- near the tower, or somebody who is in a set -/
def NearS (bl : List Int) (d : GuardM) (H : Nat → Prop) (i : Nat) : Prop := ∃ p, d.Posts[i]? = some p ∧ (nearT bl d d.Tower 30 p.Spot (postC i) ∨ ∃ k q, H k ∧ d.Posts[k]? = some q ∧ nearT bl d q.Spot (postC k) p.Spot (postC i))
theorem NearS.mono {bl : List Int} {d : GuardM} {H H2 : Nat → Prop} {i : Nat} (h : ∀ k, H k → H2 k) (hn : NearS bl d H i) : NearS bl d H2 i := by
  obtain ⟨p, hp, h1 | ⟨k, q, hk, h2⟩⟩ := hn
  · exact ⟨p, hp, .inl h1⟩
  · exact ⟨p, hp, .inr ⟨k, q, h k hk, h2⟩⟩
section
variable {bl : List Int} {d : GuardM} {S H H2 : Nat → Prop} {m m2 : BM}
/-- if not all who are called are heard of, one more is near -/
theorem near_more (ht : trackOk d.Track = true) (hok : GuardOk d) (hm : ∃ i, CallsP d S i ∧ ¬ H i) : ∃ i, CallsP d S i ∧ ¬ H i ∧ NearS bl d H i := by
  apply Classical.byContradiction
  intro hno
  have key : ∀ i, CallsP d S i → H i := by
    intro i hi
    induction hi with
    | @tower i p hs hp hh =>
      refine Classical.byContradiction fun q => hno ⟨i, .tower hs hp hh, q, p, hp, .inl ?_⟩
      exact hears_truth ht hok.tower (hok.post i p hp).2.2.1 hh
    | @post k i q p hk hq hs hp hh ih =>
      refine Classical.byContradiction fun r => hno ⟨i, .post hk hq hs hp hh, r, p, hp, .inr ⟨k, q, ih, hq, ?_⟩⟩
      exact hears_truth ht (hok.post k q hq).2.2.1 (hok.post i p hp).2.2.1 hh
  obtain ⟨i, h1, h2⟩ := hm
  exact h2 (key i h1)
theorem key_cnt (h : KeyOk m H) {n : Nat} (hn : ∀ i, H i → i < n) : m.length = cnt n H := by
  have h1 : ∀ x ∈ m.map (·.1), x ∈ idxL n H := fun x hx => by
    obtain ⟨⟨y, b⟩, hy, rfl⟩ := List.mem_map.1 hx
    obtain ⟨_, i, e, hi⟩ := (h.2 y b).1 hy
    show y ∈ _
    rw [e]
    exact mem_idx.2 ⟨hn i hi, hi⟩
  have h2 : ∀ x ∈ idxL n H, x ∈ m.map (·.1) := fun x hx => by
    obtain ⟨i, rfl, _, hi⟩ := mem_idxL.1 hx
    exact List.mem_map.2 ⟨_, (key_has h).2 hi, rfl⟩
  have a1 := List.Nodup.length_le_of_subset h.1 h1
  have a2 := List.Nodup.length_le_of_subset (idxL_sorted (n := n) (p := H) |>.imp fun q => by omega : (idxL n H).Nodup) h2
  unfold cnt
  rw [List.length_map] at a1 a2
  omega
theorem cnt_mono {n : Nat} (h : ∀ i, H i → H2 i) : cnt n H ≤ cnt n H2 := by
  unfold cnt
  refine List.Nodup.length_le_of_subset (idxL_sorted.imp fun q => by omega) fun x hx => ?_
  obtain ⟨i, rfl, h1, h2⟩ := mem_idxL.1 hx
  exact mem_idx.2 ⟨h1, h i h2⟩
theorem cnt_more {n i : Nat} (h : ∀ i, H i → H2 i) (hi : i < n) (h1 : H2 i) (h2 : ¬ H i) : cnt n H + 1 ≤ cnt n H2 := by
  rw [← cnt_add hi h2]
  exact cnt_mono fun j hj => hj.elim (h j) fun e => e ▸ h1
/-- told once more, or for the first time -/
theorem key_tell (h : KeyOk m H) {i : Nat} : KeyOk (gsetK m (i : Int) true) (fun k => H k ∨ k = i) := by
  by_cases c : H i
  · have hl : (List.lookup (i : Int) m).isSome = true := by
      have := (glookup_mem (l := m) h.1).1 ((key_has h).2 c)
      rw [this]; rfl
    have e : gsetK m (i : Int) true = m := by
      unfold gsetK
      rw [if_pos hl]
      refine (List.map_congr_left fun p hp => ?_).trans (List.map_id _)
      split
      · rename_i e
        obtain ⟨x, b⟩ := p
        have := ((h.2 x b).1 hp).1
        simp only at e
        subst e; subst this; rfl
      · rfl
    rw [e]
    exact key_iff h fun k => ⟨.inl, fun q => q.elim id fun e => e ▸ c⟩
  · exact key_ins h c
/-- what is known within a round, behind the first j who are called -/
structure RoundI (bl : List Int) (d : GuardM) (c : List Int) (H H2 : Nat → Prop) (m2 : BM) (j : Nat) : Prop where
  key : KeyOk m2 H2
  sub : ∀ i, H2 i → (i : Int) ∈ c
  more : ∀ i, H i → H2 i
  done : ∀ (u : Nat) x, u < j → c[u]? = some x → NearS bl d H x.toNat → H2 x.toNat
theorem round_start {c : List Int} (h : KeyOk m H) (hs : ∀ i, H i → (i : Int) ∈ c) : RoundI bl d c H H m 0 := ⟨h, hs, fun _ q => q, fun u x hu => absurd hu (Nat.not_lt_zero _)⟩
theorem RoundI.no {c : List Int} {j : Nat} {x : Int} (h : RoundI bl d c H H2 m2 j) (hx : c[j]? = some x) (hn : ¬ NearS bl d H2 x.toNat) : RoundI bl d c H H2 m2 (j + 1) := ⟨h.key, h.sub, h.more, fun u y hu hy q => by
  rcases Nat.lt_or_ge u j with c | c
  · exact h.done u y c hy q
  · obtain rfl : u = j := by omega
    rw [hx] at hy; cases hy
    exact absurd (q.mono h.more) hn⟩
theorem RoundI.yes {c : List Int} {j : Nat} {x : Int} (h : RoundI bl d c H H2 m2 j) (hx : c[j]? = some x) (h0 : 0 ≤ x) : RoundI bl d c H (fun k => H2 k ∨ k = x.toNat) (gsetK m2 x true) (j + 1) := by
  have e : x = ((x.toNat : Nat) : Int) := by omega
  refine ⟨by have := key_tell h.key (i := x.toNat); rw [← e] at this; exact this, fun i hi => ?_, fun i hi => .inl (h.more i hi), fun u y hu hy q => ?_⟩
  · rcases hi with hi | rfl
    · exact h.sub i hi
    · rw [← e]; exact List.mem_of_getElem? hx
  · rcases Nat.lt_or_ge u j with c | c
    · exact .inl (h.done u y c hy q)
    · obtain rfl : u = j := by omega
      rw [hx] at hy; cases hy
      exact .inr rfl
/-- each round adds one, until all who are called are heard of -/
theorem round_end {l : List Int} {j r : Nat} (hd : guardE d = 0) (hm0 : mannedE d l = 0) (hk : KeyOk m H) (hs : ∀ i, H i → (i : Int) ∈ calledV d l) (h : RoundI bl d (calledV d l) H H2 m2 j) (hj : (calledV d l).length ≤ j) (hr : r ≤ m.length) (hc : r < (calledV d l).length) : r + 1 ≤ m2.length := by
  obtain ⟨ht, hok⟩ := guardE_zero hd
  have hci := calledV_idx hm0
  have hH : ∀ i, H i → i < d.Posts.length := fun i hi => by have := called_b hm0 (hs i hi); omega
  have hH2 : ∀ i, H2 i → i < d.Posts.length := fun i hi => by have := called_b hm0 (h.sub i hi); omega
  rw [key_cnt hk hH] at hr
  rw [key_cnt h.key hH2]
  have hmo := cnt_mono (n := d.Posts.length) h.more
  rcases Nat.lt_or_ge r (cnt d.Posts.length H) with c | c
  · omega
  · have hex : ∃ i, CallsP d (notIn l) i ∧ ¬ H i := by
      apply Classical.byContradiction
      intro q
      have : cnt d.Posts.length (CallsP d (notIn l)) ≤ cnt d.Posts.length H := cnt_mono fun i hi => Classical.byContradiction fun r => q ⟨i, hi, r⟩
      rw [hci] at hc
      unfold cnt at this c
      omega
    obtain ⟨i, h1, h2, h3⟩ := near_more (bl := bl) ht hok hex
    have hic : (i : Int) ∈ calledV d l := by rw [hci]; exact mem_idx.2 ⟨h1.lt, h1⟩
    obtain ⟨u, hu⟩ := List.getElem?_of_mem hic
    have hi2 : H2 i := by
      have := h.done u _ (Nat.lt_of_lt_of_le (List.getElem?_eq_some_iff.1 hu).1 hj) hu (by rw [Int.toNat_natCast]; exact h3)
      rwa [Int.toNat_natCast] at this
    have := cnt_more h.more h1.lt hi2 h2
    omega
theorem rounds_all {l : List Int} {r : Nat} (hm0 : mannedE d l = 0) (hk : KeyOk m H) (hs : ∀ i, H i → (i : Int) ∈ calledV d l) (hr : r ≤ m.length) (hc : (calledV d l).length ≤ r) : m.length = (calledV d l).length := by
  have hci := calledV_idx hm0
  have hH : ∀ i, H i → i < d.Posts.length := fun i hi => by have := called_b hm0 (hs i hi); omega
  have : cnt d.Posts.length H ≤ cnt d.Posts.length (CallsP d (notIn l)) := cnt_mono fun i hi => by
    have := hs i hi
    rw [hci, mem_idx] at this
    exact this.2
  rw [key_cnt hk hH] at hr ⊢
  rw [hci] at hc ⊢
  unfold cnt at *
  omega
/-- what is known of near while some who are heard of are left -/
def NearI (bl : List Int) (d : GuardM) (H : Nat → Prop) (p : PostV) (i : Nat) (left : BM) (b : Bool) : Prop := (b = true → NearS bl d H i) ∧ (nearT bl d d.Tower 30 p.Spot (postC i) → b = true) ∧ ∀ k q, H k → d.Posts[k]? = some q → nearT bl d q.Spot (postC k) p.Spot (postC i) → b = true ∨ ((k : Int), true) ∈ left
theorem near_start {p : PostV} {i : Nat} (hk : KeyOk m H) (hp : d.Posts[i]? = some p) : NearI bl d H p i m (decide (max (standF bl d.Track p.Spot (postC i) - standF bl d.Track d.Tower 30) (-(standF bl d.Track p.Spot (postC i) - standF bl d.Track d.Tower 30)) ≤ d.Radio)) :=
  ⟨fun q => ⟨p, hp, .inl (of_decide_eq_true q)⟩, fun q => decide_eq_true q, fun k q h1 _ _ => .inr ((key_has hk).2 h1)⟩
theorem near_end {p : PostV} {i : Nat} {left : BM} {b : Bool} (h : NearI bl d H p i left b) (he : left = []) (hp : d.Posts[i]? = some p) : b = true ↔ NearS bl d H i := by
  refine ⟨h.1, fun ⟨q, hq, hn⟩ => ?_⟩
  rw [hp] at hq; cases hq
  rcases hn with hn | ⟨k, q, h1, h2, h3⟩
  · exact h.2.1 hn
  · rcases h.2.2 k q h1 h2 h3 with r | r
    · exact r
    · rw [he] at r; cases r
/-- one who is heard of was looked at -/
theorem near_next {p q : PostV} {i : Nat} {left left2 : BM} {b b2 : Bool} {x : Int} {k : Nat} (h : NearI bl d H p i left b) (hp : d.Posts[i]? = some p) (hx : x = (k : Int)) (hH : H k) (hq : d.Posts[k]? = some q) (hl : ∀ y ∈ left, y.1 ≠ x → y ∈ left2)
    (hb : b2 = true ↔ b = true ∨ nearT bl d q.Spot (postC k) p.Spot (postC i)) : NearI bl d H p i left2 b2 := by
  refine ⟨fun r => ?_, fun r => hb.2 (.inl (h.2.1 r)), fun j s h1 h2 h3 => ?_⟩
  · rcases hb.1 r with r | r
    · exact h.1 r
    · exact ⟨p, hp, .inr ⟨k, q, hH, hq, r⟩⟩
  · rcases h.2.2 j s h1 h2 h3 with r | r
    · exact .inl (hb.2 (.inl r))
    · by_cases e : j = k
      · subst e
        rw [hq] at h2; cases h2
        exact .inl (hb.2 (.inr h3))
      · exact .inr (hl _ r (by show (j : Int) ≠ x; omega))
theorem meets_truth {l : List Int} {k i : Nat} {n : NeedV} {p : PostV} {e : Int} (hm0 : mannedE d l = 0) (hn : d.Needs[k]? = some n) (hi : (i : Int) ∈ meetsV d (k : Int) l) (hp : d.Posts[i]? = some p) (he : 0 ≤ e ∧ e ≤ tMark bl d.Track (n.Stretch.toNat + 1) - tMark bl d.Track n.Stretch.toNat) :
    ¬ (i : Int) ∈ l ∧ (i : Int) ∈ calledV d l ∧ p.Kind = n.Kind ∧ p.Pace * max (standF bl d.Track p.Spot (postC i) - (tMark bl d.Track n.Stretch.toNat + e)) (-(standF bl d.Track p.Spot (postC i) - (tMark bl d.Track n.Stretch.toNat + e))) ≤ (n.Seconds - p.Delay) * 1000 := by
  obtain ⟨hd, _⟩ := manned_zero hm0
  obtain ⟨ht, hok⟩ := guardE_zero hd
  rw [(meets_in hm0 hn).2] at hi
  unfold meetsL at hi
  rw [mem_idx] at hi
  obtain ⟨hlt, hc, q, hq, h1, h2⟩ := hi
  rw [hp] at hq; cases hq
  refine ⟨hc.in_, by rw [calledV_idx hm0]; exact mem_idx.2 ⟨hlt, hc⟩, h1, ?_⟩
  have hpo := hok.post i p hp
  unfold PostOk at hpo
  have hno := hok.need n (List.mem_of_getElem? hn)
  unfold NeedOk at hno
  have hf := far_truth (bl := bl) (s := p.Spot) (k := n.Stretch.toNat) (o := someF p.Spot.Off (chooseF bl (postC i))) (e := e) ht hpo.2.2.1 (by omega) (spot_some hpo.2.2.1 _) he
  rw [Int.toNat_of_nonneg hno.1.1] at hf
  unfold timeF at h2
  have hmm : p.Pace * max (standF bl d.Track p.Spot (postC i) - (tMark bl d.Track n.Stretch.toNat + e)) (-(standF bl d.Track p.Spot (postC i) - (tMark bl d.Track n.Stretch.toNat + e))) ≤ p.Pace * farF d.Track p.Spot n.Stretch := by
    refine Int.mul_le_mul_of_nonneg_left ?_ (by omega)
    unfold standF
    rw [show tMark bl d.Track p.Spot.Stretch.toNat + someF p.Spot.Off (chooseF bl (postC i)) - (tMark bl d.Track n.Stretch.toNat + e) = tMark bl d.Track p.Spot.Stretch.toNat + someF p.Spot.Off (chooseF bl (postC i)) - tMark bl d.Track n.Stretch.toNat - e by omega]
    exact hf
  omega
/-- with one post empty nothing lacks, if no post is weak -/
theorem help_meets {l : List Int} {k : Nat} (hd : guardE d = 0) (hw : weakE d = 0) (hv : (weakV d).length = 0) (hl : l = [] ∨ ∃ i : Nat, i < d.Posts.length ∧ l = [(i : Int)]) (hk : k < d.Needs.length) : mannedE d l = 0 ∧ meetsE d (k : Int) l = 0 ∧ ¬ ((meetsV d (k : Int) l).length : Int) = 0 := by
  have hla := (weak_iff hd).1 hw
  have hm0 : mannedE d l = 0 := by
    rcases hl with rfl | ⟨i, hi, rfl⟩
    · exact (lacks_nil hd).1
    · exact (lacks_one hd hi).1
  have hlm := lack_meets hm0 hk
  refine ⟨hm0, hlm.1, fun q => ?_⟩
  have hlk := hlm.2.2 q
  rcases hl with rfl | ⟨i, hi, rfl⟩
  · have h1 : (k : Int) ∈ lacksL d allS := by rw [← (lacks_nil hd).2, lacksV_idx hm0]; exact mem_idx.2 ⟨hk, hlk⟩
    rw [hla] at h1; cases h1
  · have h1 : (k : Int) ∈ lacksL d (less1 allS i) := by rw [← (lacks_one hd hi).2, lacksV_idx hm0]; exact mem_idx.2 ⟨hk, hlk⟩
    have h2 : (i : Int) ∈ weakV d := by rw [weakV_idx]; exact mem_idx.2 ⟨hi, hw, fun e => by rw [e] at h1; cases h1⟩
    rw [List.eq_nil_of_length_eq_zero hv] at h2; cases h2
theorem standF_b {s : SpotV} (ht : trackOk d.Track = true) (hs : SpotOk d.Track s) (c : Int) : -1000000 ≤ standF bl d.Track s c ∧ standF bl d.Track s c ≤ 1000000 := by
  have h1 := tMark_b (bl := bl) ht (i := s.Stretch.toNat) (by have := hs.1; omega)
  have h2 := spot_b (trackOk_all ht) hs
  have h3 := spot_some (bl := bl) hs c
  unfold standF; omega
theorem meets_truthX {l : List Int} {k : Nat} {n : NeedV} {p : PostV} {x a : Int} (hm0 : mannedE d l = 0) (hn : d.Needs[k]? = some n) (hx : x ∈ meetsV d (k : Int) l) (hx0 : 0 ≤ x) (hp : d.Posts[x.toNat]? = some p) (ha : tMark bl d.Track n.Stretch.toNat ≤ a ∧ a ≤ tMark bl d.Track (n.Stretch.toNat + 1)) :
    ¬ x ∈ l ∧ x ∈ calledV d l ∧ p.Kind = n.Kind ∧ p.Pace * max (standF bl d.Track p.Spot (31 + x) - a) (-(standF bl d.Track p.Spot (31 + x) - a)) ≤ (n.Seconds - p.Delay) * 1000 := by
  have e : x = ((x.toNat : Nat) : Int) := by omega
  have h := meets_truth (bl := bl) (i := x.toNat) (e := a - tMark bl d.Track n.Stretch.toNat) hm0 hn (by rw [← e]; exact hx) hp (by omega)
  rw [← e] at h
  rw [show postC x.toNat = 31 + x by unfold postC; omega, show tMark bl d.Track n.Stretch.toNat + (a - tMark bl d.Track n.Stretch.toNat) = a by omega] at h
  exact h
theorem meets_b {l : List Int} {k : Nat} {n : NeedV} (hm0 : mannedE d l = 0) (hn : d.Needs[k]? = some n) {x : Int} (hx : x ∈ meetsV d (k : Int) l) : 0 ≤ x ∧ x < (d.Posts.length : Int) := by
  rw [(meets_in hm0 hn).2] at hx
  obtain ⟨i, rfl, h, _⟩ := mem_idxL.1 hx
  omega
theorem near_startX {p : PostV} {x : Int} (hk : KeyOk m H) (hx : 0 ≤ x) (hp : d.Posts[x.toNat]? = some p) : NearI bl d H p x.toNat m (decide (max (standF bl d.Track p.Spot (31 + x) - standF bl d.Track d.Tower 30) (-(standF bl d.Track p.Spot (31 + x) - standF bl d.Track d.Tower 30)) ≤ d.Radio)) := by
  have h := near_start (bl := bl) hk hp
  rw [show postC x.toNat = 31 + x by unfold postC; omega] at h
  exact h
theorem near_nextX {p q : PostV} {left : BM} {b b2 : Bool} {x y : Int} {k : Nat} (h : NearI bl d H p x.toNat left b) (hx : 0 ≤ x) (hp : d.Posts[x.toNat]? = some p) (hy : y = (k : Int)) (hH : H k) (hq : d.Posts[y.toNat]? = some q)
    (hb : b2 = true ↔ b = true ∨ max (standF bl d.Track p.Spot (31 + x) - standF bl d.Track q.Spot (31 + y)) (-(standF bl d.Track p.Spot (31 + x) - standF bl d.Track q.Spot (31 + y))) ≤ d.Radio) : NearI bl d H p x.toNat (gdelK left y) b2 := by
  refine near_next h hp hy hH (by rw [hy, Int.toNat_natCast] at hq; exact hq) (fun z hz hn => List.mem_filter.2 ⟨hz, by simpa using hn⟩) ?_
  rw [hb]
  unfold nearT
  rw [show postC x.toNat = 31 + x by unfold postC; omega, show postC k = 31 + y by unfold postC; omega]
theorem gdel_sub {left m : BM} {y : Int} (h : ∀ z ∈ left, z ∈ m) : ∀ z ∈ gdelK left y, z ∈ m := fun z hz => h z (List.mem_filter.1 hz).1
theorem or_yes {P : Prop} {b : Bool} (h : b = true) : true = true ↔ b = true ∨ P := ⟨fun _ => .inl h, fun _ => rfl⟩
theorem or_no {P : Prop} [Decidable P] {b : Bool} (h : b = false) : decide P = true ↔ b = true ∨ P := ⟨fun r => .inr (of_decide_eq_true r), fun r => r.elim (fun q => absurd (q.symm.trans h) (by decide)) decide_eq_true⟩
end
end
section
set_option linter.unusedVariables false
theorem TN.sub {E : Env} {ops : Array Oper} {Q : Post} {D : List Deferred} {C' C1 C : List Assn} {tb rem : List Nat} : ∀ {n : Nat} {L L' : List (Nat × Value)}, Sub L L' → TN E ops D C' C1 (fun L C => KJ E (Q .normal) D L C) tb n rem L' C → TN E ops D C' C1 (fun L C => KJ E (Q .normal) D L C) tb n rem L C := by
  intro n
  cases n with
  | zero => intro L L' hs h; exact k_sub hs (fun _ h => h) h
  | succ n => intro L L' hs h i hi o ho K hK; exact r_sub hs (fun _ h => h) (h i hi o ho K hK)
end
section
open Go.RowKit
set_option linter.unusedVariables false
set_option maxRecDepth 100000 in
set_option maxHeartbeats 400000 in
theorem within_1 (n : Int) (lo : Int) (hi : Int) :
    FnV Try.prog 99 [(Value.int .i64 n), (Value.int .i64 lo), (Value.int .i64 hi)] [] (Value.bool (decide (lo ≤ n ∧ n ≤ hi))) := by
 refine fnV_of go99 Try.func99 rfl rfl fun w0 Q hQ hN => ?_
 try dsimp only
 refine WS fun _ hK1 => rS (AG rfl) <| RK hK1 <| WS fun _ hK2 => rS (MV rfl) <| rS (MV rfl) <| rS (BI rfl b_geq) <| rS (MV rfl) ?_
 refine r_bool (t := 10) rfl (fun h3 => ?_) (fun h3 => ?_)
 rotate_left 1
 · replace h3 := DF h3
   refine rS (OX rfl) <| rS (OX rfl) <| rS (OX rfl) <| rS (PK rfl) <| rS (AG rfl) <| RK hK2 <| w_ret <| Q1 hQ rfl rfl rfl ?_
   exact congrArg Value.bool (decide_eq_false (by omega)).symm
 replace h3 := DT h3
 refine rS (MV rfl) <| rS (MV rfl) <| rS (BI rfl b_leq) <| rS (PK rfl) <| rS (AG rfl) <| RK hK2 <| w_ret <| Q1 hQ rfl rfl rfl ?_
 exact congrArg Value.bool (decide_eq_decide.2 (by omega))
set_option maxRecDepth 100000 in
set_option maxHeartbeats 400000 in
theorem span_1 (s : SpanV) (lo : Int) (hi : Int) :
    FnV Try.prog 100 [(Value.agg (SpanV.cells s).toArray), (Value.int .i64 lo), (Value.int .i64 hi)] [] (Value.bool (decide (s.Lo ≤ s.Hi ∧ lo ≤ s.Lo ∧ s.Hi ≤ hi))) := by
 refine fnV_of go100 Try.func100 rfl rfl fun w0 Q hQ hN => ?_
 try dsimp only
 refine WS fun _ hK1 => BXA rfl fun b2 => rS (AG rfl) <| RK hK1 <| WS fun _ hK3 => rS (FA 0 rfl fo28_0 rfl) <| rS (L1 (Value.int .i64 s.Lo) 0 rfl tk3 rfl rfl) <| rS (MV rfl) <| rS (FA 1 rfl fo28_1 rfl) <| rS (L1 (Value.int .i64 s.Hi) 0 rfl tk3 rfl rfl) ?_
 refine rS (CL (within_1 s.Lo lo s.Hi) (ha_nil) rfl) <| rS (MV rfl) ?_
 refine r_bool (t := 13) rfl (fun h4 => ?_) (fun h4 => ?_)
 rotate_left 1
 · replace h4 := DF h4
   refine rS (OX rfl) <| rS (OX rfl) <| rS (OX rfl) <| rS (OX rfl) <| rS (PK rfl) <| rS (AG rfl) <| RK hK3 <| w_ret <| Q1 hQ rfl rfl rfl ?_
   exact congrArg Value.bool (decide_eq_false (by omega)).symm
 replace h4 := DT h4
 refine rS (FA 1 rfl fo28_1 rfl) <| rS (L1 (Value.int .i64 s.Hi) 0 rfl tk3 rfl rfl) <| rS (MV rfl) <| rS (BI rfl b_leq) <| rS (PK rfl) <| rS (AG rfl) <| RK hK3 <| w_ret <| Q1 hQ rfl rfl rfl ?_
 exact congrArg Value.bool (decide_eq_decide.2 (by omega))
set_option maxRecDepth 100000 in
set_option maxHeartbeats 400000 in
theorem great_c (t : List StretchV) (tA : Option Addr) (tC : Nat) :
    FnV Try.prog 47 [(Value.agg (TrackV.cells (TrackV.mk (Slc.mk tA t.length tC))).toArray)] [(rd tA t.length 9 (t.map StretchV.cells))] (Value.bool (decide (20 < (t.length : Int)))) := by
 refine fnV_of go47 Try.func47 rfl rfl fun w0 Q hQ hN => ?_
 try dsimp only
 refine WS fun _ hK1 => BXA rfl fun b2 => rS (AG rfl) <| RK hK1 <| WS fun _ hK3 => rS (FA 0 rfl fo24_0 rfl) <| rS (L1 (Value.slice tA t.length tC) 0 rfl tk22 rfl rfl) <| rS (LN rfl ut22) <| rS (BI rfl b_gtr) <| rS (AG rfl) ?_
 refine RK hK3 <| w_ret ?_
 exact Q1 hQ rfl rfl rfl rfl
set_option maxRecDepth 100000 in
set_option maxHeartbeats 400000 in
theorem index_c (l : List Int) (lA : Option Addr) (lC : Nat) (f : Value) (p : Int → Bool) (X : Assn) (hf : ∀ x0, x0 ∈ l → Clo Try.prog f [.int .i64 x0] [X] (.bool (p x0))) (hlen : l.length ≤ 1000000) :
    FnV Try.prog 107 [(Value.slice lA l.length lC), f] [(rd lA l.length 1 (l.map iC)), X] (Value.int .i64 (findI p l)) := by
 refine fnV_of go107 Try.func107 rfl rfl fun w0 Q hQ hN => ?_
 try dsimp only
 refine WS fun _ hK1 => rS (AG rfl) <| RK hK1 <| w_seq fun _ hK2 => WS fun _ hK3 => rS (MV rfl) <| rS (LN rfl ut33) <| rS (MV rfl) <| RK hK3 <| w_block ?_
 have hinit : (0 ≤ l.length) ∧ ((l.take 0).any p = false) := by simp
 refine w_loop (ι := { z : Nat // (z ≤ l.length) ∧ ((l.take z).any p = false) }) (fun z => [(0, (Value.slice lA l.length lC)), (1, f), (7, (Value.int .i64 ((l.length : Nat) : Int))), (8, (Value.int .i64 (z.1 : Int)))]) (fun z => [(rd lA l.length 1 (l.map iC)).ro, X.ro]) (fun z => l.length - z.1) ⟨0, hinit⟩ (Sub.cons rfl <| Sub.cons rfl <| Sub.cons rfl <| Sub.cons rfl <| Sub.nil _) (fun w hs => St.sel [0, 1] rfl rfl hs) ?_
 clear hinit
 rintro ⟨i, ⟨hl0_0, hl0_1⟩⟩ J4 hJ4
 try dsimp only
 refine WS fun _ hK5 => rS (BI rfl b_lss) <| RK hK5 <| w_seq fun _ hK6 => ?_
 refine w_if rfl (fun h7 => ?_) (fun h7 => ?_)
 rotate_left 1
 · replace h7 := DF h7
   refine w_exit <| k_exit_then <| k_exit_then <| k_exit_same <| KK hK2 <| WS fun _ hK12 => rS (AG rfl) <| RK hK12 <| w_ret <| Q1 hQ rfl rfl rfl ?_
   first | exact congrArg (Value.int .i64) (findI_at hx hp hl0_1).symm | exact congrArg (Value.int .i64) (findI_none (by omega) hl0_1).symm
 replace h7 := DT h7
 refine WK hK6 <| w_seq fun _ hK8 => w_block <| WS fun _ hK9 => rS (MV rfl) <| rS (AG rfl) <| RK hK9 <| WS fun _ hK10 => rS (MV rfl) <| rS (MV rfl) ?_
 refine rS (MV rfl) ?_
 obtain ⟨x, hx⟩ : ∃ y_, l[i]? = some y_ := ⟨l[i]'(by omega), List.getElem?_eq_getElem _⟩
 have hxm : (l.map iC)[i]? = some (iC x) := by rw [List.getElem?_map, hx]; rfl
 refine rS (IA i rfl (has_at 0 rfl) te33 (by decide) (by omega) (by omega)) <| rS (LE1 i 0 (Value.int .i64 x) rfl tk3 (has_at 0 rfl) hxm rfl (by decide) rfl) <| rS (SX (sd_clo rfl rfl rfl (hf x (List.mem_of_getElem? hx)) (ha_at 1 rfl rfl <| ha_nil)) rfl rfl) <| RK hK10 ?_
 refine w_if rfl (fun hp => ?_) (fun hp => ?_)
 · refine WS fun _ hK11 => ?_
   refine rS (MV rfl) <| rS (AG rfl) <| RK hK11 <| w_ret <| Q1 hQ rfl rfl rfl ?_
   first | exact congrArg (Value.int .i64) (findI_at hx hp hl0_1).symm | exact congrArg (Value.int .i64) (findI_none (by omega) hl0_1).symm
 refine w_skip <| k_block <| KK hK8 <| w_region <| rS (BI rfl (b_add ⟨by omega, by omega⟩)) <| rS (MV rfl) <| r_nil ?_
 refine k_then (hJ4 ⟨(i + 1), ⟨by omega, any_step hx hl0_1 hp⟩⟩ _ _ _ rfl (by first | omega | (simp; omega)) (Sub.cons rfl <| Sub.cons rfl <| Sub.cons rfl <| Sub.cons rfl <| Sub.nil _) (fun w hs => St.sel [0, 1] rfl rfl hs))
set_option maxRecDepth 100000 in
set_option maxHeartbeats 400000 in
theorem contains_c (l : List Int) (lA : Option Addr) (lC : Nat) (f : Value) (p : Int → Bool) (X : Assn) (hf : ∀ x0, x0 ∈ l → Clo Try.prog f [.int .i64 x0] [X] (.bool (p x0))) (hlen : l.length ≤ 1000000) :
    FnV Try.prog 86 [(Value.slice lA l.length lC), f] [(rd lA l.length 1 (l.map iC)), X] (Value.bool (l.any p)) := by
 refine fnV_of go86 Try.func86 rfl rfl fun w0 Q hQ hN => ?_
 try dsimp only
 refine WS fun _ hK1 => rS (AG rfl) <| RK hK1 <| WS fun _ hK2 => rS (MV rfl) <| rS (MV rfl) <| rS (CL (index_c l lA lC f p X (by exact hf) hlen) (ha_at 0 rfl rfl <| ha_at 1 rfl rfl <| ha_nil) rfl) <| rS (BI rfl b_geq) <| rS (AG rfl) <| RK hK2 ?_
 refine w_ret <| Q1 hQ rfl rfl rfl ?_
 exact congrArg Value.bool findI_any
set_option maxRecDepth 100000 in
set_option maxHeartbeats 400000 in
theorem in1_track (n : Int) (lo : Int) (hi : Int) (g1 : Nat) (g2 : Nat) :
    FnV Try.prog 105 [(Value.int .i64 n), (Value.pointer (some ⟨g1, 0, none⟩)), (Value.pointer (some ⟨g2, 0, none⟩))] [(blk g1 3 [(Value.int .i64 lo)]), (blk g2 3 [(Value.int .i64 hi)])] (Value.bool (decide (n < lo ∨ hi < n))) := by
 refine fnV_of go105 Try.func105 rfl rfl fun w0 Q hQ hN => ?_
 try dsimp only
 refine WS fun _ hK1 => rS (AG rfl) <| RK hK1 <| WS fun _ hK2 => rS (MV rfl) <| rS (L1Q 0 rfl tk3 rfl) <| rS (BI rfl b_lss) <| rS (MV rfl) ?_
 refine r_bool (t := 8) rfl (fun h3 => ?_) (fun h3 => ?_)
 · replace h3 := DT h3
   refine rS (OX rfl) <| rS (OX rfl) <| rS (OX rfl) <| rS (PK rfl) <| rS (AG rfl) <| RK hK2 <| w_ret <| Q1 hQ rfl rfl rfl ?_
   exact congrArg Value.bool (decide_eq_true (by omega)).symm
 replace h3 := DF h3
 refine rS (MV rfl) <| rS (L1Q 1 rfl tk3 rfl) <| rS (BI rfl b_gtr) <| rS (PK rfl) <| rS (AG rfl) <| RK hK2 <| w_ret <| Q1 hQ rfl rfl rfl ?_
 exact congrArg Value.bool (decide_eq_decide.2 (by omega))
set_option maxRecDepth 100000 in
set_option maxHeartbeats 400000 in
theorem in_track (lo : Int) (hi : Int) (l : List Int) (lA : Option Addr) (lC : Nat) (hlen : l.length ≤ 1000000) :
    FnV Try.prog 81 [(Value.int .i64 lo), (Value.int .i64 hi), (Value.slice lA l.length lC)] [(rd lA l.length 1 (l.map iC))] (Value.bool (inAll lo hi l)) := by
 refine fnV_of go81 Try.func81 rfl rfl fun w0 Q hQ hN => ?_
 try dsimp only
 refine WS fun _ hK1 => BX1 rfl rfl fun b2 => BX1 rfl rfl fun b3 => rS (AG rfl) <| RK hK1 <| WS fun _ hK4 => rS (MV rfl) <| rS (FU rfl) <| rS (CL (contains_c l lA lC (Value.func (.func 105) [].toArray [(Value.pointer (some ⟨b2, 0, none⟩)), (Value.pointer (some ⟨b3, 0, none⟩))].toArray) (fun u5 => (decide (u5 < lo ∨ hi < u5))) (bun [(blk b2 3 [(Value.int .i64 lo)]), (blk b3 3 [(Value.int .i64 hi)])]) (by intro u5 _; exact clo_of (fi := []) (ca := [(Value.pointer (some ⟨b2, 0, none⟩)), (Value.pointer (some ⟨b3, 0, none⟩))]) (fnV_bun (in1_track u5 lo hi b2 b3 ) (ha_at 0 rfl rfl <| ha_at 1 rfl rfl <| ha_nil))) hlen) (ha_at 2 rfl rfl <| ha_cons (has_bun (ha_at 1 rfl rfl <| ha_at 0 rfl rfl <| ha_nil)) <| ha_nil) rfl) <| rS (NT rfl) ?_
 refine rS (AG rfl) <| RK hK4 <| w_ret ?_
 exact Q1 hQ rfl rfl rfl rfl
set_option maxRecDepth 100000 in
set_option maxHeartbeats 400000 in
theorem known_c (s : SpanV) (lo : Int) (hi : Int) :
    FnV Try.prog 97 [(Value.agg (SpanV.cells s).toArray), (Value.int .i64 lo), (Value.int .i64 hi)] [] (Value.bool (decide (s.Lo ≤ s.Hi ∧ lo ≤ s.Lo ∧ s.Hi ≤ hi))) := by
 refine fnV_of go97 Try.func97 rfl rfl fun w0 Q hQ hN => ?_
 try dsimp only
 refine WS fun _ hK1 => BXA rfl fun b2 => rS (AG rfl) <| RK hK1 <| WS fun _ hK3 => rS (MV rfl) <| rS (MV rfl) <| rS (FA 0 rfl fo28_0 rfl) <| rS (L1 (Value.int .i64 s.Lo) 0 rfl tk3 rfl rfl) <| rS (FA 1 rfl fo28_1 rfl) ?_
 refine rS (L1 (Value.int .i64 s.Hi) 0 rfl tk3 rfl rfl) <| r_bs (xs := [.tmp 10, .tmp 12]) (cs := [(Value.int .i64 s.Lo), (Value.int .i64 s.Hi)]) rfl te33 tz3 rfl rfl rfl rfl (by simp [Value.cells]) rfl rfl fun b4 => rS (CL (FnV.eq (in_track lo hi ([s.Lo, s.Hi]) (some ⟨b4, 0, none⟩) 2 (by first | assumption | omega | (simp; done) | (simp; omega))) inAll_two) (ha_cons (has_rd_blk 0 rfl rfl (by simp [iC_length]) rfl) <| ha_nil) rfl) <| rS (MV rfl) ?_
 refine r_bool (t := 15) rfl (fun h5 => ?_) (fun h5 => ?_)
 rotate_left 1
 · replace h5 := DF h5
   refine rS (OX rfl) <| rS (OX rfl) <| rS (OX rfl) <| rS (OX rfl) <| rS (OX rfl) <| rS (PK rfl) <| rS (AG rfl) <| RK hK3 <| w_ret <| Q1 hQ rfl rfl rfl ?_
   exact congrArg Value.bool (decide_eq_false (by omega)).symm
 replace h5 := DT h5
 refine rS (FA 0 rfl fo28_0 rfl) <| rS (L1 (Value.int .i64 s.Lo) 1 rfl tk3 rfl rfl) <| rS (FA 1 rfl fo28_1 rfl) <| rS (L1 (Value.int .i64 s.Hi) 1 rfl tk3 rfl rfl) <| rS (BI rfl b_leq) <| rS (PK rfl) <| rS (AG rfl) <| RK hK3 <| w_ret <| Q1 hQ rfl rfl rfl ?_
 exact congrArg Value.bool (decide_eq_decide.2 (by omega))
set_option maxRecDepth 100000 in
set_option maxHeartbeats 400000 in
theorem track_c (ts : List StretchV) (tsA : Option Addr) (tsC : Nat) (hlen : ts.length ≤ 1000000) :
    FnV Try.prog 69 [(Value.agg (TrackV.cells (TrackV.mk (Slc.mk tsA ts.length tsC))).toArray)] [(rd tsA ts.length 9 (ts.map StretchV.cells))] (Value.bool (trackOk ts)) := by
 refine fnV_of go69 Try.func69 rfl rfl fun w0 Q hQ hN => ?_
 try dsimp only
 refine WS fun _ hK1 => BXA rfl fun b2 => rS (AG rfl) <| RK hK1 <| w_seq fun _ hK3 => WS fun _ hK4 => rS (FA 0 rfl fo24_0 rfl) <| rS (L1 (Value.slice tsA ts.length tsC) 0 rfl tk22 rfl rfl) <| rS (LN rfl ut22) <| rS (CL (within_1 ((ts.length : Nat) : Int) 1 12) (ha_nil) rfl) ?_
 refine rS (NT rfl) <| RK hK4 ?_
 refine w_if rfl (fun h5 => ?_) (fun h5 => ?_)
 · replace h5 := XT h5
   refine WS fun _ hK6 => rS (AG rfl) <| RK hK6 <| w_ret <| Q1 hQ rfl rfl rfl ?_
   first | exact congrArg Value.bool (trackOk_len (by omega)).symm | exact congrArg Value.bool (trackOk_no hl0_1 hx (by simp only [StretchOk, SpanOk]; omega)).symm | exact congrArg Value.bool (trackOk_yes hl0_1 (by omega) (by omega)).symm
 replace h5 := XF h5
 refine WK hK3 <| w_seq fun _ hK7 => WS fun _ hK8 => rS (AG rfl) <| RK hK8 <| w_block ?_
 have hinit : (0 ≤ ts.length) ∧ (trackFrom (-1) ts = trackFrom (lastId ts 0) (ts.drop 0)) ∧ (-1 ≤ lastId ts 0) := by (refine ⟨by omega, rfl, by simp [lastId]⟩)
 refine w_loop (ι := { z : Nat // (z ≤ ts.length) ∧ (trackFrom (-1) ts = trackFrom (lastId ts z) (ts.drop z)) ∧ (-1 ≤ lastId ts z) }) (fun z => [(1, (Value.pointer (some ⟨b2, 0, none⟩))), (3, (Value.int .i64 (z.1 : Int)))]) (fun z => [(blk b2 24 (TrackV.cells (TrackV.mk (Slc.mk tsA ts.length tsC)))), (rd tsA ts.length 9 (ts.map StretchV.cells)).ro]) (fun z => ts.length - z.1) ⟨0, hinit⟩ (Sub.cons rfl <| Sub.cons rfl <| Sub.nil _) (fun w hs => St.sel [0, 1] rfl rfl hs) ?_
 clear hinit
 rintro ⟨i, ⟨hl0_0, hl0_1, hl0_2⟩⟩ J9 hJ9
 try dsimp only
 have hz : i = 0 → lastId ts i = -1 := lastId_zero
 refine w_seq fun _ hK10 => WS fun _ hK11 => rS (MV rfl) <| rS (FA 0 rfl fo24_0 rfl) <| rS (L1 (Value.slice tsA ts.length tsC) 0 rfl tk22 rfl rfl) <| rS (LN rfl ut22) <| rS (BI rfl b_lss) <| RK hK11 ?_
 refine w_if rfl (fun h12 => ?_) (fun h12 => ?_)
 rotate_left 1
 · replace h12 := DF h12
   refine w_exit <| k_exit_then <| k_exit_then <| k_exit_same <| KK hK7 <| WS fun _ hK77 => rS (AG rfl) <| RK hK77 <| w_ret <| Q1 hQ rfl rfl rfl ?_
   first | exact congrArg Value.bool (trackOk_len (by omega)).symm | exact congrArg Value.bool (trackOk_no hl0_1 hx (by simp only [StretchOk, SpanOk]; omega)).symm | exact congrArg Value.bool (trackOk_yes hl0_1 (by omega) (by omega)).symm
 replace h12 := DT h12
 refine WK hK10 <| w_seq fun _ hK13 => w_block <| WS fun _ hK14 => rS (FA 0 rfl fo24_0 rfl) <| rS (L1 (Value.slice tsA ts.length tsC) 0 rfl tk22 rfl rfl) <| rS (MV rfl) ?_
 obtain ⟨x, hx⟩ : ∃ y_, ts[i]? = some y_ := ⟨ts[i]'(by omega), List.getElem?_eq_getElem _⟩
 have hxm : (ts.map StretchV.cells)[i]? = some (StretchV.cells x) := by rw [List.getElem?_map, hx]; rfl
 refine rS (IA i rfl (has_at 1 rfl) te22 (by decide) (by omega) (by omega)) <| rS (LEN i 0 (StretchV.cells x) rfl tk110 (has_at 1 rfl) hxm rfl (by decide) rfl rfl) <| AL rfl tz110 fun b15 => SW0 rfl ts110 rfl <| RK hK14 <| w_seq fun _ hK16 => w_seq fun _ hK17 => w_draw mixed 38 (by kernel_rfl) <| dS (FA 0 rfl fo110_0 rfl) <| dS (L1 (Value.int .i64 x.Id) 0 rfl tk3 rfl rfl) ?_
 refine dS (CL (within_1 x.Id 0 9999) (ha_nil) rfl) <| dS (NT rfl) <| dS (MV rfl) ?_
 refine d_bool (t := 26) rfl (fun h18 => ?_) (fun h18 => ?_)
 · replace h18 := XT h18
   refine dS (OX rfl) <| dS (OX rfl) <| dS (OX rfl) <| dS (OX rfl) <| dS (OX rfl) <| dS (OX rfl) <| dS (OX rfl) <| dS (OX rfl) <| dS (OX rfl) <| dS (OX rfl) ?_
   refine dS (OX rfl) <| dS (OX rfl) <| dS (OX rfl) <| dS (OX rfl) <| dS (PK rfl) <| dS (MV rfl) <| dS (OX rfl) <| dS (OX rfl) <| dS (OX rfl) <| dS (OX rfl) ?_
   refine dS (PK rfl) <| dS (MV rfl) <| dS (OX rfl) <| dS (OX rfl) <| dS (OX rfl) <| dS (OX rfl) <| dS (PK rfl) <| dS (MV rfl) <| dS (OX rfl) <| dS (OX rfl) ?_
   refine dS (OX rfl) <| dS (OX rfl) <| dS (PK rfl) <| d_end <| RK hK17 <| w_if_true rfl <| WS fun _ hK19 => rS (AG rfl) <| RK hK19 <| w_ret ?_
   refine Q1 hQ rfl rfl rfl ?_
   first | exact congrArg Value.bool (trackOk_len (by omega)).symm | exact congrArg Value.bool (trackOk_no hl0_1 hx (by simp only [StretchOk, SpanOk]; omega)).symm | exact congrArg Value.bool (trackOk_yes hl0_1 (by omega) (by omega)).symm
 replace h18 := XF h18
 refine dS (MV rfl) <| dS (BI rfl b_gtr) <| dS (MV rfl) ?_
 refine d_bool (t := 29) rfl (fun h20 => ?_) (fun h20 => ?_)
 rotate_left 1
 · replace h20 := DF h20
   refine dS (OX rfl) <| dS (OX rfl) <| dS (OX rfl) <| dS (OX rfl) <| dS (OX rfl) <| dS (OX rfl) <| dS (OX rfl) <| dS (OX rfl) <| dS (OX rfl) <| dS (OX rfl) ?_
   refine dS (PK rfl) <| dS (PK rfl) <| dS (MV rfl) <| dS (FA 1 rfl fo110_1 rfl) <| dS (LP (SpanV.cells x.Long) 0 rfl tk28 rfl rfl rfl) <| dS (CL (span_1 x.Long 1 30000) (ha_nil) rfl) <| dS (NT rfl) <| dS (PK rfl) <| dS (MV rfl) ?_
   refine d_bool (t := 48) rfl (fun h50 => ?_) (fun h50 => ?_)
   · replace h50 := XT h50
     refine dS (OX rfl) <| dS (OX rfl) <| dS (OX rfl) <| dS (OX rfl) <| dS (PK rfl) <| dS (MV rfl) <| dS (OX rfl) <| dS (OX rfl) <| dS (OX rfl) <| dS (OX rfl) ?_
     refine dS (PK rfl) <| d_end <| RK hK17 <| w_if_true rfl <| WS fun _ hK51 => rS (AG rfl) <| RK hK51 <| w_ret <| Q1 hQ rfl rfl rfl ?_
     first | exact congrArg Value.bool (trackOk_len (by omega)).symm | exact congrArg Value.bool (trackOk_no hl0_1 hx (by simp only [StretchOk, SpanOk]; omega)).symm | exact congrArg Value.bool (trackOk_yes hl0_1 (by omega) (by omega)).symm
   replace h50 := XF h50
   refine dS (FA 3 rfl fo110_2 rfl) <| dS (LP (SpanV.cells x.Fall) 0 rfl tk28 rfl rfl rfl) <| dS (CL (span_1 x.Fall 0 5000) (ha_nil) rfl) <| dS (NT rfl) <| dS (PK rfl) <| dS (MV rfl) ?_
   refine d_bool (t := 54) rfl (fun h52 => ?_) (fun h52 => ?_)
   · replace h52 := XT h52
     refine dS (OX rfl) <| dS (OX rfl) <| dS (OX rfl) <| dS (OX rfl) <| dS (PK rfl) <| d_end <| RK hK17 <| w_if_true rfl <| WS fun _ hK53 => rS (AG rfl) ?_
     refine RK hK53 <| w_ret <| Q1 hQ rfl rfl rfl ?_
     first | exact congrArg Value.bool (trackOk_len (by omega)).symm | exact congrArg Value.bool (trackOk_no hl0_1 hx (by simp only [StretchOk, SpanOk]; omega)).symm | exact congrArg Value.bool (trackOk_yes hl0_1 (by omega) (by omega)).symm
   replace h52 := XF h52
   refine dS (FA 8 rfl fo110_5 rfl) <| dS (L1 (Value.int .i64 x.Wall) 0 rfl tk3 rfl rfl) <| dS (CL (within_1 x.Wall 0 5000) (ha_nil) rfl) <| dS (NT rfl) <| dS (PK rfl) <| d_end <| RK hK17 ?_
   refine w_if rfl (fun h54 => ?_) (fun h54 => ?_)
   · replace h54 := XT h54
     refine WS fun _ hK55 => rS (AG rfl) <| RK hK55 <| w_ret <| Q1 hQ rfl rfl rfl ?_
     first | exact congrArg Value.bool (trackOk_len (by omega)).symm | exact congrArg Value.bool (trackOk_no hl0_1 hx (by simp only [StretchOk, SpanOk]; omega)).symm | exact congrArg Value.bool (trackOk_yes hl0_1 (by omega) (by omega)).symm
   replace h54 := XF h54
   refine WK hK16 <| WS fun _ hK56 => rS (FA 7 rfl fo110_4 rfl) <| rS (L1 (Value.int .u8 x.Side) 0 rfl tk5 rfl rfl) <| RK hK56 <| w_block <| WS fun _ hK57 => rS (BI rfl b_eql) <| rS (AG rfl) <| RK hK57 ?_
   refine w_if rfl (fun h58 => ?_) (fun h58 => ?_)
   · replace h58 := DT h58
     refine WS fun _ hK59 => rS (FA 5 rfl fo110_3 rfl) <| rS (FA 5 rfl fo28_0 rfl) <| rS (L1 (Value.int .i64 x.Radius.Lo) 0 rfl tk3 rfl rfl) <| rS (BI rfl b_neq) <| rS (MV rfl) ?_
     refine r_bool (t := 68) rfl (fun h60 => ?_) (fun h60 => ?_)
     · replace h60 := XT h60
       refine rS (OX rfl) <| rS (OX rfl) <| rS (OX rfl) <| rS (OX rfl) <| rS (PK rfl) <| RK hK59 <| w_if_true rfl <| WS fun _ hK61 => rS (AG rfl) <| RK hK61 ?_
       refine w_ret <| Q1 hQ rfl rfl rfl ?_
       first | exact congrArg Value.bool (trackOk_len (by omega)).symm | exact congrArg Value.bool (trackOk_no hl0_1 hx (by simp only [StretchOk, SpanOk]; omega)).symm | exact congrArg Value.bool (trackOk_yes hl0_1 (by omega) (by omega)).symm
     replace h60 := XF h60
     refine rS (FA 5 rfl fo110_3 rfl) <| rS (FA 6 rfl fo28_1 rfl) <| rS (L1 (Value.int .i64 x.Radius.Hi) 0 rfl tk3 rfl rfl) <| rS (BI rfl b_neq) <| rS (PK rfl) <| RK hK59 ?_
     refine w_if rfl (fun h62 => ?_) (fun h62 => ?_)
     · replace h62 := XT h62
       refine WS fun _ hK63 => rS (AG rfl) <| RK hK63 <| w_ret <| Q1 hQ rfl rfl rfl ?_
       first | exact congrArg Value.bool (trackOk_len (by omega)).symm | exact congrArg Value.bool (trackOk_no hl0_1 hx (by simp only [StretchOk, SpanOk]; omega)).symm | exact congrArg Value.bool (trackOk_yes hl0_1 (by omega) (by omega)).symm
     replace h62 := XF h62
     refine w_skip <| k_block <| k_block <| KK hK13 <| w_region <| rS (MV rfl) <| rS (BI rfl (b_add ⟨by omega, by omega⟩)) <| rS (AG rfl) <| r_nil ?_
     refine k_then (hJ9 ⟨(i + 1), ⟨by omega, trackFrom_next hl0_1 hx (by simp only [StretchOk, SpanOk]; omega), by rw [lastId_succ hx]; omega⟩⟩ _ _ _ rfl (by first | omega | (simp; omega)) (Sub.cons rfl <| Sub.cons rfl <| Sub.nil _) (fun w hs => St.sel [1, 2] rfl rfl hs))
   replace h58 := DF h58
   refine w_seq fun _ hK64 => WS fun _ hK65 => rS (BI rfl b_eql) <| rS (AG rfl) <| RK hK65 ?_
   refine w_if rfl (fun h66 => ?_) (fun h66 => ?_)
   · replace h66 := DT h66
     refine WK hK64 ?_
     refine w_if rfl (fun h67 => ?_) (fun h67 => ?_)
     rotate_left 1
     · replace h67 := DF h67
       refine WS fun _ hK71 => rS (AG rfl) <| RK hK71 <| w_ret <| Q1 hQ rfl rfl rfl ?_
       first | exact congrArg Value.bool (trackOk_len (by omega)).symm | exact congrArg Value.bool (trackOk_no hl0_1 hx (by simp only [StretchOk, SpanOk]; omega)).symm | exact congrArg Value.bool (trackOk_yes hl0_1 (by omega) (by omega)).symm
     replace h67 := DT h67
     refine WS fun _ hK68 => rS (FA 5 rfl fo110_3 rfl) <| rS (LP (SpanV.cells x.Radius) 0 rfl tk28 rfl rfl rfl) <| rS (CL (span_1 x.Radius 500 20000) (ha_nil) rfl) <| rS (NT rfl) <| RK hK68 ?_
     refine w_if rfl (fun h69 => ?_) (fun h69 => ?_)
     · replace h69 := XT h69
       refine WS fun _ hK70 => rS (AG rfl) <| RK hK70 <| w_ret <| Q1 hQ rfl rfl rfl ?_
       first | exact congrArg Value.bool (trackOk_len (by omega)).symm | exact congrArg Value.bool (trackOk_no hl0_1 hx (by simp only [StretchOk, SpanOk]; omega)).symm | exact congrArg Value.bool (trackOk_yes hl0_1 (by omega) (by omega)).symm
     replace h69 := XF h69
     refine w_skip <| k_block <| k_block <| KK hK13 <| w_region <| rS (MV rfl) <| rS (BI rfl (b_add ⟨by omega, by omega⟩)) <| rS (AG rfl) <| r_nil ?_
     refine k_then (hJ9 ⟨(i + 1), ⟨by omega, trackFrom_next hl0_1 hx (by simp only [StretchOk, SpanOk]; omega), by rw [lastId_succ hx]; omega⟩⟩ _ _ _ rfl (by first | omega | (simp; omega)) (Sub.cons rfl <| Sub.cons rfl <| Sub.nil _) (fun w hs => St.sel [1, 2] rfl rfl hs))
   replace h66 := DF h66
   refine w_region <| rS (BI rfl b_eql) <| rS (AG rfl) <| RK hK64 ?_
   refine w_if rfl (fun h72 => ?_) (fun h72 => ?_)
   rotate_left 1
   · replace h72 := DF h72
     refine WS fun _ hK76 => rS (AG rfl) <| RK hK76 <| w_ret <| Q1 hQ rfl rfl rfl ?_
     first | exact congrArg Value.bool (trackOk_len (by omega)).symm | exact congrArg Value.bool (trackOk_no hl0_1 hx (by simp only [StretchOk, SpanOk]; omega)).symm | exact congrArg Value.bool (trackOk_yes hl0_1 (by omega) (by omega)).symm
   replace h72 := DT h72
   refine WS fun _ hK73 => rS (FA 5 rfl fo110_3 rfl) <| rS (LP (SpanV.cells x.Radius) 0 rfl tk28 rfl rfl rfl) <| rS (CL (span_1 x.Radius 500 20000) (ha_nil) rfl) <| rS (NT rfl) <| RK hK73 ?_
   refine w_if rfl (fun h74 => ?_) (fun h74 => ?_)
   · replace h74 := XT h74
     refine WS fun _ hK75 => rS (AG rfl) <| RK hK75 <| w_ret <| Q1 hQ rfl rfl rfl ?_
     first | exact congrArg Value.bool (trackOk_len (by omega)).symm | exact congrArg Value.bool (trackOk_no hl0_1 hx (by simp only [StretchOk, SpanOk]; omega)).symm | exact congrArg Value.bool (trackOk_yes hl0_1 (by omega) (by omega)).symm
   replace h74 := XF h74
   refine w_skip <| k_block <| k_block <| KK hK13 <| w_region <| rS (MV rfl) <| rS (BI rfl (b_add ⟨by omega, by omega⟩)) <| rS (AG rfl) <| r_nil ?_
   refine k_then (hJ9 ⟨(i + 1), ⟨by omega, trackFrom_next hl0_1 hx (by simp only [StretchOk, SpanOk]; omega), by rw [lastId_succ hx]; omega⟩⟩ _ _ _ rfl (by first | omega | (simp; omega)) (Sub.cons rfl <| Sub.cons rfl <| Sub.nil _) (fun w hs => St.sel [1, 2] rfl rfl hs))
 replace h20 := DT h20
 refine dS (FA 0 rfl fo110_0 rfl) <| dS (L1 (Value.int .i64 x.Id) 0 rfl tk3 rfl rfl) <| dS (FA 0 rfl fo24_0 rfl) <| dS (L1 (Value.slice tsA ts.length tsC) 1 rfl tk22 rfl rfl) <| dS (MV rfl) <| dS (BI rfl (b_sub ⟨by omega, by omega⟩)) ?_
 obtain ⟨y, hy⟩ : ∃ y_, ts[(i - 1)]? = some y_ := ⟨ts[(i - 1)]'(by omega), List.getElem?_eq_getElem _⟩
 have hym : (ts.map StretchV.cells)[(i - 1)]? = some (StretchV.cells y) := by rw [List.getElem?_map, hy]; rfl
 refine dS (IA (i - 1) rfl (has_at 2 rfl) te22 (by decide) (by omega) (by omega)) <| dS (FAR ((i - 1) * 9) rfl (has_at 2 rfl) (Nat.mul_pos (by omega) (by decide)) fo110_0 rfl) ?_
 have hyl := lastId_pos (by omega) hy
 refine dS (LE1 (i - 1) 0 (Value.int .i64 y.Id) rfl tk3 (has_at 2 rfl) hym rfl (by decide) rfl) <| dS (BI rfl b_leq) <| dS (PK rfl) <| dS (PK rfl) <| dS (MV rfl) ?_
 refine d_bool (t := 42) rfl (fun h21 => ?_) (fun h21 => ?_)
 · replace h21 := DT h21
   refine dS (OX rfl) <| dS (OX rfl) <| dS (OX rfl) <| dS (OX rfl) <| dS (PK rfl) <| dS (MV rfl) <| dS (OX rfl) <| dS (OX rfl) <| dS (OX rfl) <| dS (OX rfl) ?_
   refine dS (PK rfl) <| dS (MV rfl) <| dS (OX rfl) <| dS (OX rfl) <| dS (OX rfl) <| dS (OX rfl) <| dS (PK rfl) <| d_end <| RK hK17 <| w_if_true rfl ?_
   refine WS fun _ hK22 => rS (AG rfl) <| RK hK22 <| w_ret <| Q1 hQ rfl rfl rfl ?_
   first | exact congrArg Value.bool (trackOk_len (by omega)).symm | exact congrArg Value.bool (trackOk_no hl0_1 hx (by simp only [StretchOk, SpanOk]; omega)).symm | exact congrArg Value.bool (trackOk_yes hl0_1 (by omega) (by omega)).symm
 replace h21 := DF h21
 refine dS (FA 1 rfl fo110_1 rfl) <| dS (LP (SpanV.cells x.Long) 0 rfl tk28 rfl rfl rfl) <| dS (CL (span_1 x.Long 1 30000) (ha_nil) rfl) <| dS (NT rfl) <| dS (PK rfl) <| dS (MV rfl) ?_
 refine d_bool (t := 48) rfl (fun h23 => ?_) (fun h23 => ?_)
 · replace h23 := XT h23
   refine dS (OX rfl) <| dS (OX rfl) <| dS (OX rfl) <| dS (OX rfl) <| dS (PK rfl) <| dS (MV rfl) <| dS (OX rfl) <| dS (OX rfl) <| dS (OX rfl) <| dS (OX rfl) ?_
   refine dS (PK rfl) <| d_end <| RK hK17 <| w_if_true rfl <| WS fun _ hK24 => rS (AG rfl) <| RK hK24 <| w_ret <| Q1 hQ rfl rfl rfl ?_
   first | exact congrArg Value.bool (trackOk_len (by omega)).symm | exact congrArg Value.bool (trackOk_no hl0_1 hx (by simp only [StretchOk, SpanOk]; omega)).symm | exact congrArg Value.bool (trackOk_yes hl0_1 (by omega) (by omega)).symm
 replace h23 := XF h23
 refine dS (FA 3 rfl fo110_2 rfl) <| dS (LP (SpanV.cells x.Fall) 0 rfl tk28 rfl rfl rfl) <| dS (CL (span_1 x.Fall 0 5000) (ha_nil) rfl) <| dS (NT rfl) <| dS (PK rfl) <| dS (MV rfl) ?_
 refine d_bool (t := 54) rfl (fun h25 => ?_) (fun h25 => ?_)
 · replace h25 := XT h25
   refine dS (OX rfl) <| dS (OX rfl) <| dS (OX rfl) <| dS (OX rfl) <| dS (PK rfl) <| d_end <| RK hK17 <| w_if_true rfl <| WS fun _ hK26 => rS (AG rfl) ?_
   refine RK hK26 <| w_ret <| Q1 hQ rfl rfl rfl ?_
   first | exact congrArg Value.bool (trackOk_len (by omega)).symm | exact congrArg Value.bool (trackOk_no hl0_1 hx (by simp only [StretchOk, SpanOk]; omega)).symm | exact congrArg Value.bool (trackOk_yes hl0_1 (by omega) (by omega)).symm
 replace h25 := XF h25
 refine dS (FA 8 rfl fo110_5 rfl) <| dS (L1 (Value.int .i64 x.Wall) 0 rfl tk3 rfl rfl) <| dS (CL (within_1 x.Wall 0 5000) (ha_nil) rfl) <| dS (NT rfl) <| dS (PK rfl) <| d_end <| RK hK17 ?_
 refine w_if rfl (fun h27 => ?_) (fun h27 => ?_)
 · replace h27 := XT h27
   refine WS fun _ hK28 => rS (AG rfl) <| RK hK28 <| w_ret <| Q1 hQ rfl rfl rfl ?_
   first | exact congrArg Value.bool (trackOk_len (by omega)).symm | exact congrArg Value.bool (trackOk_no hl0_1 hx (by simp only [StretchOk, SpanOk]; omega)).symm | exact congrArg Value.bool (trackOk_yes hl0_1 (by omega) (by omega)).symm
 replace h27 := XF h27
 refine WK hK16 <| WS fun _ hK29 => rS (FA 7 rfl fo110_4 rfl) <| rS (L1 (Value.int .u8 x.Side) 0 rfl tk5 rfl rfl) <| RK hK29 <| w_block <| WS fun _ hK30 => rS (BI rfl b_eql) <| rS (AG rfl) <| RK hK30 ?_
 refine w_if rfl (fun h31 => ?_) (fun h31 => ?_)
 · replace h31 := DT h31
   refine WS fun _ hK32 => rS (FA 5 rfl fo110_3 rfl) <| rS (FA 5 rfl fo28_0 rfl) <| rS (L1 (Value.int .i64 x.Radius.Lo) 0 rfl tk3 rfl rfl) <| rS (BI rfl b_neq) <| rS (MV rfl) ?_
   refine r_bool (t := 68) rfl (fun h33 => ?_) (fun h33 => ?_)
   · replace h33 := XT h33
     refine rS (OX rfl) <| rS (OX rfl) <| rS (OX rfl) <| rS (OX rfl) <| rS (PK rfl) <| RK hK32 <| w_if_true rfl <| WS fun _ hK34 => rS (AG rfl) <| RK hK34 ?_
     refine w_ret <| Q1 hQ rfl rfl rfl ?_
     first | exact congrArg Value.bool (trackOk_len (by omega)).symm | exact congrArg Value.bool (trackOk_no hl0_1 hx (by simp only [StretchOk, SpanOk]; omega)).symm | exact congrArg Value.bool (trackOk_yes hl0_1 (by omega) (by omega)).symm
   replace h33 := XF h33
   refine rS (FA 5 rfl fo110_3 rfl) <| rS (FA 6 rfl fo28_1 rfl) <| rS (L1 (Value.int .i64 x.Radius.Hi) 0 rfl tk3 rfl rfl) <| rS (BI rfl b_neq) <| rS (PK rfl) <| RK hK32 ?_
   refine w_if rfl (fun h35 => ?_) (fun h35 => ?_)
   · replace h35 := XT h35
     refine WS fun _ hK36 => rS (AG rfl) <| RK hK36 <| w_ret <| Q1 hQ rfl rfl rfl ?_
     first | exact congrArg Value.bool (trackOk_len (by omega)).symm | exact congrArg Value.bool (trackOk_no hl0_1 hx (by simp only [StretchOk, SpanOk]; omega)).symm | exact congrArg Value.bool (trackOk_yes hl0_1 (by omega) (by omega)).symm
   replace h35 := XF h35
   refine w_skip <| k_block <| k_block <| KK hK13 <| w_region <| rS (MV rfl) <| rS (BI rfl (b_add ⟨by omega, by omega⟩)) <| rS (AG rfl) <| r_nil ?_
   refine k_then (hJ9 ⟨(i + 1), ⟨by omega, trackFrom_next hl0_1 hx (by simp only [StretchOk, SpanOk]; omega), by rw [lastId_succ hx]; omega⟩⟩ _ _ _ rfl (by first | omega | (simp; omega)) (Sub.cons rfl <| Sub.cons rfl <| Sub.nil _) (fun w hs => St.sel [1, 2] rfl rfl hs))
 replace h31 := DF h31
 refine w_seq fun _ hK37 => WS fun _ hK38 => rS (BI rfl b_eql) <| rS (AG rfl) <| RK hK38 ?_
 refine w_if rfl (fun h39 => ?_) (fun h39 => ?_)
 · replace h39 := DT h39
   refine WK hK37 ?_
   refine w_if rfl (fun h40 => ?_) (fun h40 => ?_)
   rotate_left 1
   · replace h40 := DF h40
     refine WS fun _ hK44 => rS (AG rfl) <| RK hK44 <| w_ret <| Q1 hQ rfl rfl rfl ?_
     first | exact congrArg Value.bool (trackOk_len (by omega)).symm | exact congrArg Value.bool (trackOk_no hl0_1 hx (by simp only [StretchOk, SpanOk]; omega)).symm | exact congrArg Value.bool (trackOk_yes hl0_1 (by omega) (by omega)).symm
   replace h40 := DT h40
   refine WS fun _ hK41 => rS (FA 5 rfl fo110_3 rfl) <| rS (LP (SpanV.cells x.Radius) 0 rfl tk28 rfl rfl rfl) <| rS (CL (span_1 x.Radius 500 20000) (ha_nil) rfl) <| rS (NT rfl) <| RK hK41 ?_
   refine w_if rfl (fun h42 => ?_) (fun h42 => ?_)
   · replace h42 := XT h42
     refine WS fun _ hK43 => rS (AG rfl) <| RK hK43 <| w_ret <| Q1 hQ rfl rfl rfl ?_
     first | exact congrArg Value.bool (trackOk_len (by omega)).symm | exact congrArg Value.bool (trackOk_no hl0_1 hx (by simp only [StretchOk, SpanOk]; omega)).symm | exact congrArg Value.bool (trackOk_yes hl0_1 (by omega) (by omega)).symm
   replace h42 := XF h42
   refine w_skip <| k_block <| k_block <| KK hK13 <| w_region <| rS (MV rfl) <| rS (BI rfl (b_add ⟨by omega, by omega⟩)) <| rS (AG rfl) <| r_nil ?_
   refine k_then (hJ9 ⟨(i + 1), ⟨by omega, trackFrom_next hl0_1 hx (by simp only [StretchOk, SpanOk]; omega), by rw [lastId_succ hx]; omega⟩⟩ _ _ _ rfl (by first | omega | (simp; omega)) (Sub.cons rfl <| Sub.cons rfl <| Sub.nil _) (fun w hs => St.sel [1, 2] rfl rfl hs))
 replace h39 := DF h39
 refine w_region <| rS (BI rfl b_eql) <| rS (AG rfl) <| RK hK37 ?_
 refine w_if rfl (fun h45 => ?_) (fun h45 => ?_)
 rotate_left 1
 · replace h45 := DF h45
   refine WS fun _ hK49 => rS (AG rfl) <| RK hK49 <| w_ret <| Q1 hQ rfl rfl rfl ?_
   first | exact congrArg Value.bool (trackOk_len (by omega)).symm | exact congrArg Value.bool (trackOk_no hl0_1 hx (by simp only [StretchOk, SpanOk]; omega)).symm | exact congrArg Value.bool (trackOk_yes hl0_1 (by omega) (by omega)).symm
 replace h45 := DT h45
 refine WS fun _ hK46 => rS (FA 5 rfl fo110_3 rfl) <| rS (LP (SpanV.cells x.Radius) 0 rfl tk28 rfl rfl rfl) <| rS (CL (span_1 x.Radius 500 20000) (ha_nil) rfl) <| rS (NT rfl) <| RK hK46 ?_
 refine w_if rfl (fun h47 => ?_) (fun h47 => ?_)
 · replace h47 := XT h47
   refine WS fun _ hK48 => rS (AG rfl) <| RK hK48 <| w_ret <| Q1 hQ rfl rfl rfl ?_
   first | exact congrArg Value.bool (trackOk_len (by omega)).symm | exact congrArg Value.bool (trackOk_no hl0_1 hx (by simp only [StretchOk, SpanOk]; omega)).symm | exact congrArg Value.bool (trackOk_yes hl0_1 (by omega) (by omega)).symm
 replace h47 := XF h47
 refine w_skip <| k_block <| k_block <| KK hK13 <| w_region <| rS (MV rfl) <| rS (BI rfl (b_add ⟨by omega, by omega⟩)) <| rS (AG rfl) <| r_nil ?_
 refine k_then (hJ9 ⟨(i + 1), ⟨by omega, trackFrom_next hl0_1 hx (by simp only [StretchOk, SpanOk]; omega), by rw [lastId_succ hx]; omega⟩⟩ _ _ _ rfl (by first | omega | (simp; omega)) (Sub.cons rfl <| Sub.cons rfl <| Sub.nil _) (fun w hs => St.sel [1, 2] rfl rfl hs))
set_option maxRecDepth 100000 in
set_option maxHeartbeats 400000 in
theorem tcheck_c (ts : List StretchV) (tsA : Option Addr) (tsC : Nat) (hlen : ts.length ≤ 1000000) (hside : ∀ x ∈ ts, 0 ≤ x.Side ∧ x.Side ≤ 255) :
    FnV Try.prog 64 [(Value.agg (TrackV.cells (TrackV.mk (Slc.mk tsA ts.length tsC))).toArray)] [(rd tsA ts.length 9 (ts.map StretchV.cells))] (Value.int .i64 (if trackOk ts = true then 0 else 10)) := by
 refine fnV_of go64 Try.func64 rfl rfl fun w0 Q hQ hN => ?_
 try dsimp only
 refine WS fun _ hK1 => BXA rfl fun b2 => rS (AG rfl) <| RK hK1 <| w_scope rfl <| w_seq fun _ hK3 => WS fun _ hK4 => rS (FA 0 rfl fo24_0 rfl) <| rS (L1 (Value.slice tsA ts.length tsC) 0 rfl tk22 rfl rfl) <| rS (LN rfl ut22) ?_
 refine r_bs (xs := [.tmp 11]) (cs := [(Value.int .i64 ((ts.length : Nat) : Int))]) rfl te33 tz3 rfl rfl rfl rfl (by simp [Value.cells]) rfl rfl fun b5 => rS (CL (FnV.eq (in_track 1 12 ([((ts.length : Nat) : Int)]) (some ⟨b5, 0, none⟩) 1 (by first | assumption | omega | (simp; done) | (simp; omega))) inAll_one) (ha_cons (has_rd_blk 0 rfl rfl (by simp [iC_length]) rfl) <| ha_nil) rfl) <| rS (NT rfl) <| RK hK4 ?_
 refine w_if rfl (fun h6 => ?_) (fun h6 => ?_)
 · replace h6 := XT h6
   refine WS fun _ hK7 => rS (AG rfl) <| RK hK7 <| w_ret <| Q1 hQ rfl rfl rfl ?_
   first | exact congrArg (Value.int .i64) (if_neg (by rw [trackOk_len (by omega)]; decide)).symm | exact congrArg (Value.int .i64) (if_neg (by rw [trackOk_no hl0_1 hx (by simp only [StretchOk, SpanOk]; omega)]; decide)).symm | exact congrArg (Value.int .i64) (if_pos (trackOk_yes hl0_1 (by omega) (by omega))).symm
 replace h6 := XF h6
 refine WK hK3 <| WS fun _ hK8 => rS (AG rfl) <| RK hK8 <| WS fun _ hK9 => rS (AG rfl) <| RK hK9 <| w_seq fun _ hK10 => w_label <| KK hK10 ?_
 refine w_seq fun _ hK11 => WS fun _ hK12 => rS (FA 0 rfl fo24_0 rfl) <| rS (L1 (Value.slice tsA ts.length tsC) 1 rfl tk22 rfl rfl) <| rS (LN rfl ut22) <| rS (MV rfl) <| RK hK12 <| w_block ?_
 have hinit : (0 ≤ ts.length) ∧ (trackFrom (-1) ts = trackFrom (lastId ts 0) (ts.drop 0)) ∧ (-1 ≤ lastId ts 0) ∧ (lastId ts 0 ≤ 9999) := by (refine ⟨by omega, rfl, by simp [lastId], by simp [lastId]⟩)
 refine w_loop (ι := { z : Nat // (z ≤ ts.length) ∧ (trackFrom (-1) ts = trackFrom (lastId ts z) (ts.drop z)) ∧ (-1 ≤ lastId ts z) ∧ (lastId ts z ≤ 9999) }) (fun z => [(1, (Value.pointer (some ⟨b2, 0, none⟩))), (3, (Value.int .i64 (lastId ts z.1))), (4, (Value.int .i64 0)), (16, (Value.slice tsA ts.length tsC)), (17, (Value.int .i64 ((ts.length : Nat) : Int))), (18, (Value.int .i64 (z.1 : Int)))]) (fun z => [(blk b2 24 (TrackV.cells (TrackV.mk (Slc.mk tsA ts.length tsC)))), (rd tsA ts.length 9 (ts.map StretchV.cells)).ro]) (fun z => ts.length - z.1) ⟨0, hinit⟩ (Sub.cons rfl <| Sub.cons rfl <| Sub.cons rfl <| Sub.cons rfl <| Sub.cons rfl <| Sub.cons rfl <| Sub.nil _) (fun w hs => St.sel [1, 2] rfl rfl hs) ?_
 clear hinit
 rintro ⟨i, ⟨hl0_0, hl0_1, hl0_2, hl0_3⟩⟩ J13 hJ13
 try dsimp only
 refine WS fun _ hK14 => rS (BI rfl b_lss) <| RK hK14 <| w_seq fun _ hK15 => ?_
 refine w_if rfl (fun h16 => ?_) (fun h16 => ?_)
 rotate_left 1
 · replace h16 := DF h16
   refine w_exit <| k_exit_then <| k_exit_then <| k_exit_same <| KK hK11 <| WS fun _ hK24 => rS (MV rfl) <| rS (AG rfl) <| RK hK24 <| w_ret ?_
   refine Q1 hQ rfl rfl rfl ?_
   first | exact congrArg (Value.int .i64) (if_neg (by rw [trackOk_len (by omega)]; decide)).symm | exact congrArg (Value.int .i64) (if_neg (by rw [trackOk_no hl0_1 hx (by simp only [StretchOk, SpanOk]; omega)]; decide)).symm | exact congrArg (Value.int .i64) (if_pos (trackOk_yes hl0_1 (by omega) (by omega))).symm
 replace h16 := DT h16
 refine WK hK15 <| w_seq fun _ hK17 => w_block <| WS fun _ hK18 => ?_
 obtain ⟨x, hx⟩ : ∃ y_, ts[i]? = some y_ := ⟨ts[i]'(by omega), List.getElem?_eq_getElem _⟩
 have hxm : (ts.map StretchV.cells)[i]? = some (StretchV.cells x) := by rw [List.getElem?_map, hx]; rfl
 refine rS (IA i rfl (has_at 1 rfl) te22 (by decide) (by omega) (by omega)) ?_
 have hsd := hside x (List.mem_of_getElem? hx)
 refine rS (LEN i 0 (StretchV.cells x) rfl tk110 (has_at 1 rfl) hxm rfl (by decide) rfl rfl) <| AL rfl tz110 fun b19 => SW0 rfl ts110 rfl <| RK hK18 ?_
 refine w_join (ι := Unit) (fun z => [(1, (Value.pointer (some ⟨b2, 0, none⟩))), (3, (Value.int .i64 (lastId ts i))), (4, (Value.int .i64 0)), (6, (Value.pointer (some ⟨b19, 0, none⟩))), (7, (Value.bool (decide (x.Side = 0 ∧ x.Radius.Lo = 0 ∧ x.Radius.Hi = 0)))), (16, (Value.slice tsA ts.length tsC)), (17, (Value.int .i64 ((ts.length : Nat) : Int))), (18, (Value.int .i64 (i : Int)))]) (fun z => [(blk b19 110 (StretchV.cells x)), (blk b2 24 (TrackV.cells (TrackV.mk (Slc.mk tsA ts.length tsC)))), (rd tsA ts.length 9 (ts.map StretchV.cells)).ro]) ?_ fun K20 hK20 => ?_
 · intro _
   try dsimp only
   refine w_join (ι := Unit) (fun z => [(1, (Value.pointer (some ⟨b2, 0, none⟩))), (3, (Value.int .i64 (lastId ts i))), (4, (Value.int .i64 0)), (6, (Value.pointer (some ⟨b19, 0, none⟩))), (7, (Value.bool (decide (x.Side = 0 ∧ x.Radius.Lo = 0 ∧ x.Radius.Hi = 0)))), (8, (Value.bool (decide ((1 ≤ x.Side ∧ x.Side ≤ 2) ∧ x.Radius.Lo ≤ x.Radius.Hi ∧ 500 ≤ x.Radius.Lo ∧ x.Radius.Hi ≤ 20000)))), (16, (Value.slice tsA ts.length tsC)), (17, (Value.int .i64 ((ts.length : Nat) : Int))), (18, (Value.int .i64 (i : Int)))]) (fun z => [(blk b19 110 (StretchV.cells x)), (blk b2 24 (TrackV.cells (TrackV.mk (Slc.mk tsA ts.length tsC)))), (rd tsA ts.length 9 (ts.map StretchV.cells)).ro]) ?_ fun K21 hK21 => ?_
   · intro _
     try dsimp only
     refine w_seq fun _ hK22 => WS fun _ hK23 => rS (MV rfl) <| rS (BI rfl (b_add ⟨by omega, by omega⟩)) <| rS (FA 0 rfl fo110_0 rfl) <| rS (L1 (Value.int .i64 x.Id) 0 rfl tk3 rfl rfl) <| r_bs (xs := [.tmp 44]) (cs := [(Value.int .i64 x.Id)]) rfl te33 tz3 rfl rfl rfl rfl (by simp [Value.cells]) rfl rfl fun b24 => rS (CL (FnV.eq (in_track ((lastId ts i) + 1) 9999 ([x.Id]) (some ⟨b24, 0, none⟩) 1 (by first | assumption | omega | (simp; done) | (simp; omega))) inAll_one) (ha_cons (has_rd_blk 0 rfl rfl (by simp [iC_length]) rfl) <| ha_nil) rfl) <| rS (NT rfl) <| rS (MV rfl) ?_
     refine r_bool (t := 48) rfl (fun h25 => ?_) (fun h25 => ?_)
     · replace h25 := XT h25
       refine rS (OX rfl) <| rS (OX rfl) <| rS (OX rfl) <| rS (OX rfl) <| rS (PK rfl) <| rS (MV rfl) <| rS (OX rfl) <| rS (OX rfl) <| rS (OX rfl) <| rS (OX rfl) ?_
       refine rS (PK rfl) <| rS (MV rfl) <| rS (OX rfl) <| rS (OX rfl) <| rS (OX rfl) <| rS (OX rfl) <| rS (OX rfl) <| rS (PK rfl) <| rS (MV rfl) <| rS (OX rfl) ?_
       refine rS (OX rfl) <| rS (OX rfl) <| rS (OX rfl) <| rS (OX rfl) <| rS (OX rfl) <| rS (PK rfl) <| RK hK23 <| w_if_true rfl <| WS fun _ hK26 => rS (AG rfl) ?_
       refine RK hK26 <| w_exit <| k_exit_then <| k_exit_other rfl <| k_exit_then <| k_exit_then <| k_exit_same <| KK hK11 <| WS fun _ hK27 => rS (MV rfl) ?_
       refine rS (AG rfl) <| RK hK27 <| w_ret <| Q1 hQ rfl rfl rfl ?_
       first | exact congrArg (Value.int .i64) (if_neg (by rw [trackOk_len (by omega)]; decide)).symm | exact congrArg (Value.int .i64) (if_neg (by rw [trackOk_no hl0_1 hx (by simp only [StretchOk, SpanOk]; omega)]; decide)).symm | exact congrArg (Value.int .i64) (if_pos (trackOk_yes hl0_1 (by omega) (by omega))).symm
     replace h25 := XF h25
     refine rS (FA 1 rfl fo110_1 rfl) <| rS (LP (SpanV.cells x.Long) 1 rfl tk28 rfl rfl rfl) <| rS (CL (known_c x.Long 1 30000) (ha_nil) rfl) <| rS (NT rfl) <| rS (PK rfl) <| rS (MV rfl) ?_
     refine r_bool (t := 54) rfl (fun h28 => ?_) (fun h28 => ?_)
     · replace h28 := XT h28
       refine rS (OX rfl) <| rS (OX rfl) <| rS (OX rfl) <| rS (OX rfl) <| rS (PK rfl) <| rS (MV rfl) <| rS (OX rfl) <| rS (OX rfl) <| rS (OX rfl) <| rS (OX rfl) ?_
       refine rS (OX rfl) <| rS (PK rfl) <| rS (MV rfl) <| rS (OX rfl) <| rS (OX rfl) <| rS (OX rfl) <| rS (OX rfl) <| rS (OX rfl) <| rS (OX rfl) <| rS (PK rfl) ?_
       refine RK hK23 <| w_if_true rfl <| WS fun _ hK29 => rS (AG rfl) <| RK hK29 <| w_exit <| k_exit_then <| k_exit_other rfl <| k_exit_then <| k_exit_then ?_
       refine k_exit_same <| KK hK11 <| WS fun _ hK30 => rS (MV rfl) <| rS (AG rfl) <| RK hK30 <| w_ret <| Q1 hQ rfl rfl rfl ?_
       first | exact congrArg (Value.int .i64) (if_neg (by rw [trackOk_len (by omega)]; decide)).symm | exact congrArg (Value.int .i64) (if_neg (by rw [trackOk_no hl0_1 hx (by simp only [StretchOk, SpanOk]; omega)]; decide)).symm | exact congrArg (Value.int .i64) (if_pos (trackOk_yes hl0_1 (by omega) (by omega))).symm
     replace h28 := XF h28
     refine rS (FA 3 rfl fo110_2 rfl) <| rS (LP (SpanV.cells x.Fall) 1 rfl tk28 rfl rfl rfl) <| rS (CL (known_c x.Fall 0 5000) (ha_nil) rfl) <| rS (NT rfl) <| rS (PK rfl) <| rS (MV rfl) ?_
     refine r_bool (t := 60) rfl (fun h31 => ?_) (fun h31 => ?_)
     · replace h31 := XT h31
       refine rS (OX rfl) <| rS (OX rfl) <| rS (OX rfl) <| rS (OX rfl) <| rS (OX rfl) <| rS (PK rfl) <| rS (MV rfl) <| rS (OX rfl) <| rS (OX rfl) <| rS (OX rfl) ?_
       refine rS (OX rfl) <| rS (OX rfl) <| rS (OX rfl) <| rS (PK rfl) <| RK hK23 <| w_if_true rfl <| WS fun _ hK32 => rS (AG rfl) <| RK hK32 <| w_exit ?_
       refine k_exit_then <| k_exit_other rfl <| k_exit_then <| k_exit_then <| k_exit_same <| KK hK11 <| WS fun _ hK33 => rS (MV rfl) <| rS (AG rfl) <| RK hK33 ?_
       refine w_ret <| Q1 hQ rfl rfl rfl ?_
       first | exact congrArg (Value.int .i64) (if_neg (by rw [trackOk_len (by omega)]; decide)).symm | exact congrArg (Value.int .i64) (if_neg (by rw [trackOk_no hl0_1 hx (by simp only [StretchOk, SpanOk]; omega)]; decide)).symm | exact congrArg (Value.int .i64) (if_pos (trackOk_yes hl0_1 (by omega) (by omega))).symm
     replace h31 := XF h31
     refine rS (FA 8 rfl fo110_5 rfl) <| rS (L1 (Value.int .i64 x.Wall) 1 rfl tk3 rfl rfl) <| r_bs (xs := [.tmp 62]) (cs := [(Value.int .i64 x.Wall)]) rfl te33 tz3 rfl rfl rfl rfl (by simp [Value.cells]) rfl rfl fun b34 => rS (CL (FnV.eq (in_track 0 5000 ([x.Wall]) (some ⟨b34, 0, none⟩) 1 (by first | assumption | omega | (simp; done) | (simp; omega))) inAll_one) (ha_cons (has_rd_blk 0 rfl rfl (by simp [iC_length]) rfl) <| ha_nil) rfl) <| rS (NT rfl) <| rS (PK rfl) <| rS (MV rfl) ?_
     refine r_bool (t := 67) rfl (fun h35 => ?_) (fun h35 => ?_)
     · replace h35 := XT h35
       refine rS (OX rfl) <| rS (OX rfl) <| rS (OX rfl) <| rS (OX rfl) <| rS (OX rfl) <| rS (OX rfl) <| rS (PK rfl) <| RK hK23 <| w_if_true rfl <| WS fun _ hK36 => ?_
       refine rS (AG rfl) <| RK hK36 <| w_exit <| k_exit_then <| k_exit_other rfl <| k_exit_then <| k_exit_then <| k_exit_same <| KK hK11 <| WS fun _ hK37 => ?_
       refine rS (MV rfl) <| rS (AG rfl) <| RK hK37 <| w_ret <| Q1 hQ rfl rfl rfl ?_
       first | exact congrArg (Value.int .i64) (if_neg (by rw [trackOk_len (by omega)]; decide)).symm | exact congrArg (Value.int .i64) (if_neg (by rw [trackOk_no hl0_1 hx (by simp only [StretchOk, SpanOk]; omega)]; decide)).symm | exact congrArg (Value.int .i64) (if_pos (trackOk_yes hl0_1 (by omega) (by omega))).symm
     replace h35 := XF h35
     refine rS (MV rfl) <| rS (NT rfl) <| rS (MV rfl) ?_
     refine r_bool (t := 70) rfl (fun h38 => ?_) (fun h38 => ?_)
     rotate_left 1
     · replace h38 := XF h38
       refine rS (OX rfl) <| rS (OX rfl) <| rS (PK rfl) <| rS (PK rfl) <| RK hK23 <| w_if_false rfl <| WK hK22 <| w_region <| rS (FA 0 rfl fo110_0 rfl) <| rS (L1 (Value.int .i64 x.Id) 2 rfl tk3 rfl rfl) ?_
       refine rS (AG rfl) <| r_nil <| k_block <| KK hK17 <| w_region <| rS (BI rfl (b_add ⟨by omega, by omega⟩)) <| rS (MV rfl) <| r_nil ?_
       have hb43 : (Value.int .i64 (lastId ts (i + 1))) = (Value.int .i64 x.Id) := by rw [lastId_succ hx]
       refine k_then (hJ13 ⟨(i + 1), ⟨by omega, trackFrom_next hl0_1 hx (by simp only [StretchOk, SpanOk]; omega), by rw [lastId_succ hx]; omega, by rw [lastId_succ hx]; omega⟩⟩ _ _ _ rfl (by first | omega | (simp; omega)) (Sub.cons rfl <| sub_val rfl hb43 <| Sub.cons rfl <| Sub.cons rfl <| Sub.cons rfl <| Sub.cons rfl <| Sub.nil _) (fun w hs => St.sel [3, 4] rfl rfl hs))
     replace h38 := XT h38
     refine rS (MV rfl) <| rS (NT rfl) <| rS (PK rfl) <| rS (PK rfl) <| RK hK23 ?_
     refine w_if rfl (fun h39 => ?_) (fun h39 => ?_)
     · replace h39 := XT h39
       refine WS fun _ hK40 => rS (AG rfl) <| RK hK40 <| w_exit <| k_exit_then <| k_exit_other rfl <| k_exit_then <| k_exit_then <| k_exit_same <| KK hK11 ?_
       refine WS fun _ hK41 => rS (MV rfl) <| rS (AG rfl) <| RK hK41 <| w_ret <| Q1 hQ rfl rfl rfl ?_
       first | exact congrArg (Value.int .i64) (if_neg (by rw [trackOk_len (by omega)]; decide)).symm | exact congrArg (Value.int .i64) (if_neg (by rw [trackOk_no hl0_1 hx (by simp only [StretchOk, SpanOk]; omega)]; decide)).symm | exact congrArg (Value.int .i64) (if_pos (trackOk_yes hl0_1 (by omega) (by omega))).symm
     replace h39 := XF h39
     refine WK hK22 <| w_region <| rS (FA 0 rfl fo110_0 rfl) <| rS (L1 (Value.int .i64 x.Id) 2 rfl tk3 rfl rfl) <| rS (AG rfl) <| r_nil <| k_block <| KK hK17 <| w_region <| rS (BI rfl (b_add ⟨by omega, by omega⟩)) ?_
     refine rS (MV rfl) <| r_nil ?_
     have hb42 : (Value.int .i64 (lastId ts (i + 1))) = (Value.int .i64 x.Id) := by rw [lastId_succ hx]
     refine k_then (hJ13 ⟨(i + 1), ⟨by omega, trackFrom_next hl0_1 hx (by simp only [StretchOk, SpanOk]; omega), by rw [lastId_succ hx]; omega, by rw [lastId_succ hx]; omega⟩⟩ _ _ _ rfl (by first | omega | (simp; omega)) (Sub.cons rfl <| sub_val rfl hb42 <| Sub.cons rfl <| Sub.cons rfl <| Sub.cons rfl <| Sub.cons rfl <| Sub.nil _) (fun w hs => St.sel [3, 4] rfl rfl hs))
   refine w_region <| rS (FA 7 rfl fo110_4 rfl) <| rS (L1 (Value.int .u8 x.Side) 0 rfl tk5 rfl rfl) <| rS (SX (sd_conv (m := x.Side) rfl rfl ut5 ut3 (wrap_u8_i64 (by first | assumption | omega))) rfl rfl) <| r_bs (xs := [.tmp 33]) (cs := [(Value.int .i64 x.Side)]) rfl te33 tz3 rfl rfl rfl rfl (by simp [Value.cells]) rfl rfl fun b22 => rS (CL (FnV.eq (in_track 1 2 ([x.Side]) (some ⟨b22, 0, none⟩) 1 (by first | assumption | omega | (simp; done) | (simp; omega))) inAll_one) (ha_cons (has_rd_blk 0 rfl rfl (by simp [iC_length]) rfl) <| ha_nil) rfl) <| rS (MV rfl) ?_
   refine r_bool (t := 36) rfl (fun h23 => ?_) (fun h23 => ?_)
   rotate_left 1
   · replace h23 := DF h23
     refine rS (OX rfl) <| rS (OX rfl) <| rS (OX rfl) <| rS (PK rfl) <| rS (AG rfl) <| r_nil ?_
     have hb25 : (decide ((1 ≤ x.Side ∧ x.Side ≤ 2) ∧ x.Radius.Lo ≤ x.Radius.Hi ∧ 500 ≤ x.Radius.Lo ∧ x.Radius.Hi ≤ 20000)) = false := decide_eq_false (by first | omega | (simp only [SpanV.ext_iff] at *; omega))
     refine k_then (k_sub (Sub.cons rfl <| Sub.cons rfl <| Sub.cons rfl <| Sub.cons rfl <| Sub.cons rfl <| sub_bool rfl hb25 <| Sub.cons rfl <| Sub.cons rfl <| Sub.cons rfl <| Sub.nil _) (fun w hs => St.sel [1, 2, 3] rfl rfl hs) (hK21 ()))
   replace h23 := DT h23
   refine rS (FA 5 rfl fo110_3 rfl) <| rS (LP (SpanV.cells x.Radius) 1 rfl tk28 rfl rfl rfl) <| rS (CL (known_c x.Radius 500 20000) (ha_nil) rfl) <| rS (PK rfl) <| rS (AG rfl) <| r_nil ?_
   have hb24 : (decide ((1 ≤ x.Side ∧ x.Side ≤ 2) ∧ x.Radius.Lo ≤ x.Radius.Hi ∧ 500 ≤ x.Radius.Lo ∧ x.Radius.Hi ≤ 20000)) = (decide (x.Radius.Lo ≤ x.Radius.Hi ∧ 500 ≤ x.Radius.Lo ∧ x.Radius.Hi ≤ 20000)) := decide_eq_decide.2 (by first | omega | (simp only [SpanV.ext_iff] at *; omega))
   refine k_then (k_sub (Sub.cons rfl <| Sub.cons rfl <| Sub.cons rfl <| Sub.cons rfl <| Sub.cons rfl <| sub_bool rfl hb24 <| Sub.cons rfl <| Sub.cons rfl <| Sub.cons rfl <| Sub.nil _) (fun w hs => St.sel [1, 2, 3] rfl rfl hs) (hK21 ()))
 refine w_region <| rS (FA 7 rfl fo110_4 rfl) <| rS (L1 (Value.int .u8 x.Side) 0 rfl tk5 rfl rfl) <| rS (BI rfl b_eql) <| rS (MV rfl) ?_
 refine r_bool (t := 25) rfl (fun h21 => ?_) (fun h21 => ?_)
 rotate_left 1
 · replace h21 := DF h21
   refine rS (OX rfl) <| rS (OX rfl) <| rS (OX rfl) <| rS (OX rfl) <| rS (PK rfl) <| rS (AG rfl) <| r_nil ?_
   have hb23 : (decide (x.Side = 0 ∧ x.Radius.Lo = 0 ∧ x.Radius.Hi = 0)) = false := decide_eq_false (by first | omega | (simp only [SpanV.ext_iff] at *; omega))
   refine k_then (k_sub (Sub.cons rfl <| Sub.cons rfl <| Sub.cons rfl <| Sub.cons rfl <| sub_bool rfl hb23 <| Sub.cons rfl <| Sub.cons rfl <| Sub.cons rfl <| Sub.nil _) (fun w hs => St.sel [0, 1, 2] rfl rfl hs) (hK20 ()))
 replace h21 := DT h21
 refine rS (FA 5 rfl fo110_3 rfl) <| rS (LP (SpanV.cells x.Radius) 0 rfl tk28 rfl rfl rfl) <| rS (SX (sd_build (xs := []) (cs := (SpanV.cells (SpanV.mk 0 0))) rfl rfl (built_of tb28 rfl)) rfl rfl) <| rS (BI rfl (eqs28 _ _ x.Radius (SpanV.mk 0 0))) <| rS (PK rfl) <| rS (AG rfl) <| r_nil ?_
 have hb22 : (decide (x.Side = 0 ∧ x.Radius.Lo = 0 ∧ x.Radius.Hi = 0)) = (decide (x.Radius = (SpanV.mk 0 0))) := decide_eq_decide.2 (by first | omega | (simp only [SpanV.ext_iff] at *; omega))
 refine k_then (k_sub (Sub.cons rfl <| Sub.cons rfl <| Sub.cons rfl <| Sub.cons rfl <| sub_bool rfl hb22 <| Sub.cons rfl <| Sub.cons rfl <| Sub.cons rfl <| Sub.nil _) (fun w hs => St.sel [0, 1, 2] rfl rfl hs) (hK20 ()))
set_option maxRecDepth 100000 in
set_option maxHeartbeats 400000 in
theorem sameints_c (la : List Int) (laA : Option Addr) (laC : Nat) (lb : List Int) (lbA : Option Addr) (lbC : Nat) (h1 : la.length ≤ 1000000) (h2 : lb.length ≤ 1000000) :
    FnV Try.prog 25 [(Value.slice laA la.length laC), (Value.slice lbA lb.length lbC)] [(rd laA la.length 1 (la.map iC)), (rd lbA lb.length 1 (lb.map iC))] (Value.bool (decide (la = lb))) := by
 refine fnV_of go25 Try.func25 rfl rfl fun w0 Q hQ hN => ?_
 try dsimp only
 refine WS fun _ hK1 => rS (AG rfl) <| RK hK1 <| w_seq fun _ hK2 => WS fun _ hK3 => rS (MV rfl) <| rS (LN rfl ut33) <| rS (MV rfl) <| rS (LN rfl ut33) <| rS (BI rfl b_neq) ?_
 refine RK hK3 ?_
 refine w_if rfl (fun hl => ?_) (fun hl => ?_)
 · replace hl := XT hl
   refine WS fun _ hK4 => rS (AG rfl) <| RK hK4 <| w_ret <| Q1 hQ rfl rfl rfl ?_
   first | exact congrArg Value.bool (decide_eq_false (lists_ne hx hy h)).symm | exact congrArg Value.bool (decide_eq_true (lists_eq (by omega) hl0_1 (by omega))).symm | exact congrArg Value.bool (decide_eq_false (fun e => by subst e; omega)).symm
 replace hl := XF hl
 refine WK hK2 <| w_seq fun _ hK5 => WS fun _ hK6 => rS (AG rfl) <| RK hK6 <| w_block ?_
 have hinit : (0 ≤ la.length) ∧ (la.take 0 = lb.take 0) := by simp
 refine w_loop (ι := { z : Nat // (z ≤ la.length) ∧ (la.take z = lb.take z) }) (fun z => [(0, (Value.slice laA la.length laC)), (1, (Value.slice lbA lb.length lbC)), (5, (Value.int .i64 ((z.1 : Nat) : Int)))]) (fun z => [(rd laA la.length 1 (la.map iC)).ro, (rd lbA lb.length 1 (lb.map iC)).ro]) (fun z => la.length - z.1) ⟨0, hinit⟩ (Sub.cons rfl <| Sub.cons rfl <| Sub.cons rfl <| Sub.nil _) (fun w hs => St.sel [0, 1] rfl rfl hs) ?_
 clear hinit
 rintro ⟨i, ⟨hl0_0, hl0_1⟩⟩ J7 hJ7
 try dsimp only
 refine w_seq fun _ hK8 => WS fun _ hK9 => rS (MV rfl) <| rS (MV rfl) <| rS (LN rfl ut33) <| rS (BI rfl b_lss) <| RK hK9 ?_
 refine w_if rfl (fun h10 => ?_) (fun h10 => ?_)
 rotate_left 1
 · replace h10 := DF h10
   refine w_exit <| k_exit_then <| k_exit_then <| k_exit_same <| KK hK5 <| WS fun _ hK15 => rS (AG rfl) <| RK hK15 <| w_ret <| Q1 hQ rfl rfl rfl ?_
   first | exact congrArg Value.bool (decide_eq_false (lists_ne hx hy h)).symm | exact congrArg Value.bool (decide_eq_true (lists_eq (by omega) hl0_1 (by omega))).symm | exact congrArg Value.bool (decide_eq_false (fun e => by subst e; omega)).symm
 replace h10 := DT h10
 refine WK hK8 <| w_seq fun _ hK11 => w_block <| w_seq fun _ hK12 => w_draw mixed 9 (by kernel_rfl) <| dS (MV rfl) <| dS (MV rfl) ?_
 obtain ⟨x, hx⟩ : ∃ y_, la[i]? = some y_ := ⟨la[i]'(by omega), List.getElem?_eq_getElem _⟩
 have hxm : (la.map iC)[i]? = some (iC x) := by rw [List.getElem?_map, hx]; rfl
 refine dS (IA i rfl (has_at 0 rfl) te33 (by decide) (by omega) (by omega)) <| dS (LE1 i 0 (Value.int .i64 x) rfl tk3 (has_at 0 rfl) hxm rfl (by decide) rfl) <| dS (MV rfl) <| dS (MV rfl) ?_
 obtain ⟨y, hy⟩ : ∃ y_, lb[i]? = some y_ := ⟨lb[i]'(by omega), List.getElem?_eq_getElem _⟩
 have hym : (lb.map iC)[i]? = some (iC y) := by rw [List.getElem?_map, hy]; rfl
 refine dS (IA i rfl (has_at 1 rfl) te33 (by decide) (by omega) (by omega)) <| dS (LE1 i 0 (Value.int .i64 y) rfl tk3 (has_at 1 rfl) hym rfl (by decide) rfl) <| dS (BI rfl b_neq) <| d_end <| RK hK12 ?_
 refine w_if rfl (fun h => ?_) (fun h => ?_)
 · replace h := XT h
   refine WS fun _ hK13 => rS (AG rfl) <| RK hK13 <| w_ret <| Q1 hQ rfl rfl rfl ?_
   first | exact congrArg Value.bool (decide_eq_false (lists_ne hx hy h)).symm | exact congrArg Value.bool (decide_eq_true (lists_eq (by omega) hl0_1 (by omega))).symm | exact congrArg Value.bool (decide_eq_false (fun e => by subst e; omega)).symm
 replace h := XF h
 refine w_skip <| k_block <| KK hK11 <| w_region <| rS (MV rfl) <| rS (BI rfl (b_add ⟨by omega, by omega⟩)) <| rS (AG rfl) <| r_nil ?_
 have hb14 : (Value.int .i64 (((i + 1) : Nat) : Int)) = (Value.int .i64 (((i : Nat) : Int) + 1)) := by exact congrArg (Value.int .i64) (by omega)
 refine k_then (hJ7 ⟨(i + 1), ⟨by omega, take_same hl0_1 hx hy h⟩⟩ _ _ _ rfl (by first | omega | (simp; omega)) (Sub.cons rfl <| Sub.cons rfl <| sub_val rfl hb14 <| Sub.nil _) (fun w hs => St.sel [0, 1] rfl rfl hs))
end
section
open Go.RowKit
set_option linter.unusedVariables false
set_option maxRecDepth 100000 in
set_option maxHeartbeats 400000 in
theorem plus_c (a : SpanV) (l : List SpanV) (lA : Option Addr) (lC : Nat) (ha : In12 a) (hl : ∀ z ∈ l, In12 z) (hlen : l.length ≤ 4) :
    FnV Try.prog 80 [(Value.agg (SpanV.cells a).toArray), (Value.slice lA l.length lC)] [(rd lA l.length 2 (l.map SpanV.cells))] (Value.agg (SpanV.cells (plusF a l)).toArray) := by
 refine fnV_of go80 Try.func80 rfl rfl fun w0 Q hQ hN => ?_
 try dsimp only
 refine WS fun _ hK1 => BXA rfl fun b2 => AL rfl tz28 fun b3 => RK hK1 <| w_seq fun _ hK4 => WS fun _ hK5 => rS (MV rfl) <| rS (LN rfl ut146) <| rS (MV rfl) <| RK hK5 ?_
 refine w_block ?_
 have hinit : (0 ≤ l.length) := by exact Nat.zero_le _
 refine w_loop (ι := { z : Nat // (z ≤ l.length) }) (fun z => [(2, (Value.pointer (some ⟨b2, 0, none⟩))), (4, (Value.pointer (some ⟨b3, 0, none⟩))), (7, (Value.slice lA l.length lC)), (8, (Value.int .i64 ((l.length : Nat) : Int))), (9, (Value.int .i64 (z.1 : Int)))]) (fun z => [(blk b3 28 (SpanV.cells (SpanV.mk 0 0))), (blk b2 28 (SpanV.cells (plusF a (l.take z.1)))), (rd lA l.length 2 (l.map SpanV.cells)).ro]) (fun z => l.length - z.1) ⟨0, hinit⟩ (Sub.cons rfl <| Sub.cons rfl <| Sub.cons rfl <| Sub.cons rfl <| Sub.cons rfl <| Sub.nil _) (fun w hs => St.sel [0, 1, 2] rfl rfl hs) ?_
 clear hinit
 rintro ⟨i, hl2_0⟩ J6 hJ6
 try dsimp only
 refine WS fun _ hK7 => rS (BI rfl b_lss) <| RK hK7 <| w_seq fun _ hK8 => ?_
 refine w_if rfl (fun h9 => ?_) (fun h9 => ?_)
 rotate_left 1
 · replace h9 := DF h9
   refine w_exit <| k_exit_then <| k_exit_then <| k_exit_same <| KK hK4 <| w_seq fun _ hK15 => ?_
   have hb16 : (SpanV.cells (plusF a (l.take i))) = (SpanV.cells (plusF a l)) := by rw [plus_all (by omega)]
   rw [hb16]
   refine w_region <| rS (LW 1 rfl tk28 rfl rfl) <| SW0 rfl ts28 rfl <| RK hK15 <| w_ret ?_
   refine hQ _ _ _ (l_nil (vs := [(Value.agg (SpanV.cells (plusF a l)).toArray)]) ⟨⟨_, rfl, .inl ⟨_, _, tk28, at_blk (vs := (SpanV.cells (plusF a l))) 0 rfl rfl, rfl, rfl⟩⟩, trivial⟩ fun w hs => endV ?_ hs)
   show (Value.agg (SpanV.cells (plusF a l)).toArray) = (Value.agg (SpanV.cells (plusF a l)).toArray)
   clear hs w hQ hN hK15 hK8 hK7 hK5 hK4 hK1
   rfl
 replace h9 := DT h9
 refine WK hK8 <| w_seq fun _ hK10 => w_block <| WS fun _ hK11 => ?_
 obtain ⟨x, hx⟩ : ∃ y_, l[i]? = some y_ := ⟨l[i]'(by omega), List.getElem?_eq_getElem _⟩
 have hxm : (l.map SpanV.cells)[i]? = some (SpanV.cells x) := by rw [List.getElem?_map, hx]; rfl
 refine rS (IA i rfl (has_at 2 rfl) te146 (by decide) (by omega) (by omega)) <| rS (LEN i 0 (SpanV.cells x) rfl tk28 (has_at 2 rfl) hxm rfl (by decide) rfl rfl) <| AL rfl tz28 fun b12 => SW0 rfl ts28 rfl <| RK hK11 <| w_region ?_
 have hb := plus_b ha hl i
 have hz := hl x (List.mem_of_getElem? hx)
 unfold In12 at hz
 refine rS (FA 0 rfl fo28_0 rfl) <| rS (L1 (Value.int .i64 ((plusF a (l.take i)).Lo)) 2 rfl tk3 rfl rfl) <| rS (FA 0 rfl fo28_0 rfl) <| rS (L1 (Value.int .i64 x.Lo) 0 rfl tk3 rfl rfl) <| rS (BI rfl (b_add ⟨by omega, by omega⟩)) <| rS (FA 1 rfl fo28_1 rfl) <| rS (L1 (Value.int .i64 ((plusF a (l.take i)).Hi)) 2 rfl tk3 rfl rfl) <| rS (FA 1 rfl fo28_1 rfl) <| rS (L1 (Value.int .i64 x.Hi) 0 rfl tk3 rfl rfl) <| rS (BI rfl (b_add ⟨by omega, by omega⟩)) ?_
 refine rS (SX (sd_build (xs := [(0, .tmp 17), (1, .tmp 22)]) (cs := (SpanV.cells (SpanV.mk (((plusF a (l.take i)).Lo) + x.Lo) (((plusF a (l.take i)).Hi) + x.Hi)))) rfl rfl (built_of tb28 rfl)) rfl rfl) <| SW2 rfl ts28 rfl <| r_nil <| k_block <| KK hK10 ?_
 have hb13 : (SpanV.cells (SpanV.mk (((plusF a (l.take i)).Lo) + x.Lo) (((plusF a (l.take i)).Hi) + x.Hi))) = (SpanV.cells (plusF a (l.take (i + 1)))) := by rw [plus_take hx]; rfl
 rw [hb13]
 refine w_region <| rS (BI rfl (b_add ⟨by omega, by omega⟩)) <| rS (MV rfl) <| r_nil ?_
 have hb14 : (Value.int .i64 ((i + 1) : Int)) = (Value.int .i64 ((i : Int) + 1)) := by exact congrArg (Value.int .i64) (by omega)
 refine k_then (hJ6 ⟨(i + 1), (by first | omega | (simp only []; omega))⟩ _ _ _ rfl (by first | omega | (simp; omega)) (Sub.cons rfl <| Sub.cons rfl <| Sub.cons rfl <| Sub.cons rfl <| sub_val rfl hb14 <| Sub.nil _) (fun w hs => St.sel [1, 2, 3] rfl rfl hs))
set_option maxRecDepth 100000 in
set_option maxHeartbeats 400000 in
theorem topen_c (ts : List StretchV) (tsA : Option Addr) (tsC : Nat) (hlen : ts.length ≤ 1000000) (hside : ∀ x ∈ ts, 0 ≤ x.Side ∧ x.Side ≤ 255) :
    FnV Try.prog 76 [(Value.agg (TrackV.cells (TrackV.mk (Slc.mk tsA ts.length tsC))).toArray)] [(rd tsA ts.length 9 (ts.map StretchV.cells))] (Value.tuple [(Value.agg (SurveyV.cells (SurveyV.mk (TrackV.mk (Slc.mk tsA ts.length tsC)))).toArray), (Value.int .i64 (if trackOk ts = true then 0 else 10))].toArray) := by
 refine fnV_of go76 Try.func76 rfl rfl fun w0 Q hQ hN => ?_
 try dsimp only
 refine WS fun _ hK1 => BXA rfl fun b2 => AL rfl tz113 fun b3 => rS (AG rfl) <| RK hK1 <| w_seq fun _ hK4 => w_draw mixed 4 (by kernel_rfl) <| dS (LW 1 rfl tk24 rfl rfl) <| dS (SX (sd_build (xs := [(0, .tmp 4)]) (cs := (SurveyV.cells (SurveyV.mk (TrackV.mk (Slc.mk tsA ts.length tsC))))) rfl rfl (built_of tb113 rfl)) rfl rfl) <| dS (LW 1 rfl tk24 rfl rfl) ?_
 refine dS (CL (tcheck_c ts tsA tsC hlen hside) (ha_at 2 rfl rfl <| ha_nil) rfl) <| d_end <| SW0 rfl ts113 rfl <| rS (AG rfl) <| RK hK4 <| w_ret ?_
 refine hQ _ _ _ (l_nil (vs := [(Value.agg (SurveyV.cells (SurveyV.mk (TrackV.mk (Slc.mk tsA ts.length tsC)))).toArray), (Value.int .i64 (if trackOk ts = true then 0 else 10))]) ⟨⟨_, rfl, .inl ⟨_, _, tk113, at_blk (vs := (SurveyV.cells (SurveyV.mk (TrackV.mk (Slc.mk tsA ts.length tsC))))) 0 rfl rfl, rfl, rfl⟩⟩, rfl, trivial⟩ fun w hs => endV ?_ hs)
 show (Value.tuple [(Value.agg (SurveyV.cells (SurveyV.mk (TrackV.mk (Slc.mk tsA ts.length tsC)))).toArray), (Value.int .i64 (if trackOk ts = true then 0 else 10))].toArray) = (Value.tuple [(Value.agg (SurveyV.cells (SurveyV.mk (TrackV.mk (Slc.mk tsA ts.length tsC)))).toArray), (Value.int .i64 (if trackOk ts = true then 0 else 10))].toArray)
 clear hs w hQ hN hK4 hK1
 rfl
set_option maxRecDepth 100000 in
set_option maxHeartbeats 400000 in
theorem marks_c (f : Int) (tsA : Option Addr) (tsN : Nat) (tsC : Nat) :
    FnX Try.prog 104 [(Value.agg (SurveyV.cells (SurveyV.mk (TrackV.mk (Slc.mk tsA tsN tsC)))).toArray), (Value.int .i64 f)] [] (fun (x : Nat × Nat) => (Value.func (.func 116) [].toArray [(Value.pointer (some ⟨x.1, 0, none⟩)), (Value.pointer (some ⟨x.2, 0, none⟩))].toArray)) (fun (x : Nat × Nat) => True) (fun (x : Nat × Nat) => [(blk x.1 3 [(Value.int .i64 f)]), (blk x.2 113 (SurveyV.cells (SurveyV.mk (TrackV.mk (Slc.mk tsA tsN tsC)))))]) := by
 refine fnX_of go104 Try.func104 rfl rfl fun w0 Q hQ hN => ?_
 try dsimp only
 refine WS fun _ hK1 => BXA rfl fun b2 => BX1 rfl rfl fun b3 => rS (AG rfl) <| RK hK1 <| WS fun _ hK4 => rS (FU rfl) <| rS (AG rfl) <| RK hK4 <| w_ret ?_
 refine hQ _ _ _ (l_nil (vs := [(Value.func (.func 116) [].toArray [(Value.pointer (some ⟨b3, 0, none⟩)), (Value.pointer (some ⟨b2, 0, none⟩))].toArray)]) ⟨rfl, trivial⟩ fun w hs => endX (b3, b2) [0, 1] ?_ ?_ rfl rfl rfl hs)
 · rfl
 · trivial
set_option maxRecDepth 100000 in
set_option maxHeartbeats 400000 in
theorem marksit_c (ts : List StretchV) (tsA : Option Addr) (tsC : Nat) (f : Int) (g1 : Nat) (g2 : Nat) (hst : ∀ x ∈ ts, StretchOk x) (hlen : ts.length ≤ 12) (hf : 0 ≤ f ∧ f ≤ ts.length) :
    SeqV Try.prog 116 [] [(Value.pointer (some ⟨g1, 0, none⟩)), (Value.pointer (some ⟨g2, 0, none⟩))] [(rd tsA ts.length 9 (ts.map StretchV.cells)), (blk g1 3 [(Value.int .i64 f)]), (blk g2 113 (SurveyV.cells (SurveyV.mk (TrackV.mk (Slc.mk tsA ts.length tsC)))))] (markV ts f.toNat) := by
 refine seqV_of go116 Try.func116 rfl rfl fun l J Z A0 w0 Q hY hJ0 hF0 hQ hN => ?_
 try dsimp only
 refine WS fun _ hK1 => AL rfl tz28 fun b2 => AL rfl tz28 fun b3 => RK hK1 <| WS fun _ hK4 => rS (L1Q 4 rfl tk3 rfl) <| rS (AG rfl) <| RK hK4 <| w_block ?_
 have hinit : (0 ≤ ts.length - f.toNat) ∧ (J 0 A0) ∧ (Fo A0 w0 A0) := by exact ⟨Nat.zero_le _, hJ0, hF0⟩
 have hb5 : (Value.int .i64 (f + ((0 : Nat) : Int))) = (Value.int .i64 f) := by exact congrArg (Value.int .i64) (by omega)
 refine w_loop (ι := { z : Nat × Assn // (z.1 ≤ ts.length - f.toNat) ∧ (J z.1 z.2) ∧ (Fo A0 w0 z.2) }) (fun z => [(0, (Value.func (.yield l) #[] #[])), (1, (Value.pointer (some ⟨g1, 0, none⟩))), (2, (Value.pointer (some ⟨g2, 0, none⟩))), (4, (Value.pointer (some ⟨b2, 0, none⟩))), (5, (Value.pointer (some ⟨b3, 0, none⟩))), (6, (Value.int .i64 (f + ((z.1.1 : Nat) : Int))))]) (fun z => [(blk b3 28 (SpanV.cells (fallF ts f.toNat z.1.1))), (blk b2 28 (SpanV.cells (longF ts f.toNat z.1.1))), z.1.2, (rd tsA ts.length 9 (ts.map StretchV.cells)).ro, (blk g1 3 [(Value.int .i64 f)]).ro, (blk g2 113 (SurveyV.cells (SurveyV.mk (TrackV.mk (Slc.mk tsA ts.length tsC))))).ro]) (fun z => ts.length - f.toNat - z.1.1) ⟨(0, A0), hinit⟩ (Sub.cons rfl <| Sub.cons rfl <| Sub.cons rfl <| Sub.cons rfl <| Sub.cons rfl <| sub_val rfl hb5 <| Sub.nil _) (fun w hs => St.sel [0, 1, 2, 3, 4, 5] rfl rfl hs) ?_
 clear hinit
 rintro ⟨⟨k, A⟩, ⟨hl2_0, hl2_1, hl2_2⟩⟩ J6 hJ6
 try dsimp only at hl2_0 hl2_1 hl2_2
 try dsimp only
 refine w_seq fun _ hK7 => WS fun _ hK8 => rS (MV rfl) <| rS (LW 1 rfl tk28 rfl rfl) <| rS (LW 0 rfl tk28 rfl rfl) ?_
 refine r_yield 2 hY hl2_1 hl2_2 rfl rfl rfl (markV_get (by omega)) rfl rfl (fun B9 hJ10 hF11 => ?_) (fun B9 hJ10 hF11 => ?_)
 rotate_left 1
 · refine rS (MV rfl) ?_
   refine rS (OX rfl) <| rS (OX rfl) <| rS (OX rfl) <| rS (OX rfl) <| rS (OX rfl) <| rS (OX rfl) <| rS (PK rfl) <| RK hK8 <| w_if_false rfl <| w_exit ?_
   refine k_exit_then <| k_exit_then <| k_exit_same ?_
   refine hN _ _ _ (l_nil (vs := []) trivial fun w hs => endSz 2 rfl hJ10 hF11 hs)
 refine rS (MV rfl) <| rS (MV rfl) <| rS (FA 0 rfl fo113_0 rfl) <| rS (FA 0 rfl fo24_0 rfl) <| rS (L1R (Value.slice tsA ts.length tsC) 5 rfl tk22 rfl rfl) <| rS (LN rfl ut22) <| rS (BI rfl b_lss) <| rS (PK rfl) <| RK hK8 ?_
 refine w_if rfl (fun h12 => ?_) (fun h12 => ?_)
 rotate_left 1
 · replace h12 := DF h12
   refine w_exit <| k_exit_then <| k_exit_then <| k_exit_same ?_
   refine hN _ _ _ (l_nil (vs := []) trivial fun w hs => endS 2 rfl (by rw [markV_length]; have e : ts.length - f.toNat + 1 = k + 1 := (by omega); rw [e]; exact hJ10) hF11 hs)
 replace h12 := DT h12
 refine WK hK7 <| w_seq fun _ hK13 => w_block <| w_drawN mixed [0, 1, 2, 3, 4, 5, 6, 7, 10, 11, 12, 13, 14, 15, 16, 17] [8, 9, 18, 19, 20, 21] [true, false, false, false, false, false, false, false, true, false, false, false, false, false, false, false] [8, 9, 18] [B9, (rd tsA ts.length 9 (ts.map StretchV.cells)).ro, (blk g1 3 [(Value.int .i64 f)]).ro, (blk g2 113 (SurveyV.cells (SurveyV.mk (TrackV.mk (Slc.mk tsA ts.length tsC))))).ro] [(blk b3 28 (SpanV.cells (fallF ts f.toNat k))), (blk b2 28 (SpanV.cells (longF ts f.toNat k))), B9, (rd tsA ts.length 9 (ts.map StretchV.cells)).ro, (blk g1 3 [(Value.int .i64 f)]).ro, (blk g2 113 (SurveyV.cells (SurveyV.mk (TrackV.mk (Slc.mk tsA ts.length tsC))))).ro] (by kernel_rfl) (fun w hs => St.sel [2, 3, 4, 5] rfl rfl hs) (fun w hs => St.sel [0, 1, 2, 3, 4, 5] rfl rfl hs) <| fS rfl (LW 1 rfl tk28 rfl rfl) <| eS rfl (FA 0 rfl fo113_0 rfl) <| eS rfl (FA 0 rfl fo24_0 rfl) <| eS rfl (L1R (Value.slice tsA ts.length tsC) 3 rfl tk22 rfl rfl) <| eS rfl (MV rfl) ?_
 obtain ⟨x, hx⟩ : ∃ y_, ts[(f.toNat + k)]? = some y_ := ⟨ts[(f.toNat + k)]'(by omega), List.getElem?_eq_getElem _⟩
 have hxm : (ts.map StretchV.cells)[(f.toNat + k)]? = some (StretchV.cells x) := by rw [List.getElem?_map, hx]; rfl
 refine eS rfl (IA (f.toNat + k) rfl (has_at 1 rfl) te22 (by decide) (by omega) (by omega)) ?_
 have hxo := hst x (List.mem_of_getElem? hx)
 refine eS rfl (FAR (((f.toNat + k) * 9) + 1) rfl (has_at 1 rfl) (Nat.mul_pos (by omega) (by decide)) fo110_1 rfl) <| eS rfl (LEN (f.toNat + k) 1 (SpanV.cells x.Long) rfl tk28 (has_at 1 rfl) hxm rfl (by decide) rfl rfl) <| fS rfl (LW 0 rfl tk28 rfl rfl) <| eS rfl (FA 0 rfl fo113_0 rfl) <| eS rfl (FA 0 rfl fo24_0 rfl) <| eS rfl (L1R (Value.slice tsA ts.length tsC) 3 rfl tk22 rfl rfl) <| eS rfl (MV rfl) <| eS rfl (IA (f.toNat + k) rfl (has_at 1 rfl) te22 (by decide) (by omega) (by omega)) <| eS rfl (FAR (((f.toNat + k) * 9) + 3) rfl (has_at 1 rfl) (Nat.mul_pos (by omega) (by decide)) fo110_2 rfl) <| eS rfl (LEN (f.toNat + k) 3 (SpanV.cells x.Fall) rfl tk28 (has_at 1 rfl) hxm rfl (by decide) rfl rfl) ?_
 refine d_fin rfl ?_
 refine n_step [8, 18] (by kernel_rfl) (n_cons ?_ <| n_cons ?_ <| n_nil)
 rotate_left 1
 · refine n_op5 (rem' := [8, 9, 19, 20, 21]) rfl (by kernel_rfl) fun T14 hT14 => ?_
   refine r_bs (xs := [.tmp 39]) (cs := (SpanV.cells x.Fall)) rfl te146 tz28 rfl rfl rfl rfl (by simp [Value.cells, SpanV.cells_length]) rfl rfl fun b15 => ?_
   refine r_nil (hT14 _ _ (fun w hs => St.sel [3, 4, 5, 6] rfl rfl hs) (fun w hs => St.sel [1, 2, 3, 4, 5, 6] rfl rfl hs) ?_)
   refine N1 8 <| n_op5 (rem' := [9, 19, 20, 21]) rfl (by kernel_rfl) fun T16 hT16 => r_bs (xs := [.tmp 29]) (cs := (SpanV.cells x.Long)) rfl te146 tz28 rfl rfl rfl rfl (by simp [Value.cells, SpanV.cells_length]) rfl rfl fun b17 => ?_
   refine r_nil (hT16 _ _ (fun w hs => St.sel [4, 5, 6, 7] rfl rfl hs) (fun w hs => St.sel [2, 3, 4, 5, 6, 7] rfl rfl hs) ?_)
   refine N1 9 <| n_op5 (rem' := [19, 20, 21]) rfl (by kernel_rfl) fun T18 hT18 => rS (CL (FnV.eq (plus_c (longF ts f.toNat k) ([x.Long]) (some ⟨b17, 0, none⟩) 1 (by exact longF_in hst (by omega)) (by intro z hz; simp only [List.mem_singleton] at hz; subst hz; exact long_in12 hxo) (by simp)) plus_one) (ha_cons (has_rd_blk 0 rfl rfl (by simp [SpanV.cells_length]) rfl) <| ha_nil) rfl) ?_
   refine r_nil (hT18 _ _ (fun w hs => St.sel [4, 5, 6, 7] rfl rfl hs) (fun w hs => St.sel [2, 3, 4, 5, 6, 7] rfl rfl hs) ?_)
   refine N1 19 <| NO rfl rfl [20,21] fun T19 hT19 => rS (CL (FnV.eq (plus_c (fallF ts f.toNat k) ([x.Fall]) (some ⟨b15, 0, none⟩) 1 (by exact fallF_in hst (by omega)) (by intro z hz; simp only [List.mem_singleton] at hz; subst hz; exact fall_in12 hxo) (by simp)) plus_one) (ha_cons (has_rd_blk 1 rfl rfl (by simp [SpanV.cells_length]) rfl) <| ha_nil) rfl) <| RD hT19 4 rfl <| N1 20 <| NO rfl rfl [21] fun T20 hT20 => SW3 rfl ts28 rfl <| RD hT20 4 rfl <| N1 21 <| NO rfl rfl [] fun T21 hT21 => ?_
   refine SW2 rfl ts28 rfl <| RD hT21 4 rfl <| n_fin <| k_block <| KK hK13 ?_
   have hb22 : (SpanV.cells (addZ (longF ts f.toNat k) x.Long)) = (SpanV.cells (longF ts f.toNat (k + 1))) := by rw [longF_succ hx]
   rw [hb22]
   have hb23 : (SpanV.cells (addZ (fallF ts f.toNat k) x.Fall)) = (SpanV.cells (fallF ts f.toNat (k + 1))) := by rw [fallF_succ hx]
   rw [hb23]
   refine w_region <| rS (MV rfl) <| rS (BI rfl (b_add ⟨by omega, by omega⟩)) <| rS (AG rfl) <| r_nil ?_
   have hb24 : (Value.int .i64 (f + (((k + 1) : Nat) : Int))) = (Value.int .i64 ((f + ((k : Nat) : Int)) + 1)) := by exact congrArg (Value.int .i64) (by omega)
   refine k_then (hJ6 ⟨((k + 1), B9), ⟨by omega, hJ10, hF11⟩⟩ _ _ _ rfl (by first | omega | (simp; omega)) (Sub.cons rfl <| Sub.cons rfl <| Sub.cons rfl <| Sub.cons rfl <| Sub.cons rfl <| sub_val rfl hb24 <| Sub.nil _) (fun w hs => St.sel [2, 3, 4, 5, 6, 7] rfl rfl hs))
 refine n_op5 (rem' := [9, 18, 19, 20, 21]) rfl (by kernel_rfl) fun T14 hT14 => r_bs (xs := [.tmp 29]) (cs := (SpanV.cells x.Long)) rfl te146 tz28 rfl rfl rfl rfl (by simp [Value.cells, SpanV.cells_length]) rfl rfl fun b15 => ?_
 refine r_nil (hT14 _ _ (fun w hs => St.sel [3, 4, 5, 6] rfl rfl hs) (fun w hs => St.sel [1, 2, 3, 4, 5, 6] rfl rfl hs) ?_)
 refine n_step [9, 18] (by kernel_rfl) (n_cons ?_ <| n_cons ?_ <| n_nil)
 rotate_left 1
 · refine n_op5 (rem' := [9, 19, 20, 21]) rfl (by kernel_rfl) fun T16 hT16 => ?_
   refine r_bs (xs := [.tmp 39]) (cs := (SpanV.cells x.Fall)) rfl te146 tz28 rfl rfl rfl rfl (by simp [Value.cells, SpanV.cells_length]) rfl rfl fun b17 => ?_
   refine r_nil (hT16 _ _ (fun w hs => St.sel [4, 5, 6, 7] rfl rfl hs) (fun w hs => St.sel [2, 3, 4, 5, 6, 7] rfl rfl hs) ?_)
   refine N1 9 <| n_op5 (rem' := [19, 20, 21]) rfl (by kernel_rfl) fun T18 hT18 => rS (CL (FnV.eq (plus_c (longF ts f.toNat k) ([x.Long]) (some ⟨b15, 0, none⟩) 1 (by exact longF_in hst (by omega)) (by intro z hz; simp only [List.mem_singleton] at hz; subst hz; exact long_in12 hxo) (by simp)) plus_one) (ha_cons (has_rd_blk 1 rfl rfl (by simp [SpanV.cells_length]) rfl) <| ha_nil) rfl) ?_
   refine r_nil (hT18 _ _ (fun w hs => St.sel [4, 5, 6, 7] rfl rfl hs) (fun w hs => St.sel [2, 3, 4, 5, 6, 7] rfl rfl hs) ?_)
   refine N1 19 <| NO rfl rfl [20,21] fun T19 hT19 => rS (CL (FnV.eq (plus_c (fallF ts f.toNat k) ([x.Fall]) (some ⟨b17, 0, none⟩) 1 (by exact fallF_in hst (by omega)) (by intro z hz; simp only [List.mem_singleton] at hz; subst hz; exact fall_in12 hxo) (by simp)) plus_one) (ha_cons (has_rd_blk 0 rfl rfl (by simp [SpanV.cells_length]) rfl) <| ha_nil) rfl) <| RD hT19 4 rfl <| N1 20 <| NO rfl rfl [21] fun T20 hT20 => SW3 rfl ts28 rfl <| RD hT20 4 rfl <| N1 21 <| NO rfl rfl [] fun T21 hT21 => ?_
   refine SW2 rfl ts28 rfl <| RD hT21 4 rfl <| n_fin <| k_block <| KK hK13 ?_
   have hb22 : (SpanV.cells (addZ (longF ts f.toNat k) x.Long)) = (SpanV.cells (longF ts f.toNat (k + 1))) := by rw [longF_succ hx]
   rw [hb22]
   have hb23 : (SpanV.cells (addZ (fallF ts f.toNat k) x.Fall)) = (SpanV.cells (fallF ts f.toNat (k + 1))) := by rw [fallF_succ hx]
   rw [hb23]
   refine w_region <| rS (MV rfl) <| rS (BI rfl (b_add ⟨by omega, by omega⟩)) <| rS (AG rfl) <| r_nil ?_
   have hb24 : (Value.int .i64 (f + (((k + 1) : Nat) : Int))) = (Value.int .i64 ((f + ((k : Nat) : Int)) + 1)) := by exact congrArg (Value.int .i64) (by omega)
   refine k_then (hJ6 ⟨((k + 1), B9), ⟨by omega, hJ10, hF11⟩⟩ _ _ _ rfl (by first | omega | (simp; omega)) (Sub.cons rfl <| Sub.cons rfl <| Sub.cons rfl <| Sub.cons rfl <| Sub.cons rfl <| sub_val rfl hb24 <| Sub.nil _) (fun w hs => St.sel [2, 3, 4, 5, 6, 7] rfl rfl hs))
 refine n_op5 (rem' := [18, 19, 20, 21]) rfl (by kernel_rfl) fun T16 hT16 => rS (CL (FnV.eq (plus_c (longF ts f.toNat k) ([x.Long]) (some ⟨b15, 0, none⟩) 1 (by exact longF_in hst (by omega)) (by intro z hz; simp only [List.mem_singleton] at hz; subst hz; exact long_in12 hxo) (by simp)) plus_one) (ha_cons (has_rd_blk 0 rfl rfl (by simp [SpanV.cells_length]) rfl) <| ha_nil) rfl) ?_
 refine r_nil (hT16 _ _ (fun w hs => St.sel [3, 4, 5, 6] rfl rfl hs) (fun w hs => St.sel [1, 2, 3, 4, 5, 6] rfl rfl hs) ?_)
 refine N1 18 <| n_op5 (rem' := [19, 20, 21]) rfl (by kernel_rfl) fun T17 hT17 => r_bs (xs := [.tmp 39]) (cs := (SpanV.cells x.Fall)) rfl te146 tz28 rfl rfl rfl rfl (by simp [Value.cells, SpanV.cells_length]) rfl rfl fun b18 => ?_
 refine r_nil (hT17 _ _ (fun w hs => St.sel [4, 5, 6, 7] rfl rfl hs) (fun w hs => St.sel [2, 3, 4, 5, 6, 7] rfl rfl hs) ?_)
 refine N1 19 <| NO rfl rfl [20,21] fun T19 hT19 => rS (CL (FnV.eq (plus_c (fallF ts f.toNat k) ([x.Fall]) (some ⟨b18, 0, none⟩) 1 (by exact fallF_in hst (by omega)) (by intro z hz; simp only [List.mem_singleton] at hz; subst hz; exact fall_in12 hxo) (by simp)) plus_one) (ha_cons (has_rd_blk 0 rfl rfl (by simp [SpanV.cells_length]) rfl) <| ha_nil) rfl) <| RD hT19 4 rfl <| N1 20 <| NO rfl rfl [21] fun T20 hT20 => SW3 rfl ts28 rfl <| RD hT20 4 rfl <| N1 21 <| NO rfl rfl [] fun T21 hT21 => ?_
 refine SW2 rfl ts28 rfl <| RD hT21 4 rfl <| n_fin <| k_block <| KK hK13 ?_
 have hb22 : (SpanV.cells (addZ (longF ts f.toNat k) x.Long)) = (SpanV.cells (longF ts f.toNat (k + 1))) := by rw [longF_succ hx]
 rw [hb22]
 have hb23 : (SpanV.cells (addZ (fallF ts f.toNat k) x.Fall)) = (SpanV.cells (fallF ts f.toNat (k + 1))) := by rw [fallF_succ hx]
 rw [hb23]
 refine w_region <| rS (MV rfl) <| rS (BI rfl (b_add ⟨by omega, by omega⟩)) <| rS (AG rfl) <| r_nil ?_
 have hb24 : (Value.int .i64 (f + (((k + 1) : Nat) : Int))) = (Value.int .i64 ((f + ((k : Nat) : Int)) + 1)) := by exact congrArg (Value.int .i64) (by omega)
 refine k_then (hJ6 ⟨((k + 1), B9), ⟨by omega, hJ10, hF11⟩⟩ _ _ _ rfl (by first | omega | (simp; omega)) (Sub.cons rfl <| Sub.cons rfl <| Sub.cons rfl <| Sub.cons rfl <| Sub.cons rfl <| sub_val rfl hb24 <| Sub.nil _) (fun w hs => St.sel [2, 3, 4, 5, 6, 7] rfl rfl hs))
set_option maxRecDepth 100000 in
set_option maxHeartbeats 400000 in
theorem drop_c (ts : List StretchV) (tsA : Option Addr) (tsC : Nat) (f : Int) (t : Int) (hst : ∀ x ∈ ts, StretchOk x) (hlen : ts.length ≤ 12) (hf : 0 ≤ f ∧ f ≤ t ∧ t ≤ ts.length) :
    FnV Try.prog 78 [(Value.agg (SurveyV.cells (SurveyV.mk (TrackV.mk (Slc.mk tsA ts.length tsC)))).toArray), (Value.int .i64 f), (Value.int .i64 t)] [(rd tsA ts.length 9 (ts.map StretchV.cells))] (Value.tuple [(Value.agg (SpanV.cells (longF ts f.toNat (t - f).toNat)).toArray), (Value.agg (SpanV.cells (fallF ts f.toNat (t - f).toNat)).toArray)].toArray) := by
 refine fnV_of go78 Try.func78 rfl rfl fun w0 Q hQ hN => ?_
 try dsimp only
 refine WS fun _ hK1 => BXA rfl fun b2 => BX1 rfl rfl fun b3 => BX1 rfl rfl fun b4 => AL rfl tz28 fun b5 => AL rfl tz28 fun b6 => RK hK1 <| w_seq fun _ hK7 => WS fun _ hK8 => rS (LW 4 rfl tk113 rfl rfl) ?_
 refine rS (L1W 3 rfl tk3 rfl) <| cX (marks_c f tsA ts.length tsC) (ha_nil) rfl fun y9 hy10 => ?_
 obtain ⟨b111, b212⟩ := y9
 try dsimp only
 refine RK hK8 <| w_block <| w_dup 7 rfl (by exact fun _ h => h) ?_
 refine w_range (L0 := [(3, (Value.pointer (some ⟨b2, 0, none⟩))), (4, (Value.pointer (some ⟨b3, 0, none⟩))), (5, (Value.pointer (some ⟨b4, 0, none⟩))), (6, (Value.pointer (some ⟨b5, 0, none⟩))), (7, (Value.pointer (some ⟨b6, 0, none⟩)))]) (F := [(rd tsA ts.length 9 (ts.map StretchV.cells)).ro, (blk b111 3 [(Value.int .i64 f)]), (blk b212 113 (SurveyV.cells (SurveyV.mk (TrackV.mk (Slc.mk tsA ts.length tsC)))))]) (xs := (markV ts f.toNat)) (fun k (y : SpanV × SpanV × Int) => (k ≤ (t - f).toNat) ∧ (y.2.2 = f + ((k : Nat) : Int))) (fun k y => [(blk b6 28 (SpanV.cells y.2.1)), (blk b5 28 (SpanV.cells y.1)), (blk b4 3 [(Value.int .i64 t)]), (blk b3 3 [(Value.int .i64 y.2.2)]), (blk b2 113 (SurveyV.cells (SurveyV.mk (TrackV.mk (Slc.mk tsA ts.length tsC))))), (rd tsA ts.length 9 (ts.map StretchV.cells)).ro]) (fun c (z : Unit) => (c = .exit 0)) (fun _ z => [(blk b6 28 (SpanV.cells (fallF ts f.toNat (t - f).toNat))), (blk b5 28 (SpanV.cells (longF ts f.toNat (t - f).toNat))), (blk b4 3 [(Value.int .i64 t)]), (blk b3 3 [(Value.int .i64 t)]), (blk b2 113 (SurveyV.cells (SurveyV.mk (TrackV.mk (Slc.mk tsA ts.length tsC))))), (rd tsA ts.length 9 (ts.map StretchV.cells)).ro]) [3, 4, 5, 6, 7, 8] [0, 1, 2] (zeroZ, zeroZ, f) rfl rfl (marksit_c ts tsA tsC f b111 b212 (by first | assumption | omega | (simp; done)) (by first | assumption | omega | (simp; done)) (by omega)) rfl rfl rfl (by exact ⟨Nat.zero_le _, by simp⟩) (by simp only [List.forall_mem_cons, List.not_mem_nil, false_imp_iff, implies_true, and_true]; exact ⟨⟨_, by simp, (cov_ro (cov_refl _))⟩, ⟨_, by simp, (cov_refl _)⟩, ⟨_, by simp, (cov_refl _)⟩⟩) (by exact markV_lens) rfl (Sub.cons rfl <| Sub.cons rfl <| Sub.cons rfl <| Sub.cons rfl <| Sub.cons rfl <| Sub.nil _) ?_ ?_ ?_ ?_
 rotate_left 1
 · rintro r25 ⟨z1, z2, m⟩ hin26
   obtain ⟨hr0, hr1⟩ := hin26
   try dsimp only at hr0 hr1
   try dsimp only
   exfalso; rw [markV_length] at hr0; omega
 · rintro r27 id _ hx28
   have hc := hx28
   cases hc
   try dsimp only
   refine k_exit_same <| KK hK7 <| w_seq fun _ hK29 => w_draw4 mixed [0, 1] [2, 3] [false, false] [false, false] [(obj r27 (.deferred (some []))), (rd tsA ts.length 9 (ts.map StretchV.cells)).ro, (blk b111 3 [(Value.int .i64 f)]), (blk b212 113 (SurveyV.cells (SurveyV.mk (TrackV.mk (Slc.mk tsA ts.length tsC))))), (blk b6 28 (SpanV.cells (fallF ts f.toNat (t - f).toNat))), (blk b5 28 (SpanV.cells (longF ts f.toNat (t - f).toNat))), (blk b4 3 [(Value.int .i64 t)]), (blk b3 3 [(Value.int .i64 t)]), (blk b2 113 (SurveyV.cells (SurveyV.mk (TrackV.mk (Slc.mk tsA ts.length tsC))))), (rd tsA ts.length 9 (ts.map StretchV.cells)).ro] [] (by kernel_rfl) (fun w hs => St.sel [0, 1, 2, 3, 4, 5, 6, 7, 8, 9] rfl rfl hs) (fun w hs => St.sel [] rfl rfl hs) <| eS rfl (LW 5 rfl tk28 rfl rfl) <| eS rfl (LW 4 rfl tk28 rfl rfl) <| d_fin rfl <| t_cons rfl fun T30 hT30 => SW5 rfl ts28 rfl <| RN hT30 [0, 1, 2, 3, 4, 5, 6, 7, 8, 9] rfl rfl ?_
   refine t_cons rfl fun T31 hT31 => SW4 rfl ts28 rfl <| RN hT31 [0, 1, 2, 3, 4, 5, 6, 7, 8, 9] rfl rfl <| t_fin rfl <| KK hK29 <| w_ret ?_
   refine hQ _ _ _ (l_mark 0 rfl rfl <| l_nil (vs := [(Value.agg (SpanV.cells (longF ts f.toNat (t - f).toNat)).toArray), (Value.agg (SpanV.cells (fallF ts f.toNat (t - f).toNat)).toArray)]) ⟨⟨_, rfl, .inl ⟨_, _, tk28, at_blk (vs := (SpanV.cells (longF ts f.toNat (t - f).toNat))) 5 rfl rfl, rfl, rfl⟩⟩, ⟨_, rfl, .inl ⟨_, _, tk28, at_blk (vs := (SpanV.cells (fallF ts f.toNat (t - f).toNat))) 4 rfl rfl, rfl, rfl⟩⟩, trivial⟩ fun w hs => endV ?_ hs)
   show (Value.tuple [(Value.agg (SpanV.cells (longF ts f.toNat (t - f).toNat)).toArray), (Value.agg (SpanV.cells (fallF ts f.toNat (t - f).toNat)).toArray)].toArray) = (Value.tuple [(Value.agg (SpanV.cells (longF ts f.toNat (t - f).toNat)).toArray), (Value.agg (SpanV.cells (fallF ts f.toNat (t - f).toNat)).toArray)].toArray)
   clear hs w hQ hN hT31 T31 hT30 T30 hK29 hK8 hK7 hK1
   rfl
 · rintro r32 _ hx33
   cases hx33
 rintro k x ⟨z1, z2, m⟩ l ra rb S w1 K13 Qr14 hx hin15 hK13 hQr14 xQr14 yQr14
 obtain ⟨hk, rfl⟩ := markV_out hx
 obtain ⟨hr0, hr1⟩ := hin15
 try dsimp only at hr0 hr1
 try dsimp only
 refine WS fun _ hK16 => AL rfl tz28 fun b17 => SW0 rfl ts28 rfl <| RK hK16 <| w_region <| AL rfl tz28 fun b18 => SW0 rfl ts28 rfl <| r_nil <| k_sub (fun _ _ h => h) (fun w hs => St.sel [2, 0, 1, 3, 4, 5, 6, 7, 8] rfl rfl hs) ?_
 refine k_then (hK13 _ _ ?_)
 refine w_block <| w_seq fun _ hK19 => w_seq fun _ hK20 => w_draw4 mixed [0, 1] [2, 3] [false, false] [false, false] [(obj l (.loop rb)), (blk b18 28 (SpanV.cells (fallF ts f.toNat k))), (blk b17 28 (SpanV.cells (longF ts f.toNat k))), (blk b4 3 [(Value.int .i64 t)]), (blk b3 3 [(Value.int .i64 m)]), (blk b2 113 (SurveyV.cells (SurveyV.mk (TrackV.mk (Slc.mk tsA ts.length tsC))))), (rd tsA ts.length 9 (ts.map StretchV.cells)).ro] [] (by kernel_rfl) (fun w hs => St.sel [0, 1, 2, 5, 6, 7, 8] rfl rfl hs) (fun w hs => St.sel [] rfl rfl hs) <| eS rfl (LW 2 rfl tk28 rfl rfl) <| eS rfl (LW 1 rfl tk28 rfl rfl) <| d_fin rfl <| t_cons rfl fun T21 hT21 => SW4 rfl ts28 rfl <| RN hT21 [0, 1, 2, 5, 6, 7, 8] rfl rfl ?_
 refine t_cons rfl fun T22 hT22 => SW3 rfl ts28 rfl <| RN hT22 [0, 1, 2, 5, 6, 7, 8] rfl rfl <| t_fin rfl <| KK hK20 <| WS fun _ hK23 => rS (L1W 6 rfl tk3 rfl) <| rS (L1W 5 rfl tk3 rfl) <| rS (BI rfl b_eql) <| RK hK23 ?_
 refine w_if rfl (fun h24 => ?_) (fun h24 => ?_)
 · replace h24 := DT h24
   refine w_exit <| k_exit_then <| k_exit_other rfl ?_
   rw [show m = t from by omega]
   obtain rfl : k = (t - f).toNat := by omega
   exact xQr14 _ () _ _ (by exact rfl) (fun w hs => St.sel [0, 3, 4, 5, 6, 7, 8] rfl rfl hs)
 replace h24 := DF h24
 refine WK hK19 <| w_region <| rS (L1W 6 rfl tk3 rfl) <| rS (BI rfl (b_add ⟨by omega, by omega⟩)) <| SO6 rfl ts3 rfl rfl <| r_nil <| k_block ?_
 exact hQr14 ((longF ts f.toNat k), (fallF ts f.toNat k), (m + 1)) _ _ (by refine ⟨by omega, ?_⟩; dsimp only; omega) (fun w hs => St.sel [0, 3, 4, 5, 6, 7, 8] rfl rfl hs)
set_option maxRecDepth 100000 in
set_option maxHeartbeats 400000 in
theorem Drop_c (ts : List StretchV) (tsA : Option Addr) (tsC : Nat) (f : Int) (t : Int) (hlen : ts.length ≤ 1000000) (hside : ∀ x ∈ ts, 0 ≤ x.Side ∧ x.Side ≤ 255) :
    FnV Try.prog 36 [(Value.agg (TrackV.cells (TrackV.mk (Slc.mk tsA ts.length tsC))).toArray), (Value.int .i64 f), (Value.int .i64 t)] [(rd tsA ts.length 9 (ts.map StretchV.cells))] (Value.tuple [(Value.agg (SpanV.cells (dropL ts f t)).toArray), (Value.agg (SpanV.cells (dropH ts f t)).toArray), (Value.int .i64 (dropE ts f t))].toArray) := by
 refine fnV_of go36 Try.func36 rfl rfl fun w0 Q hQ hN => ?_
 try dsimp only
 refine WS fun _ hK1 => BXA rfl fun b2 => AL rfl tz28 fun b3 => AL rfl tz28 fun b4 => rS (AG rfl) <| RK hK1 <| WS fun _ hK5 => rS (LW 2 rfl tk24 rfl rfl) <| rS (CL (topen_c ts tsA tsC hlen hside) (ha_at 3 rfl rfl <| ha_nil) rfl) <| rS (MV rfl) ?_
 refine rS (EX rfl) <| rS (EX rfl) <| AL rfl tz113 fun b6 => SW0 rfl ts113 rfl <| rS (AG rfl) <| RK hK5 <| w_seq fun _ hK7 => WS fun _ hK8 => rS (MV rfl) <| rS (BI rfl b_neq) ?_
 refine RK hK8 ?_
 refine w_if rfl (fun he => ?_) (fun he => ?_)
 · replace he := XT he
   refine WS fun _ hK9 => rS (SX (sd_build (xs := []) (cs := (SpanV.cells (SpanV.mk 0 0))) rfl rfl (built_of tb28 rfl)) rfl rfl) <| rS (SX (sd_build (xs := []) (cs := (SpanV.cells (SpanV.mk 0 0))) rfl rfl (built_of tb28 rfl)) rfl rfl) <| rS (MV rfl) <| SW2 rfl ts28 rfl <| SW1 rfl ts28 rfl <| rS (AG rfl) <| RK hK9 <| w_ret ?_
   refine hQ _ _ _ (l_nil (vs := [(Value.agg (SpanV.cells (SpanV.mk 0 0)).toArray), (Value.agg (SpanV.cells (SpanV.mk 0 0)).toArray), (Value.int .i64 (if trackOk ts = true then 0 else 10))]) ⟨⟨_, rfl, .inl ⟨_, _, tk28, at_blk (vs := (SpanV.cells (SpanV.mk 0 0))) 2 rfl rfl, rfl, rfl⟩⟩, ⟨_, rfl, .inl ⟨_, _, tk28, at_blk (vs := (SpanV.cells (SpanV.mk 0 0))) 1 rfl rfl, rfl, rfl⟩⟩, rfl, trivial⟩ fun w hs => endV ?_ hs)
   show (Value.tuple [(Value.agg (SpanV.cells (SpanV.mk 0 0)).toArray), (Value.agg (SpanV.cells (SpanV.mk 0 0)).toArray), (Value.int .i64 (if trackOk ts = true then 0 else 10))].toArray) = (Value.tuple [(Value.agg (SpanV.cells (dropL ts f t)).toArray), (Value.agg (SpanV.cells (dropH ts f t)).toArray), (Value.int .i64 (dropE ts f t))].toArray)
   clear hs w hQ hN hK9 hK8 hK7 hK5 hK1
   first | (have e := dropE_bad (f := f) (t := t) (tr_no he).1; rw [e.1, e.2.1, e.2.2, (tr_no he).2]; rfl) | (have e := dropE_out (f := f) (t := t) htr (by omega); rw [e.1, e.2.1, e.2.2]; rfl) | (have e := dropE_in (f := f) (t := t) htr (by omega); rw [e.1, e.2.1, e.2.2])
 replace he := XF he
 refine WK hK7 <| w_seq fun _ hK10 => WS fun _ hK11 => ?_
 have htr := tr_yes he
 have hst := trackOk_all htr
 have hl12 := trackOk_le htr
 refine rS (FA 0 rfl fo24_0 rfl) <| rS (L1 (Value.slice tsA ts.length tsC) 3 rfl tk22 rfl rfl) <| rS (LN rfl ut22) <| rS (MV rfl) <| rS (MV rfl) <| r_bs (xs := [.tmp 23, .tmp 24]) (cs := [(Value.int .i64 f), (Value.int .i64 t)]) rfl te33 tz3 rfl rfl rfl rfl (by simp [Value.cells]) rfl rfl fun b12 => rS (CL (FnV.eq (in_track 0 ((ts.length : Nat) : Int) ([f, t]) (some ⟨b12, 0, none⟩) 2 (by first | assumption | omega | (simp; done) | (simp; omega))) inAll_two) (ha_cons (has_rd_blk 0 rfl rfl (by simp [iC_length]) rfl) <| ha_nil) rfl) <| rS (NT rfl) <| rS (MV rfl) ?_
 refine r_bool (t := 28) rfl (fun h28 => ?_) (fun h28 => ?_)
 · replace h28 := XT h28
   refine rS (OX rfl) <| rS (OX rfl) <| rS (OX rfl) <| rS (PK rfl) <| RK hK11 <| w_if_true rfl <| WS fun _ hK13 => rS (SX (sd_build (xs := []) (cs := (SpanV.cells (SpanV.mk 0 0))) rfl rfl (built_of tb28 rfl)) rfl rfl) <| rS (SX (sd_build (xs := []) (cs := (SpanV.cells (SpanV.mk 0 0))) rfl rfl (built_of tb28 rfl)) rfl rfl) <| SW3 rfl ts28 rfl ?_
   refine SW2 rfl ts28 rfl <| rS (AG rfl) <| RK hK13 <| w_ret ?_
   refine hQ _ _ _ (l_nil (vs := [(Value.agg (SpanV.cells (SpanV.mk 0 0)).toArray), (Value.agg (SpanV.cells (SpanV.mk 0 0)).toArray), (Value.int .i64 2)]) ⟨⟨_, rfl, .inl ⟨_, _, tk28, at_blk (vs := (SpanV.cells (SpanV.mk 0 0))) 3 rfl rfl, rfl, rfl⟩⟩, ⟨_, rfl, .inl ⟨_, _, tk28, at_blk (vs := (SpanV.cells (SpanV.mk 0 0))) 2 rfl rfl, rfl, rfl⟩⟩, rfl, trivial⟩ fun w hs => endV ?_ hs)
   show (Value.tuple [(Value.agg (SpanV.cells (SpanV.mk 0 0)).toArray), (Value.agg (SpanV.cells (SpanV.mk 0 0)).toArray), (Value.int .i64 2)].toArray) = (Value.tuple [(Value.agg (SpanV.cells (dropL ts f t)).toArray), (Value.agg (SpanV.cells (dropH ts f t)).toArray), (Value.int .i64 (dropE ts f t))].toArray)
   clear hs w hQ hN hK13 hK11 hK10 hK8 hK7 hK5 hK1
   first | (have e := dropE_bad (f := f) (t := t) (tr_no he).1; rw [e.1, e.2.1, e.2.2, (tr_no he).2]; rfl) | (have e := dropE_out (f := f) (t := t) htr (by omega); rw [e.1, e.2.1, e.2.2]; rfl) | (have e := dropE_in (f := f) (t := t) htr (by omega); rw [e.1, e.2.1, e.2.2])
 replace h28 := XF h28
 refine rS (MV rfl) <| rS (MV rfl) <| rS (BI rfl b_gtr) <| rS (PK rfl) <| RK hK11 ?_
 refine w_if rfl (fun h32 => ?_) (fun h32 => ?_)
 · replace h32 := DT h32
   refine WS fun _ hK14 => rS (SX (sd_build (xs := []) (cs := (SpanV.cells (SpanV.mk 0 0))) rfl rfl (built_of tb28 rfl)) rfl rfl) <| rS (SX (sd_build (xs := []) (cs := (SpanV.cells (SpanV.mk 0 0))) rfl rfl (built_of tb28 rfl)) rfl rfl) <| SW3 rfl ts28 rfl <| SW2 rfl ts28 rfl <| rS (AG rfl) <| RK hK14 <| w_ret ?_
   refine hQ _ _ _ (l_nil (vs := [(Value.agg (SpanV.cells (SpanV.mk 0 0)).toArray), (Value.agg (SpanV.cells (SpanV.mk 0 0)).toArray), (Value.int .i64 2)]) ⟨⟨_, rfl, .inl ⟨_, _, tk28, at_blk (vs := (SpanV.cells (SpanV.mk 0 0))) 3 rfl rfl, rfl, rfl⟩⟩, ⟨_, rfl, .inl ⟨_, _, tk28, at_blk (vs := (SpanV.cells (SpanV.mk 0 0))) 2 rfl rfl, rfl, rfl⟩⟩, rfl, trivial⟩ fun w hs => endV ?_ hs)
   show (Value.tuple [(Value.agg (SpanV.cells (SpanV.mk 0 0)).toArray), (Value.agg (SpanV.cells (SpanV.mk 0 0)).toArray), (Value.int .i64 2)].toArray) = (Value.tuple [(Value.agg (SpanV.cells (dropL ts f t)).toArray), (Value.agg (SpanV.cells (dropH ts f t)).toArray), (Value.int .i64 (dropE ts f t))].toArray)
   clear hs w hQ hN hK14 hK11 hK10 hK8 hK7 hK5 hK1
   first | (have e := dropE_bad (f := f) (t := t) (tr_no he).1; rw [e.1, e.2.1, e.2.2, (tr_no he).2]; rfl) | (have e := dropE_out (f := f) (t := t) htr (by omega); rw [e.1, e.2.1, e.2.2]; rfl) | (have e := dropE_in (f := f) (t := t) htr (by omega); rw [e.1, e.2.1, e.2.2])
 replace h32 := DF h32
 refine WK hK10 <| WS fun _ hK15 => rS (LW 1 rfl tk113 rfl rfl) <| rS (MV rfl) <| rS (MV rfl) <| rS (CL (drop_c ts tsA tsC f t (by first | assumption | omega | (simp; done) | (simp; omega)) (by first | assumption | omega | (simp; done) | (simp; omega)) (by first | assumption | omega | (simp; done) | (simp; omega))) (ha_at 5 rfl rfl <| ha_nil) rfl) <| rS (MV rfl) <| rS (EX rfl) <| rS (EX rfl) <| SW3 rfl ts28 rfl ?_
 refine SW2 rfl ts28 rfl <| RK hK15 <| w_seq fun _ hK16 => w_draw4 mixed [0, 1, 4] [2, 3] [false, false, false] [false, false] [(blk b12 3 [(Value.int .i64 f), (Value.int .i64 t)]), (blk b6 113 (SurveyV.cells (SurveyV.mk (TrackV.mk (Slc.mk tsA ts.length tsC))))), (blk b4 28 (SpanV.cells (fallF ts f.toNat (t - f).toNat))), (blk b3 28 (SpanV.cells (longF ts f.toNat (t - f).toNat))), (blk b2 24 (TrackV.cells (TrackV.mk (Slc.mk tsA ts.length tsC)))), (rd tsA ts.length 9 (ts.map StretchV.cells)).ro] [] (by kernel_rfl) (fun w hs => St.sel [0, 1, 2, 3, 4, 5] rfl rfl hs) (fun w hs => St.sel [] rfl rfl hs) <| eS rfl (LW 3 rfl tk28 rfl rfl) <| eS rfl (LW 2 rfl tk28 rfl rfl) <| eS rfl (AG rfl) <| d_fin rfl <| t_cons rfl fun T17 hT17 => SW3 rfl ts28 rfl ?_
 refine RN hT17 [0, 1, 2, 3, 4, 5] rfl rfl <| t_cons rfl fun T18 hT18 => SW2 rfl ts28 rfl <| RN hT18 [0, 1, 2, 3, 4, 5] rfl rfl <| t_fin rfl <| KK hK16 <| w_ret ?_
 refine hQ _ _ _ (l_nil (vs := [(Value.agg (SpanV.cells (longF ts f.toNat (t - f).toNat)).toArray), (Value.agg (SpanV.cells (fallF ts f.toNat (t - f).toNat)).toArray), (Value.int .i64 0)]) ⟨⟨_, rfl, .inl ⟨_, _, tk28, at_blk (vs := (SpanV.cells (longF ts f.toNat (t - f).toNat))) 3 rfl rfl, rfl, rfl⟩⟩, ⟨_, rfl, .inl ⟨_, _, tk28, at_blk (vs := (SpanV.cells (fallF ts f.toNat (t - f).toNat))) 2 rfl rfl, rfl, rfl⟩⟩, rfl, trivial⟩ fun w hs => endV ?_ hs)
 show (Value.tuple [(Value.agg (SpanV.cells (longF ts f.toNat (t - f).toNat)).toArray), (Value.agg (SpanV.cells (fallF ts f.toNat (t - f).toNat)).toArray), (Value.int .i64 0)].toArray) = (Value.tuple [(Value.agg (SpanV.cells (dropL ts f t)).toArray), (Value.agg (SpanV.cells (dropH ts f t)).toArray), (Value.int .i64 (dropE ts f t))].toArray)
 clear hs w hQ hN hT18 T18 hT17 T17 hK16 hK15 hK11 hK10 hK8 hK7 hK5 hK1
 first | (have e := dropE_bad (f := f) (t := t) (tr_no he).1; rw [e.1, e.2.1, e.2.2, (tr_no he).2]; rfl) | (have e := dropE_out (f := f) (t := t) htr (by omega); rw [e.1, e.2.1, e.2.2]; rfl) | (have e := dropE_in (f := f) (t := t) htr (by omega); rw [e.1, e.2.1, e.2.2])
end
section
open Go.RowKit
set_option linter.unusedVariables false
set_option maxRecDepth 100000 in
set_option maxHeartbeats 400000 in
theorem stands1_c (i : Int) (s : SpotV) (ts : List StretchV) (tsA : Option Addr) (tsC : Nat) (g1 : Nat) (hst : ∀ x ∈ ts, StretchOk x) (hlen : ts.length ≤ 12) :
    FnV Try.prog 103 [(Value.int .i64 i), (Value.agg (SpotV.cells s).toArray), (Value.pointer (some ⟨g1, 0, none⟩))] [(rd tsA ts.length 9 (ts.map StretchV.cells)), (blk g1 113 (SurveyV.cells (SurveyV.mk (TrackV.mk (Slc.mk tsA ts.length tsC)))))] (Value.bool (!(decide (SpotOk ts s)))) := by
 refine fnV_of go103 Try.func103 rfl rfl fun w0 Q hQ hN => ?_
 try dsimp only
 refine WS fun _ hK1 => BXA rfl fun b2 => rS (AG rfl) <| RK hK1 <| w_seq fun _ hK3 => w_drawN mixed [0, 1, 2, 3, 4, 5, 6] [7, 8, 9, 10, 11, 12, 13, 14, 15, 16, 17, 18, 19, 20, 21, 22, 23, 24, 25, 26] [false, false, false, false, false, false, false] [] [(blk b2 30 (SpotV.cells s)), (rd tsA ts.length 9 (ts.map StretchV.cells)).ro, (blk g1 113 (SurveyV.cells (SurveyV.mk (TrackV.mk (Slc.mk tsA ts.length tsC))))).ro] [] (by kernel_rfl) (fun w hs => St.sel [0, 1, 2] rfl rfl hs) (fun w hs => St.sel [] rfl rfl hs) <| eS rfl (FA 0 rfl fo113_0 rfl) <| eS rfl (FA 0 rfl fo24_0 rfl) <| eS rfl (L1R (Value.slice tsA ts.length tsC) 2 rfl tk22 rfl rfl) <| eS rfl (LN rfl ut22) ?_
 refine eS rfl (BI rfl (b_sub ⟨by omega, by omega⟩)) <| eS rfl (FA 0 rfl fo30_0 rfl) <| eS rfl (L1 (Value.int .i64 s.Stretch) 0 rfl tk3 rfl rfl) <| d_fin rfl <| N1 7 <| NO rfl rfl [8,9,10,11,12,13,14,15,16,17,18,19,20,21,22,23,24,25,26] fun T4 hT4 => r_bs (xs := [.tmp 12]) (cs := [(Value.int .i64 s.Stretch)]) rfl te33 tz3 rfl rfl rfl rfl (by simp [Value.cells]) rfl rfl fun b5 => RD hT4 1 rfl <| n_pure [14, 15, 16, 17, 18, 19, 20, 21, 22, 23, 24, 25, 26, 27, 28, 29, 30, 31, 5] (by kernel_rfl) (by kernel_rfl) rfl _ rfl rfl (fun w hs => St.sel [1, 2, 3] rfl rfl hs) <| dS (CL (FnV.eq (in_track 0 (((ts.length : Nat) : Int) - 1) ([s.Stretch]) (some ⟨b5, 0, none⟩) 1 (by first | assumption | omega | (simp; done) | (simp; omega))) inAll_one) (ha_cons (has_rd_blk 0 rfl rfl (by simp [iC_length]) rfl) <| ha_nil) rfl) ?_
 refine dS (NT rfl) <| dS (MV rfl) ?_
 refine d_bool (t := 16) rfl (fun h16 => ?_) (fun h16 => ?_)
 · replace h16 := XT h16
   refine dS (OX rfl) <| dS (OX rfl) <| dS (OX rfl) <| dS (OX rfl) <| dS (OX rfl) <| dS (OX rfl) <| dS (OX rfl) <| dS (OX rfl) <| dS (OX rfl) <| dS (OX rfl) ?_
   refine dS (OX rfl) <| dS (OX rfl) <| dS (OX rfl) <| dS (OX rfl) <| dS (PK rfl) <| dS (AG rfl) <| d_end <| RK hK3 <| w_ret <| Q1 hQ rfl rfl rfl ?_
   first | (refine congrArg Value.bool ?_; rw [decide_eq_false (spot_out (by omega))]; rfl) | exact congrArg (fun b => Value.bool (!b)) (decide_eq_decide.2 (spot_yes (by omega) hx).symm)
 replace h16 := XF h16
 refine dS (FA 1 rfl fo30_1 rfl) <| dS (LP (SpanV.cells s.Off) 1 rfl tk28 rfl rfl rfl) <| dS (FA 0 rfl fo113_0 rfl) <| dS (FA 0 rfl fo24_0 rfl) <| dS (L1R (Value.slice tsA ts.length tsC) 3 rfl tk22 rfl rfl) <| dS (FA 0 rfl fo30_0 rfl) <| dS (L1 (Value.int .i64 s.Stretch) 1 rfl tk3 rfl rfl) ?_
 obtain ⟨x, hx⟩ : ∃ y_, ts[(s.Stretch).toNat]? = some y_ := ⟨ts[(s.Stretch).toNat]'(by omega), List.getElem?_eq_getElem _⟩
 have hxm : (ts.map StretchV.cells)[(s.Stretch).toNat]? = some (StretchV.cells x) := by rw [List.getElem?_map, hx]; rfl
 refine dS (IA ((s.Stretch).toNat) rfl (has_at 2 rfl) te22 (by decide) (by omega) (by omega)) <| dS (FAR ((((s.Stretch).toNat) * 9) + 1) rfl (has_at 2 rfl) (Nat.mul_pos (by omega) (by decide)) fo110_1 rfl) ?_
 have hxo := (hst x (List.mem_of_getElem? hx)).2.1
 simp only [SpanOk] at hxo
 refine dS (FAR ((((s.Stretch).toNat) * 9) + 1) rfl (has_at 2 rfl) (Nat.mul_pos (by omega) (by decide)) fo28_0 rfl) <| dS (LE1 ((s.Stretch).toNat) 1 (Value.int .i64 x.Long.Lo) rfl tk3 (has_at 2 rfl) hxm rfl (by decide) rfl) <| dS (BI rfl (b_sub ⟨by omega, by omega⟩)) <| dS (CL (known_c s.Off 0 (x.Long.Lo - 1)) (ha_nil) rfl) <| dS (NT rfl) <| dS (PK rfl) <| dS (AG rfl) <| d_end <| RK hK3 <| w_ret ?_
 refine Q1 hQ rfl rfl rfl ?_
 first | (refine congrArg Value.bool ?_; rw [decide_eq_false (spot_out (by omega))]; rfl) | exact congrArg (fun b => Value.bool (!b)) (decide_eq_decide.2 (spot_yes (by omega) hx).symm)
set_option maxRecDepth 100000 in
set_option maxHeartbeats 400000 in
theorem pickspot_c (l : List SpotV) (lA : Option Addr) (lC : Nat) (f : Value) (p : Int → SpotV → Bool) (X : Assn) (hf : ∀ x0 x1, (∃ k : Nat, x0 = (k : Int) ∧ l[k]? = some x1) → Clo Try.prog f [.int .i64 x0, .agg (SpotV.cells x1).toArray] [X] (.bool (p x0 x1))) (hlen : l.length ≤ 1000000) :
    FnX Try.prog 102 [(Value.slice lA l.length lC), f] [(rd lA l.length 3 (l.map SpotV.cells)), X] (fun (x : (Option Addr) × Nat) => (Value.slice x.1 ((pckF (fun jj yy => p (jj : Int) yy) l).length) x.2)) (fun (x : (Option Addr) × Nat) => True) (fun (x : (Option Addr) × Nat) => [(own x.1 x.2 3 1 ((pckF (fun jj yy => p (jj : Int) yy) l).map iC))]) := by
 refine fnX_of go102 Try.func102 rfl rfl fun w0 Q hQ hN => ?_
 try dsimp only
 refine WS fun _ hK1 => rS (AG rfl) <| RK hK1 <| WS fun _ hK2 => rS (AG rfl) <| RK hK2 <| w_seq fun _ hK3 => WS fun _ hK4 => rS (MV rfl) <| rS (LN rfl ut130) ?_
 refine rS (MV rfl) <| RK hK4 <| w_block <| w_own_nil 3 1 ?_
 have hinit : (0 ≤ l.length) := by exact Nat.zero_le _
 refine w_loop (ι := { z : Nat × (Option Addr) × Nat // (z.1 ≤ l.length) }) (fun z => [(0, (Value.slice lA l.length lC)), (1, f), (5, (Value.slice z.1.2.1 ((pckL (fun jj yy => p (jj : Int) yy) l z.1.1).length) z.1.2.2)), (8, (Value.slice lA l.length lC)), (9, (Value.int .i64 ((l.length : Nat) : Int))), (10, (Value.int .i64 ((z.1.1 : Nat) : Int)))]) (fun z => [(own z.1.2.1 z.1.2.2 3 1 ((pckL (fun jj yy => p (jj : Int) yy) l z.1.1).map iC)), (rd lA l.length 3 (l.map SpotV.cells)).ro, X.ro]) (fun z => l.length - z.1.1) ⟨(0, none, 0), hinit⟩ (Sub.cons rfl <| Sub.cons rfl <| Sub.cons rfl <| Sub.cons rfl <| Sub.cons rfl <| Sub.cons rfl <| Sub.nil _) (fun w hs => St.sel [0, 1, 2] rfl rfl hs) ?_
 clear hinit
 rintro ⟨⟨i, a, c⟩, hl0_0⟩ J5 hJ5
 try dsimp only at hl0_0
 try dsimp only
 refine WS fun _ hK6 => rS (BI rfl b_lss) <| RK hK6 <| w_seq fun _ hK7 => ?_
 refine w_if rfl (fun h8 => ?_) (fun h8 => ?_)
 rotate_left 1
 · replace h8 := DF h8
   refine w_exit <| k_exit_then <| k_exit_then <| k_exit_same <| KK hK3 <| WS fun _ hK18 => ?_
   rw [pckF_at (p := fun (i : Nat) x => p (i : Int) x) (show i = l.length by omega)]
   refine rS (MV rfl) <| rS (AG rfl) <| RK hK18 <| w_ret ?_
   refine hQ _ _ _ (l_nil (vs := [(Value.slice a ((pckF (fun jj yy => p (jj : Int) yy) l).length) c)]) ⟨rfl, trivial⟩ fun w hs => endX (a, c) [0] ?_ ?_ rfl rfl rfl hs)
   · rfl
   · trivial
 replace h8 := DT h8
 refine WK hK7 <| w_seq fun _ hK9 => w_block <| WS fun _ hK10 => rS (MV rfl) ?_
 obtain ⟨x, hx⟩ : ∃ y_, l[i]? = some y_ := ⟨l[i]'(by omega), List.getElem?_eq_getElem _⟩
 have hxm : (l.map SpotV.cells)[i]? = some (SpotV.cells x) := by rw [List.getElem?_map, hx]; rfl
 refine rS (IA i rfl (has_at 1 rfl) te130 (by decide) (by omega) (by omega)) <| rS (LEN i 0 (SpotV.cells x) rfl tk30 (has_at 1 rfl) hxm rfl (by decide) rfl rfl) <| AL rfl tz30 fun b11 => rS (AG rfl) <| SW0 rfl ts30 rfl <| RK hK10 <| WS fun _ hK12 => rS (MV rfl) <| rS (MV rfl) <| rS (LW 0 rfl tk30 rfl rfl) ?_
 refine rS (SX (sd_clo rfl rfl rfl (hf ((i : Nat) : Int) x ⟨i, rfl, hx⟩) (ha_at 3 rfl rfl <| ha_nil)) rfl rfl) <| RK hK12 ?_
 refine w_if rfl (fun hp => ?_) (fun hp => ?_)
 rotate_left 1
 · refine w_skip ?_
   refine k_block <| KK hK9 <| w_region ?_
   rw [← pckL_no (p := fun (i : Nat) x => p (i : Int) x) hx hp]
   refine rS (BI rfl (b_add ⟨by omega, by omega⟩)) <| rS (MV rfl) <| r_nil ?_
   have hb17 : (Value.int .i64 (((i + 1) : Nat) : Int)) = (Value.int .i64 (((i : Nat) : Int) + 1)) := by exact congrArg (Value.int .i64) (by omega)
   refine k_then (hJ5 ⟨((i + 1), a, c), (by first | omega | (simp only []; omega))⟩ _ _ _ rfl (by first | omega | (simp; omega)) (Sub.cons rfl <| Sub.cons rfl <| Sub.cons rfl <| Sub.cons rfl <| Sub.cons rfl <| sub_val rfl hb17 <| Sub.nil _) (fun w hs => St.sel [1, 2, 3] rfl rfl hs))
 refine w_region <| rS (MV rfl) <| rS (MV rfl) <| r_bs (xs := [.tmp 20]) (cs := [(Value.int .i64 ((i : Nat) : Int))]) rfl te33 tz3 rfl rfl rfl rfl (by simp [Value.cells]) rfl rfl fun b13 => r_append (es2 := (List.map iC (pckL (fun jj yy => p (jj : Int) yy) l (i + 1)))) (m' := (pckL (fun jj yy => p (jj : Int) yy) l (i + 1)).length) 2 rfl rfl rfl ta33 rfl rfl (by simp) (has_rd_blk (es := List.map iC [((i : Nat) : Int)]) 0 rfl rfl (by simp [iC_length]) rfl) (one_iC _) (by have := pckL_len (p := fun (i : Nat) x => p (i : Int) x) (l := l) (n := i); simp; omega) (by have := pckL_len (p := fun (i : Nat) x => p (i : Int) x) (l := l) (n := i); simp only [maxLen]; omega) (by rw [pckL_yes hx hp]; simp) (by simp) rfl fun a14 c15 => ?_
 try dsimp only
 refine rS (AG rfl) <| r_nil <| k_block <| KK hK9 <| w_region <| rS (BI rfl (b_add ⟨by omega, by omega⟩)) <| rS (MV rfl) <| r_nil ?_
 have hb16 : (Value.int .i64 (((i + 1) : Nat) : Int)) = (Value.int .i64 (((i : Nat) : Int) + 1)) := by exact congrArg (Value.int .i64) (by omega)
 refine k_then (hJ5 ⟨((i + 1), a14, c15), (by first | omega | (simp only []; omega))⟩ _ _ _ rfl (by first | omega | (simp; omega)) (Sub.cons rfl <| Sub.cons rfl <| Sub.cons rfl <| Sub.cons rfl <| Sub.cons rfl <| sub_val rfl hb16 <| Sub.nil _) (fun w hs => St.sel [2, 3, 4] rfl rfl hs))
set_option maxRecDepth 100000 in
set_option maxHeartbeats 400000 in
theorem stands_c (ts : List StretchV) (tsA : Option Addr) (tsC : Nat) (l : List SpotV) (lA : Option Addr) (lC : Nat) (hst : ∀ x ∈ ts, StretchOk x) (hlen : ts.length ≤ 12) (hl : l.length ≤ 4) :
    FnV Try.prog 77 [(Value.agg (SurveyV.cells (SurveyV.mk (TrackV.mk (Slc.mk tsA ts.length tsC)))).toArray), (Value.slice lA l.length lC)] [(rd tsA ts.length 9 (ts.map StretchV.cells)), (rd lA l.length 3 (l.map SpotV.cells))] (Value.bool (decide (∀ s ∈ l, SpotOk ts s))) := by
 refine fnV_of go77 Try.func77 rfl rfl fun w0 Q hQ hN => ?_
 try dsimp only
 refine WS fun _ hK1 => BXA rfl fun b2 => rS (AG rfl) <| RK hK1 <| WS fun _ hK3 => rS (MV rfl) <| rS (FU rfl) <| cX (pickspot_c l lA lC (Value.func (.func 103) [].toArray [(Value.pointer (some ⟨b2, 0, none⟩))].toArray) (fun u4 u5 => (!(decide (SpotOk ts u5)))) (bun [(rd tsA ts.length 9 (ts.map StretchV.cells)), (blk b2 113 (SurveyV.cells (SurveyV.mk (TrackV.mk (Slc.mk tsA ts.length tsC)))))]) (by intro u4 u5 _; exact clo_of (fi := []) (ca := [(Value.pointer (some ⟨b2, 0, none⟩))]) (fnV_bun (stands1_c u4 u5 ts tsA tsC b2 (by first | assumption | omega) (by first | assumption | omega)) (ha_at 0 rfl rfl <| ha_at 1 rfl rfl <| ha_nil))) (by first | assumption | omega | (simp; done) | (simp; omega))) (ha_at 2 rfl rfl <| ha_cons (has_bun (ha_at 1 rfl rfl <| ha_at 0 rfl rfl <| ha_nil)) <| ha_nil) rfl fun y6 hy7 => ?_
 obtain ⟨a8, c9⟩ := y6
 try dsimp only
 refine rS (LN rfl ut33) <| rS (BI rfl b_eql) <| rS (AG rfl) <| RK hK3 <| w_ret <| Q1 hQ rfl rfl rfl ?_
 exact congrArg Value.bool (decide_eq_decide.2 (by rw [show ∀ n : Nat, ((n : Int) = 0) ↔ n = 0 from fun n => by omega, pckF_none]; simp only [Bool.not_eq_false', decide_eq_true_eq]; exact ⟨fun h s hs => by obtain ⟨k, hk⟩ := List.getElem?_of_mem hs; exact h k s hk, fun h k s hk => h s (List.mem_of_getElem? hk)⟩))
set_option maxRecDepth 100000 in
set_option maxHeartbeats 400000 in
theorem less_c (z : SpanV) (hz : In12 z) :
    FnV Try.prog 79 [(Value.agg (SpanV.cells z).toArray)] [] (Value.agg (SpanV.cells (lessZ z)).toArray) := by
 unfold In12 at hz
 refine fnV_of go79 Try.func79 rfl rfl fun w0 Q hQ hN => ?_
 try dsimp only
 refine WS fun _ hK1 => BXA rfl fun b2 => AL rfl tz28 fun b3 => RK hK1 <| WS fun _ hK4 => rS (FA 1 rfl fo28_1 rfl) <| rS (L1 (Value.int .i64 z.Hi) 1 rfl tk3 rfl rfl) <| rS (NG rfl ⟨by omega, by omega⟩) <| rS (FA 0 rfl fo28_0 rfl) <| rS (L1 (Value.int .i64 z.Lo) 1 rfl tk3 rfl rfl) ?_
 refine rS (NG rfl ⟨by omega, by omega⟩) <| rS (SX (sd_build (xs := [(0, .tmp 5), (1, .tmp 8)]) (cs := (SpanV.cells (SpanV.mk (-z.Hi) (-z.Lo)))) rfl rfl (built_of tb28 rfl)) rfl rfl) <| SW0 rfl ts28 rfl <| RK hK4 <| w_ret ?_
 refine hQ _ _ _ (l_nil (vs := [(Value.agg (SpanV.cells (SpanV.mk (-z.Hi) (-z.Lo))).toArray)]) ⟨⟨_, rfl, .inl ⟨_, _, tk28, at_blk (vs := (SpanV.cells (SpanV.mk (-z.Hi) (-z.Lo)))) 0 rfl rfl, rfl, rfl⟩⟩, trivial⟩ fun w hs => endV ?_ hs)
 show (Value.agg (SpanV.cells (SpanV.mk (-z.Hi) (-z.Lo))).toArray) = (Value.agg (SpanV.cells (lessZ z)).toArray)
 clear hs w hQ hN hK4 hK1
 rfl
set_option maxRecDepth 100000 in
set_option maxHeartbeats 400000 in
theorem At_c (ts : List StretchV) (tsA : Option Addr) (tsC : Nat) (s : SpotV) (hlen : ts.length ≤ 1000000) (hside : ∀ x ∈ ts, 0 ≤ x.Side ∧ x.Side ≤ 255) :
    FnV Try.prog 66 [(Value.agg (TrackV.cells (TrackV.mk (Slc.mk tsA ts.length tsC))).toArray), (Value.agg (SpotV.cells s).toArray)] [(rd tsA ts.length 9 (ts.map StretchV.cells))] (Value.tuple [(Value.agg (SpanV.cells (atV ts s)).toArray), (Value.int .i64 (atE ts s))].toArray) := by
 refine fnV_of go66 Try.func66 rfl rfl fun w0 Q hQ hN => ?_
 try dsimp only
 refine WS fun _ hK1 => BXA rfl fun b2 => BXA rfl fun b3 => AL rfl tz28 fun b4 => rS (AG rfl) <| RK hK1 <| WS fun _ hK5 => rS (LW 2 rfl tk24 rfl rfl) <| rS (CL (topen_c ts tsA tsC hlen hside) (ha_at 3 rfl rfl <| ha_nil) rfl) <| rS (MV rfl) ?_
 refine rS (EX rfl) <| rS (EX rfl) <| AL rfl tz113 fun b6 => SW0 rfl ts113 rfl <| rS (AG rfl) <| RK hK5 <| w_seq fun _ hK7 => WS fun _ hK8 => rS (MV rfl) <| rS (BI rfl b_neq) ?_
 refine RK hK8 ?_
 refine w_if rfl (fun he => ?_) (fun he => ?_)
 · replace he := XT he
   refine WS fun _ hK9 => rS (SX (sd_build (xs := []) (cs := (SpanV.cells (SpanV.mk 0 0))) rfl rfl (built_of tb28 rfl)) rfl rfl) <| rS (MV rfl) <| SW1 rfl ts28 rfl <| rS (AG rfl) <| RK hK9 <| w_ret ?_
   refine hQ _ _ _ (l_nil (vs := [(Value.agg (SpanV.cells (SpanV.mk 0 0)).toArray), (Value.int .i64 (if trackOk ts = true then 0 else 10))]) ⟨⟨_, rfl, .inl ⟨_, _, tk28, at_blk (vs := (SpanV.cells (SpanV.mk 0 0))) 1 rfl rfl, rfl, rfl⟩⟩, rfl, trivial⟩ fun w hs => endV ?_ hs)
   show (Value.tuple [(Value.agg (SpanV.cells (SpanV.mk 0 0)).toArray), (Value.int .i64 (if trackOk ts = true then 0 else 10))].toArray) = (Value.tuple [(Value.agg (SpanV.cells (atV ts s)).toArray), (Value.int .i64 (atE ts s))].toArray)
   clear hs w hQ hN hK9 hK8 hK7 hK5 hK1
   first | (have e := at_bad (s := s) (tr_no he).1; rw [e.1, e.2, (tr_no he).2] <;> rfl) | (have e := at_out htr h23; rw [e.1, e.2] <;> rfl) | (have e := at_in htr h23; rw [e.1, e.2]; unfold atF; rw [show (s.Stretch - 0).toNat = s.Stretch.toNat by rw [Int.sub_zero]] <;> rfl)
 replace he := XF he
 refine WK hK7 <| w_seq fun _ hK10 => WS fun _ hK11 => ?_
 have htr := tr_yes he
 have hst := trackOk_all htr
 have hl12 := trackOk_le htr
 refine rS (LW 0 rfl tk113 rfl rfl) <| rS (LW 2 rfl tk30 rfl rfl) <| r_bs (xs := [.tmp 20]) (cs := (SpotV.cells s)) rfl te130 tz30 rfl rfl rfl rfl (by simp [Value.cells, SpotV.cells_length]) rfl rfl fun b12 => rS (CL (FnV.eq (stands_c ts tsA tsC ([s]) (some ⟨b12, 0, none⟩) 1 (by first | assumption | omega | (simp; done) | (simp; omega)) (by first | assumption | omega | (simp; done) | (simp; omega)) (by first | assumption | omega | (simp; done) | (simp; omega))) stands_one) (ha_at 5 rfl rfl <| ha_cons (has_rd_blk 0 rfl rfl (by simp [SpotV.cells_length]) rfl) <| ha_nil) rfl) <| rS (NT rfl) <| RK hK11 ?_
 refine w_if rfl (fun h23 => ?_) (fun h23 => ?_)
 · replace h23 := XT h23
   refine WS fun _ hK13 => rS (SX (sd_build (xs := []) (cs := (SpanV.cells (SpanV.mk 0 0))) rfl rfl (built_of tb28 rfl)) rfl rfl) <| SW2 rfl ts28 rfl <| rS (AG rfl) <| RK hK13 <| w_ret ?_
   refine hQ _ _ _ (l_nil (vs := [(Value.agg (SpanV.cells (SpanV.mk 0 0)).toArray), (Value.int .i64 12)]) ⟨⟨_, rfl, .inl ⟨_, _, tk28, at_blk (vs := (SpanV.cells (SpanV.mk 0 0))) 2 rfl rfl, rfl, rfl⟩⟩, rfl, trivial⟩ fun w hs => endV ?_ hs)
   show (Value.tuple [(Value.agg (SpanV.cells (SpanV.mk 0 0)).toArray), (Value.int .i64 12)].toArray) = (Value.tuple [(Value.agg (SpanV.cells (atV ts s)).toArray), (Value.int .i64 (atE ts s))].toArray)
   clear hs w hQ hN hK13 hK11 hK10 hK8 hK7 hK5 hK1
   first | (have e := at_bad (s := s) (tr_no he).1; rw [e.1, e.2, (tr_no he).2] <;> rfl) | (have e := at_out htr h23; rw [e.1, e.2] <;> rfl) | (have e := at_in htr h23; rw [e.1, e.2]; unfold atF; rw [show (s.Stretch - 0).toNat = s.Stretch.toNat by rw [Int.sub_zero]] <;> rfl)
 replace h23 := XF h23
 refine WK hK10 <| WS fun _ hK14 => ?_
 have hsb := h23.1
 have hof := off_in hst h23
 refine rS (LW 1 rfl tk113 rfl rfl) <| rS (FA 0 rfl fo30_0 rfl) <| rS (L1 (Value.int .i64 s.Stretch) 3 rfl tk3 rfl rfl) <| rS (CL (drop_c ts tsA tsC 0 s.Stretch (by first | assumption | omega | (simp; done) | (simp; omega)) (by first | assumption | omega | (simp; done) | (simp; omega)) (by omega)) (ha_at 5 rfl rfl <| ha_nil) rfl) <| rS (MV rfl) <| rS (EX rfl) <| rS (EX rfl) <| AL rfl tz28 fun b15 => AL rfl tz28 fun b16 => SW1 rfl ts28 rfl ?_
 refine SW0 rfl ts28 rfl <| RK hK14 <| WS fun _ hK17 => rS (LW 1 rfl tk28 rfl rfl) <| rS (FA 1 rfl fo30_1 rfl) <| rS (LP (SpanV.cells s.Off) 5 rfl tk28 rfl rfl rfl) <| r_bs (xs := [.tmp 34]) (cs := (SpanV.cells s.Off)) rfl te146 tz28 rfl rfl rfl rfl (by simp [Value.cells, SpanV.cells_length]) rfl rfl fun b18 => rS (CL (FnV.eq (plus_c (longF ts (0 : Int).toNat (s.Stretch - 0).toNat) ([s.Off]) (some ⟨b18, 0, none⟩) 1 (by exact longF_in hst (by omega)) (by intro z hz; simp only [List.mem_singleton] at hz; subst hz; exact hof) (by simp)) plus_one) (ha_cons (has_rd_blk 0 rfl rfl (by simp [SpanV.cells_length]) rfl) <| ha_nil) rfl) <| SW5 rfl ts28 rfl <| rS (AG rfl) ?_
 refine RK hK17 <| w_ret ?_
 refine hQ _ _ _ (l_nil (vs := [(Value.agg (SpanV.cells (addZ (longF ts (0 : Int).toNat (s.Stretch - 0).toNat) s.Off)).toArray), (Value.int .i64 0)]) ⟨⟨_, rfl, .inl ⟨_, _, tk28, at_blk (vs := (SpanV.cells (addZ (longF ts (0 : Int).toNat (s.Stretch - 0).toNat) s.Off))) 5 rfl rfl, rfl, rfl⟩⟩, rfl, trivial⟩ fun w hs => endV ?_ hs)
 show (Value.tuple [(Value.agg (SpanV.cells (addZ (longF ts (0 : Int).toNat (s.Stretch - 0).toNat) s.Off)).toArray), (Value.int .i64 0)].toArray) = (Value.tuple [(Value.agg (SpanV.cells (atV ts s)).toArray), (Value.int .i64 (atE ts s))].toArray)
 clear hs w hQ hN hK17 hK14 hK11 hK10 hK8 hK7 hK5 hK1
 first | (have e := at_bad (s := s) (tr_no he).1; rw [e.1, e.2, (tr_no he).2] <;> rfl) | (have e := at_out htr h23; rw [e.1, e.2] <;> rfl) | (have e := at_in htr h23; rw [e.1, e.2]; unfold atF; rw [show (s.Stretch - 0).toNat = s.Stretch.toNat by rw [Int.sub_zero]] <;> rfl)
set_option maxRecDepth 100000 in
set_option maxHeartbeats 400000 in
theorem Apart_c (ts : List StretchV) (tsA : Option Addr) (tsC : Nat) (p : SpotV) (q : SpotV) (hlen : ts.length ≤ 1000000) (hside : ∀ x ∈ ts, 0 ≤ x.Side ∧ x.Side ≤ 255) :
    FnV Try.prog 35 [(Value.agg (TrackV.cells (TrackV.mk (Slc.mk tsA ts.length tsC))).toArray), (Value.agg (SpotV.cells p).toArray), (Value.agg (SpotV.cells q).toArray)] [(rd tsA ts.length 9 (ts.map StretchV.cells))] (Value.tuple [(Value.agg (SpanV.cells (apartV ts p q)).toArray), (Value.int .i64 (apartE ts p q))].toArray) := by
 refine fnV_of go35 Try.func35 rfl rfl fun w0 Q hQ hN => ?_
 try dsimp only
 refine WS fun _ hK1 => BXA rfl fun b2 => BXA rfl fun b3 => BXA rfl fun b4 => AL rfl tz28 fun b5 => rS (AG rfl) <| RK hK1 <| WS fun _ hK6 => rS (LW 3 rfl tk24 rfl rfl) <| rS (CL (topen_c ts tsA tsC hlen hside) (ha_at 4 rfl rfl <| ha_nil) rfl) ?_
 refine rS (MV rfl) <| rS (EX rfl) <| rS (EX rfl) <| AL rfl tz113 fun b7 => SW0 rfl ts113 rfl <| rS (AG rfl) <| RK hK6 <| w_seq fun _ hK8 => WS fun _ hK9 => rS (MV rfl) ?_
 refine rS (BI rfl b_neq) <| RK hK9 ?_
 refine w_if rfl (fun he => ?_) (fun he => ?_)
 · replace he := XT he
   refine WS fun _ hK10 => rS (SX (sd_build (xs := []) (cs := (SpanV.cells (SpanV.mk 0 0))) rfl rfl (built_of tb28 rfl)) rfl rfl) <| rS (MV rfl) <| SW1 rfl ts28 rfl <| rS (AG rfl) <| RK hK10 <| w_ret ?_
   refine hQ _ _ _ (l_nil (vs := [(Value.agg (SpanV.cells (SpanV.mk 0 0)).toArray), (Value.int .i64 (if trackOk ts = true then 0 else 10))]) ⟨⟨_, rfl, .inl ⟨_, _, tk28, at_blk (vs := (SpanV.cells (SpanV.mk 0 0))) 1 rfl rfl, rfl, rfl⟩⟩, rfl, trivial⟩ fun w hs => endV ?_ hs)
   show (Value.tuple [(Value.agg (SpanV.cells (SpanV.mk 0 0)).toArray), (Value.int .i64 (if trackOk ts = true then 0 else 10))].toArray) = (Value.tuple [(Value.agg (SpanV.cells (apartV ts p q)).toArray), (Value.int .i64 (apartE ts p q))].toArray)
   clear hs w hQ hN hK10 hK9 hK8 hK6 hK1
   first | (have e := apart_bad (a := p) (b := q) (tr_no he).1; rw [e.1, e.2, (tr_no he).2] <;> rfl) | (have e := apart_out htr h26; rw [e.1, e.2] <;> rfl) | (have e := apart_in htr ⟨hp, hq⟩; rw [e.1, e.2]; unfold apartF wayB; rw [if_pos h47] <;> rfl) | (have e := apart_in htr ⟨hp, hq⟩; rw [e.1, e.2]; unfold apartF wayB; rw [if_neg h47] <;> rfl)
 replace he := XF he
 refine WK hK8 <| w_seq fun _ hK11 => WS fun _ hK12 => ?_
 have htr := tr_yes he
 have hst := trackOk_all htr
 have hl12 := trackOk_le htr
 refine rS (LW 0 rfl tk113 rfl rfl) <| rS (LW 3 rfl tk30 rfl rfl) <| rS (LW 2 rfl tk30 rfl rfl) <| r_bs (xs := [.tmp 22, .tmp 23]) (cs := ((SpotV.cells p) ++ (SpotV.cells q))) rfl te130 tz30 rfl rfl rfl rfl (by simp [Value.cells, SpotV.cells_length]) rfl rfl fun b13 => rS (CL (FnV.eq (stands_c ts tsA tsC ([p, q]) (some ⟨b13, 0, none⟩) 2 (by first | assumption | omega | (simp; done) | (simp; omega)) (by first | assumption | omega | (simp; done) | (simp; omega)) (by first | assumption | omega | (simp; done) | (simp; omega))) stands_two) (ha_at 6 rfl rfl <| ha_cons (has_rd_blk 0 rfl rfl (by simp [SpotV.cells_length]) rfl) <| ha_nil) rfl) <| rS (NT rfl) <| RK hK12 ?_
 refine w_if rfl (fun h26 => ?_) (fun h26 => ?_)
 · replace h26 := XT h26
   refine WS fun _ hK14 => rS (SX (sd_build (xs := []) (cs := (SpanV.cells (SpanV.mk 0 0))) rfl rfl (built_of tb28 rfl)) rfl rfl) <| SW2 rfl ts28 rfl <| rS (AG rfl) <| RK hK14 <| w_ret ?_
   refine hQ _ _ _ (l_nil (vs := [(Value.agg (SpanV.cells (SpanV.mk 0 0)).toArray), (Value.int .i64 12)]) ⟨⟨_, rfl, .inl ⟨_, _, tk28, at_blk (vs := (SpanV.cells (SpanV.mk 0 0))) 2 rfl rfl, rfl, rfl⟩⟩, rfl, trivial⟩ fun w hs => endV ?_ hs)
   show (Value.tuple [(Value.agg (SpanV.cells (SpanV.mk 0 0)).toArray), (Value.int .i64 12)].toArray) = (Value.tuple [(Value.agg (SpanV.cells (apartV ts p q)).toArray), (Value.int .i64 (apartE ts p q))].toArray)
   clear hs w hQ hN hK14 hK12 hK11 hK9 hK8 hK6 hK1
   first | (have e := apart_bad (a := p) (b := q) (tr_no he).1; rw [e.1, e.2, (tr_no he).2] <;> rfl) | (have e := apart_out htr h26; rw [e.1, e.2] <;> rfl) | (have e := apart_in htr ⟨hp, hq⟩; rw [e.1, e.2]; unfold apartF wayB; rw [if_pos h47] <;> rfl) | (have e := apart_in htr ⟨hp, hq⟩; rw [e.1, e.2]; unfold apartF wayB; rw [if_neg h47] <;> rfl)
 replace h26 := XF h26
 refine WK hK11 <| WS fun _ hK15 => ?_
 obtain ⟨hp, hq⟩ := h26
 have hpb := hp.1
 have hqb := hq.1
 have hpo := off_in hst hp
 have hqo := off_in hst hq
 have hlo := less_in hpo
 have hwy := longF_in hst (f := (min p.Stretch q.Stretch).toNat) (k := (max p.Stretch q.Stretch - min p.Stretch q.Stretch).toNat) (by omega)
 refine rS (LW 1 rfl tk113 rfl rfl) <| rS (FA 0 rfl fo30_0 rfl) <| rS (L1 (Value.int .i64 p.Stretch) 4 rfl tk3 rfl rfl) <| rS (FA 0 rfl fo30_0 rfl) <| rS (L1 (Value.int .i64 q.Stretch) 3 rfl tk3 rfl rfl) <| rS (MN rfl) <| rS (FA 0 rfl fo30_0 rfl) <| rS (L1 (Value.int .i64 p.Stretch) 4 rfl tk3 rfl rfl) <| rS (FA 0 rfl fo30_0 rfl) <| rS (L1 (Value.int .i64 q.Stretch) 3 rfl tk3 rfl rfl) ?_
 refine rS (MX rfl) <| rS (CL (drop_c ts tsA tsC (min p.Stretch q.Stretch) (max p.Stretch q.Stretch) (by first | assumption | omega | (simp; done) | (simp; omega)) (by first | assumption | omega | (simp; done) | (simp; omega)) (by omega)) (ha_at 6 rfl rfl <| ha_nil) rfl) <| rS (MV rfl) <| rS (EX rfl) <| rS (EX rfl) <| AL rfl tz28 fun b16 => AL rfl tz28 fun b17 => SW1 rfl ts28 rfl <| SW0 rfl ts28 rfl <| RK hK15 ?_
 refine w_seq fun _ hK18 => WS fun _ hK19 => rS (FA 0 rfl fo30_0 rfl) <| rS (L1 (Value.int .i64 q.Stretch) 5 rfl tk3 rfl rfl) <| rS (FA 0 rfl fo30_0 rfl) <| rS (L1 (Value.int .i64 p.Stretch) 6 rfl tk3 rfl rfl) <| rS (BI rfl b_lss) <| RK hK19 ?_
 refine w_if rfl (fun h47 => ?_) (fun h47 => ?_)
 rotate_left 1
 · replace h47 := DF h47
   refine WK hK18 <| w_seq fun _ hK25 => w_draw4 mixed [0, 1, 2, 3, 4, 5, 9] [6, 7, 8] [false, false, false, false, false, false, false] [false, false, false] [(blk b17 28 (SpanV.cells (fallF ts (min p.Stretch q.Stretch).toNat ((max p.Stretch q.Stretch) - (min p.Stretch q.Stretch)).toNat))), (blk b16 28 (SpanV.cells (longF ts (min p.Stretch q.Stretch).toNat ((max p.Stretch q.Stretch) - (min p.Stretch q.Stretch)).toNat))), (blk b13 30 ((SpotV.cells p) ++ (SpotV.cells q))), (blk b7 113 (SurveyV.cells (SurveyV.mk (TrackV.mk (Slc.mk tsA ts.length tsC))))), (blk b4 30 (SpotV.cells q)), (blk b3 30 (SpotV.cells p)), (blk b2 24 (TrackV.cells (TrackV.mk (Slc.mk tsA ts.length tsC)))), (rd tsA ts.length 9 (ts.map StretchV.cells)).ro] [] (by kernel_rfl) (fun w hs => St.sel [0, 1, 2, 3, 5, 6, 7, 8] rfl rfl hs) (fun w hs => St.sel [] rfl rfl hs) <| eS rfl (LW 1 rfl tk28 rfl rfl) <| eS rfl (FA 1 rfl fo30_1 rfl) <| eS rfl (LP (SpanV.cells q.Off) 4 rfl tk28 rfl rfl rfl) <| eS rfl (FA 1 rfl fo30_1 rfl) <| eS rfl (LP (SpanV.cells p.Off) 5 rfl tk28 rfl rfl rfl) <| eS rfl (CL (less_c p.Off (by first | assumption | omega | (simp; done) | (simp; omega))) (ha_nil) rfl) <| eS rfl (AG rfl) ?_
   refine d_fin rfl <| t_cons rfl fun T26 hT26 => r_bs (xs := [.tmp 52, .tmp 55]) (cs := ((SpanV.cells q.Off) ++ (SpanV.cells (lessZ p.Off)))) rfl te146 tz28 rfl rfl rfl rfl (by simp [Value.cells, SpanV.cells_length]) rfl rfl fun b27 => RN hT26 [1, 2, 3, 4, 6, 7, 8, 9] rfl rfl <| t_cons rfl fun T28 hT28 => rS (CL (FnV.eq (plus_c (longF ts (min p.Stretch q.Stretch).toNat ((max p.Stretch q.Stretch) - (min p.Stretch q.Stretch)).toNat) ([q.Off, (lessZ p.Off)]) (some ⟨b27, 0, none⟩) 2 (by first | exact hwy | exact less_in hwy) (by intro z hz; simp only [List.mem_cons, List.not_mem_nil, or_false] at hz; rcases hz with rfl | rfl; exact hqo; exact hlo) (by simp)) plus_two) (ha_cons (has_rd_blk 0 rfl rfl (by simp [SpanV.cells_length]) rfl) <| ha_nil) rfl) <| RN hT28 [1, 2, 3, 4, 6, 7, 8, 9] rfl rfl <| t_cons rfl fun T29 hT29 => SW5 rfl ts28 rfl <| RN hT29 [1, 2, 3, 4, 6, 7, 8, 9] rfl rfl ?_
   refine t_fin rfl <| KK hK25 <| w_ret ?_
   refine hQ _ _ _ (l_nil (vs := [(Value.agg (SpanV.cells (addZ (addZ (longF ts (min p.Stretch q.Stretch).toNat ((max p.Stretch q.Stretch) - (min p.Stretch q.Stretch)).toNat) q.Off) (lessZ p.Off))).toArray), (Value.int .i64 0)]) ⟨⟨_, rfl, .inl ⟨_, _, tk28, at_blk (vs := (SpanV.cells (addZ (addZ (longF ts (min p.Stretch q.Stretch).toNat ((max p.Stretch q.Stretch) - (min p.Stretch q.Stretch)).toNat) q.Off) (lessZ p.Off)))) 5 rfl rfl, rfl, rfl⟩⟩, rfl, trivial⟩ fun w hs => endV ?_ hs)
   show (Value.tuple [(Value.agg (SpanV.cells (addZ (addZ (longF ts (min p.Stretch q.Stretch).toNat ((max p.Stretch q.Stretch) - (min p.Stretch q.Stretch)).toNat) q.Off) (lessZ p.Off))).toArray), (Value.int .i64 0)].toArray) = (Value.tuple [(Value.agg (SpanV.cells (apartV ts p q)).toArray), (Value.int .i64 (apartE ts p q))].toArray)
   clear hs w hQ hN hT29 T29 hT28 T28 hT26 T26 hK25 hK19 hK18 hK15 hK12 hK11 hK9 hK8 hK6 hK1
   first | (have e := apart_bad (a := p) (b := q) (tr_no he).1; rw [e.1, e.2, (tr_no he).2] <;> rfl) | (have e := apart_out htr h26; rw [e.1, e.2] <;> rfl) | (have e := apart_in htr ⟨hp, hq⟩; rw [e.1, e.2]; unfold apartF wayB; rw [if_pos h47] <;> rfl) | (have e := apart_in htr ⟨hp, hq⟩; rw [e.1, e.2]; unfold apartF wayB; rw [if_neg h47] <;> rfl)
 replace h47 := DT h47
 refine w_region <| rS (LW 1 rfl tk28 rfl rfl) <| rS (CL (less_c (longF ts (min p.Stretch q.Stretch).toNat ((max p.Stretch q.Stretch) - (min p.Stretch q.Stretch)).toNat) (by first | assumption | omega | (simp; done) | (simp; omega))) (ha_nil) rfl) <| SW1 rfl ts28 rfl <| RK hK18 <| w_seq fun _ hK20 => w_draw4 mixed [0, 1, 2, 3, 4, 5, 9] [6, 7, 8] [false, false, false, false, false, false, false] [false, false, false] [(blk b17 28 (SpanV.cells (fallF ts (min p.Stretch q.Stretch).toNat ((max p.Stretch q.Stretch) - (min p.Stretch q.Stretch)).toNat))), (blk b16 28 (SpanV.cells (lessZ (longF ts (min p.Stretch q.Stretch).toNat ((max p.Stretch q.Stretch) - (min p.Stretch q.Stretch)).toNat)))), (blk b13 30 ((SpotV.cells p) ++ (SpotV.cells q))), (blk b7 113 (SurveyV.cells (SurveyV.mk (TrackV.mk (Slc.mk tsA ts.length tsC))))), (blk b4 30 (SpotV.cells q)), (blk b3 30 (SpotV.cells p)), (blk b2 24 (TrackV.cells (TrackV.mk (Slc.mk tsA ts.length tsC)))), (rd tsA ts.length 9 (ts.map StretchV.cells)).ro] [] (by kernel_rfl) (fun w hs => St.sel [0, 1, 2, 3, 5, 6, 7, 8] rfl rfl hs) (fun w hs => St.sel [] rfl rfl hs) <| eS rfl (LW 1 rfl tk28 rfl rfl) <| eS rfl (FA 1 rfl fo30_1 rfl) <| eS rfl (LP (SpanV.cells q.Off) 4 rfl tk28 rfl rfl rfl) ?_
 refine eS rfl (FA 1 rfl fo30_1 rfl) <| eS rfl (LP (SpanV.cells p.Off) 5 rfl tk28 rfl rfl rfl) <| eS rfl (CL (less_c p.Off (by first | assumption | omega | (simp; done) | (simp; omega))) (ha_nil) rfl) <| eS rfl (AG rfl) <| d_fin rfl <| t_cons rfl fun T21 hT21 => r_bs (xs := [.tmp 52, .tmp 55]) (cs := ((SpanV.cells q.Off) ++ (SpanV.cells (lessZ p.Off)))) rfl te146 tz28 rfl rfl rfl rfl (by simp [Value.cells, SpanV.cells_length]) rfl rfl fun b22 => RN hT21 [1, 2, 3, 4, 6, 7, 8, 9] rfl rfl <| t_cons rfl fun T23 hT23 => rS (CL (FnV.eq (plus_c (lessZ (longF ts (min p.Stretch q.Stretch).toNat ((max p.Stretch q.Stretch) - (min p.Stretch q.Stretch)).toNat)) ([q.Off, (lessZ p.Off)]) (some ⟨b22, 0, none⟩) 2 (by first | exact hwy | exact less_in hwy) (by intro z hz; simp only [List.mem_cons, List.not_mem_nil, or_false] at hz; rcases hz with rfl | rfl; exact hqo; exact hlo) (by simp)) plus_two) (ha_cons (has_rd_blk 0 rfl rfl (by simp [SpanV.cells_length]) rfl) <| ha_nil) rfl) ?_
 refine RN hT23 [1, 2, 3, 4, 6, 7, 8, 9] rfl rfl <| t_cons rfl fun T24 hT24 => SW5 rfl ts28 rfl <| RN hT24 [1, 2, 3, 4, 6, 7, 8, 9] rfl rfl <| t_fin rfl <| KK hK20 <| w_ret ?_
 refine hQ _ _ _ (l_nil (vs := [(Value.agg (SpanV.cells (addZ (addZ (lessZ (longF ts (min p.Stretch q.Stretch).toNat ((max p.Stretch q.Stretch) - (min p.Stretch q.Stretch)).toNat)) q.Off) (lessZ p.Off))).toArray), (Value.int .i64 0)]) ⟨⟨_, rfl, .inl ⟨_, _, tk28, at_blk (vs := (SpanV.cells (addZ (addZ (lessZ (longF ts (min p.Stretch q.Stretch).toNat ((max p.Stretch q.Stretch) - (min p.Stretch q.Stretch)).toNat)) q.Off) (lessZ p.Off)))) 5 rfl rfl, rfl, rfl⟩⟩, rfl, trivial⟩ fun w hs => endV ?_ hs)
 show (Value.tuple [(Value.agg (SpanV.cells (addZ (addZ (lessZ (longF ts (min p.Stretch q.Stretch).toNat ((max p.Stretch q.Stretch) - (min p.Stretch q.Stretch)).toNat)) q.Off) (lessZ p.Off))).toArray), (Value.int .i64 0)].toArray) = (Value.tuple [(Value.agg (SpanV.cells (apartV ts p q)).toArray), (Value.int .i64 (apartE ts p q))].toArray)
 clear hs w hQ hN hT24 T24 hT23 T23 hT21 T21 hK20 hK19 hK18 hK15 hK12 hK11 hK9 hK8 hK6 hK1
 first | (have e := apart_bad (a := p) (b := q) (tr_no he).1; rw [e.1, e.2, (tr_no he).2] <;> rfl) | (have e := apart_out htr h26; rw [e.1, e.2] <;> rfl) | (have e := apart_in htr ⟨hp, hq⟩; rw [e.1, e.2]; unfold apartF wayB; rw [if_pos h47] <;> rfl) | (have e := apart_in htr ⟨hp, hq⟩; rw [e.1, e.2]; unfold apartF wayB; rw [if_neg h47] <;> rfl)
set_option maxRecDepth 100000 in
set_option maxHeartbeats 400000 in
theorem rspot_c (ts : List StretchV) (tsA : Option Addr) (tsC : Nat) (s : SpotV) (hst : ∀ x ∈ ts, StretchOk x) (hlen : ts.length ≤ 12) :
    FnV Try.prog 101 [(Value.agg (TrackV.cells (TrackV.mk (Slc.mk tsA ts.length tsC))).toArray), (Value.agg (SpotV.cells s).toArray)] [(rd tsA ts.length 9 (ts.map StretchV.cells))] (Value.bool (decide (SpotOk ts s))) := by
 refine fnV_of go101 Try.func101 rfl rfl fun w0 Q hQ hN => ?_
 try dsimp only
 refine WS fun _ hK1 => BXA rfl fun b2 => BXA rfl fun b3 => rS (AG rfl) <| RK hK1 <| w_seq fun _ hK4 => w_draw mixed 22 (by kernel_rfl) <| dS (FA 0 rfl fo30_0 rfl) <| dS (L1 (Value.int .i64 s.Stretch) 0 rfl tk3 rfl rfl) <| dS (FA 0 rfl fo24_0 rfl) ?_
 refine dS (L1 (Value.slice tsA ts.length tsC) 1 rfl tk22 rfl rfl) <| dS (LN rfl ut22) <| dS (BI rfl (b_sub ⟨by omega, by omega⟩)) <| dS (CL (within_1 s.Stretch 0 (((ts.length : Nat) : Int) - 1)) (ha_nil) rfl) <| dS (MV rfl) ?_
 refine d_bool (t := 12) rfl (fun h12 => ?_) (fun h12 => ?_)
 rotate_left 1
 · replace h12 := DF h12
   refine dS (OX rfl) <| dS (OX rfl) <| dS (OX rfl) <| dS (OX rfl) <| dS (OX rfl) <| dS (OX rfl) <| dS (OX rfl) <| dS (OX rfl) <| dS (OX rfl) <| dS (OX rfl) ?_
   refine dS (OX rfl) <| dS (OX rfl) <| dS (PK rfl) <| dS (AG rfl) <| d_end <| RK hK4 <| w_ret <| Q1 hQ rfl rfl rfl ?_
   first | (refine congrArg Value.bool ?_; rw [decide_eq_false (spot_out (by omega))]) | exact congrArg Value.bool (decide_eq_decide.2 (spot_yes (by omega) hx).symm)
 replace h12 := DT h12
 refine dS (FA 1 rfl fo30_1 rfl) <| dS (LP (SpanV.cells s.Off) 0 rfl tk28 rfl rfl rfl) <| dS (FA 0 rfl fo24_0 rfl) <| dS (L1 (Value.slice tsA ts.length tsC) 1 rfl tk22 rfl rfl) <| dS (FA 0 rfl fo30_0 rfl) <| dS (L1 (Value.int .i64 s.Stretch) 0 rfl tk3 rfl rfl) ?_
 obtain ⟨x, hx⟩ : ∃ y_, ts[(s.Stretch).toNat]? = some y_ := ⟨ts[(s.Stretch).toNat]'(by omega), List.getElem?_eq_getElem _⟩
 have hxm : (ts.map StretchV.cells)[(s.Stretch).toNat]? = some (StretchV.cells x) := by rw [List.getElem?_map, hx]; rfl
 refine dS (IA ((s.Stretch).toNat) rfl (has_at 2 rfl) te22 (by decide) (by omega) (by omega)) <| dS (FAR ((((s.Stretch).toNat) * 9) + 1) rfl (has_at 2 rfl) (Nat.mul_pos (by omega) (by decide)) fo110_1 rfl) ?_
 have hxo := (hst x (List.mem_of_getElem? hx)).2.1
 simp only [SpanOk] at hxo
 refine dS (FAR ((((s.Stretch).toNat) * 9) + 1) rfl (has_at 2 rfl) (Nat.mul_pos (by omega) (by decide)) fo28_0 rfl) <| dS (LE1 ((s.Stretch).toNat) 1 (Value.int .i64 x.Long.Lo) rfl tk3 (has_at 2 rfl) hxm rfl (by decide) rfl) <| dS (BI rfl (b_sub ⟨by omega, by omega⟩)) <| dS (CL (span_1 s.Off 0 (x.Long.Lo - 1)) (ha_nil) rfl) <| dS (PK rfl) <| dS (AG rfl) <| d_end <| RK hK4 <| w_ret <| Q1 hQ rfl rfl rfl ?_
 first | (refine congrArg Value.bool ?_; rw [decide_eq_false (spot_out (by omega))]) | exact congrArg Value.bool (decide_eq_decide.2 (spot_yes (by omega) hx).symm)
end
section
open Go.RowKit
set_option linter.unusedVariables false
set_option maxRecDepth 100000 in
set_option maxHeartbeats 400000 in
theorem in1_post (n : Int) (lo : Int) (hi : Int) (g1 : Nat) (g2 : Nat) :
    FnV Try.prog 87 [(Value.int .i64 n), (Value.pointer (some ⟨g1, 0, none⟩)), (Value.pointer (some ⟨g2, 0, none⟩))] [(blk g1 3 [(Value.int .i64 lo)]), (blk g2 3 [(Value.int .i64 hi)])] (Value.bool (decide (n < lo ∨ hi < n))) := by
 refine fnV_of go87 Try.func87 rfl rfl fun w0 Q hQ hN => ?_
 try dsimp only
 refine WS fun _ hK1 => rS (AG rfl) <| RK hK1 <| WS fun _ hK2 => rS (MV rfl) <| rS (L1Q 0 rfl tk3 rfl) <| rS (BI rfl b_lss) <| rS (MV rfl) ?_
 refine r_bool (t := 8) rfl (fun h3 => ?_) (fun h3 => ?_)
 · replace h3 := DT h3
   refine rS (OX rfl) <| rS (OX rfl) <| rS (OX rfl) <| rS (PK rfl) <| rS (AG rfl) <| RK hK2 <| w_ret <| Q1 hQ rfl rfl rfl ?_
   exact congrArg Value.bool (decide_eq_true (by omega)).symm
 replace h3 := DF h3
 refine rS (MV rfl) <| rS (L1Q 1 rfl tk3 rfl) <| rS (BI rfl b_gtr) <| rS (PK rfl) <| rS (AG rfl) <| RK hK2 <| w_ret <| Q1 hQ rfl rfl rfl ?_
 exact congrArg Value.bool (decide_eq_decide.2 (by omega))
set_option maxRecDepth 100000 in
set_option maxHeartbeats 400000 in
theorem in_post (lo : Int) (hi : Int) (l : List Int) (lA : Option Addr) (lC : Nat) (hlen : l.length ≤ 1000000) :
    FnV Try.prog 49 [(Value.int .i64 lo), (Value.int .i64 hi), (Value.slice lA l.length lC)] [(rd lA l.length 1 (l.map iC))] (Value.bool (inAll lo hi l)) := by
 refine fnV_of go49 Try.func49 rfl rfl fun w0 Q hQ hN => ?_
 try dsimp only
 refine WS fun _ hK1 => BX1 rfl rfl fun b2 => BX1 rfl rfl fun b3 => rS (AG rfl) <| RK hK1 <| WS fun _ hK4 => rS (MV rfl) <| rS (FU rfl) <| rS (CL (contains_c l lA lC (Value.func (.func 87) [].toArray [(Value.pointer (some ⟨b2, 0, none⟩)), (Value.pointer (some ⟨b3, 0, none⟩))].toArray) (fun u5 => (decide (u5 < lo ∨ hi < u5))) (bun [(blk b2 3 [(Value.int .i64 lo)]), (blk b3 3 [(Value.int .i64 hi)])]) (by intro u5 _; exact clo_of (fi := []) (ca := [(Value.pointer (some ⟨b2, 0, none⟩)), (Value.pointer (some ⟨b3, 0, none⟩))]) (fnV_bun (in1_post u5 lo hi b2 b3 ) (ha_at 0 rfl rfl <| ha_at 1 rfl rfl <| ha_nil))) hlen) (ha_at 2 rfl rfl <| ha_cons (has_bun (ha_at 1 rfl rfl <| ha_at 0 rfl rfl <| ha_nil)) <| ha_nil) rfl) <| rS (NT rfl) ?_
 refine rS (AG rfl) <| RK hK4 <| w_ret ?_
 exact Q1 hQ rfl rfl rfl rfl
set_option maxRecDepth 100000 in
set_option maxHeartbeats 400000 in
theorem pstands_c (s : SpotV) (d : GuardM) (kA : Option Addr) (kC : Nat) (pA : Option Addr) (pC : Nat) (nA : Option Addr) (nC : Nat) (g1 : Nat) (hin : GuardIn d) (htr : trackOk d.Track = true) :
    FnV Try.prog 65 [(Value.agg (SpotV.cells s).toArray), (Value.pointer (some ⟨g1, 0, none⟩))] [(rd kA d.Track.length 9 (d.Track.map StretchV.cells)), (rd pA d.Posts.length 7 (d.Posts.map PostV.cells)), (rd nA d.Needs.length 3 (d.Needs.map NeedV.cells)), (blk g1 32 (GuardV.cells (GuardV.mk (TrackV.mk (Slc.mk kA d.Track.length kC)) (Slc.mk pA d.Posts.length pC) (Slc.mk nA d.Needs.length nC) d.Tower d.Radio)))] (Value.bool (decide (SpotOk d.Track s))) := by
 have hlen := hin.trk
 have hside := hin.side
 have hpl := hin.pst
 have hnl := hin.nds
 have hnk := hin.nk
 have hpk := hin.pk
 refine fnV_of go65 Try.func65 rfl rfl fun w0 Q hQ hN => ?_
 try dsimp only
 refine WS fun _ hK1 => BXA rfl fun b2 => rS (AG rfl) <| RK hK1 <| WS fun _ hK3 => rS (FA 0 rfl fo32_0 rfl) <| rS (LPR (TrackV.cells (TrackV.mk (Slc.mk kA d.Track.length kC))) 4 rfl tk24 rfl rfl rfl) <| rS (LW 0 rfl tk30 rfl rfl) <| rS (CL (At_c d.Track kA kC s (by first | assumption | omega | (simp; done) | (simp; omega)) (by first | assumption | omega | (simp; done) | (simp; omega))) (ha_at 1 rfl rfl <| ha_nil) rfl) <| rS (MV rfl) ?_
 refine rS (EX rfl) <| rS (EX rfl) <| AL rfl tz28 fun b4 => SW0 rfl ts28 rfl <| rS (AG rfl) <| RK hK3 <| WS fun _ hK5 => rS (MV rfl) <| rS (BI rfl b_eql) <| rS (AG rfl) ?_
 refine RK hK5 <| w_ret <| Q1 hQ rfl rfl rfl ?_
 exact congrArg Value.bool (decide_eq_decide.2 (at_zero htr))
set_option maxRecDepth 100000 in
set_option maxHeartbeats 400000 in
theorem pneed_c (n : NeedV) (d : GuardM) (kA : Option Addr) (kC : Nat) (pA : Option Addr) (pC : Nat) (nA : Option Addr) (nC : Nat) (g1 : Nat) (hin : GuardIn d) (hk : 0 ≤ n.Kind ∧ n.Kind ≤ 255) :
    FnV Try.prog 68 [(Value.agg (NeedV.cells n).toArray), (Value.pointer (some ⟨g1, 0, none⟩))] [(rd kA d.Track.length 9 (d.Track.map StretchV.cells)), (rd pA d.Posts.length 7 (d.Posts.map PostV.cells)), (rd nA d.Needs.length 3 (d.Needs.map NeedV.cells)), (blk g1 32 (GuardV.cells (GuardV.mk (TrackV.mk (Slc.mk kA d.Track.length kC)) (Slc.mk pA d.Posts.length pC) (Slc.mk nA d.Needs.length nC) d.Tower d.Radio)))] (Value.bool (!(decide (NeedOk d.Track n)))) := by
 have hlen := hin.trk
 have hside := hin.side
 have hpl := hin.pst
 have hnl := hin.nds
 have hnk := hin.nk
 have hpk := hin.pk
 refine fnV_of go68 Try.func68 rfl rfl fun w0 Q hQ hN => ?_
 try dsimp only
 refine WS fun _ hK1 => BXA rfl fun b2 => rS (AG rfl) <| RK hK1 <| WS fun _ hK3 => rS (FA 0 rfl fo32_0 rfl) <| rS (FA 0 rfl fo24_0 rfl) <| rS (L1R (Value.slice kA d.Track.length kC) 4 rfl tk22 rfl rfl) <| rS (LN rfl ut22) <| rS (BI rfl (b_sub ⟨by omega, by omega⟩)) ?_
 refine rS (FA 0 rfl fo57_0 rfl) <| rS (L1 (Value.int .i64 n.Stretch) 0 rfl tk3 rfl rfl) <| r_bs (xs := [.tmp 10]) (cs := [(Value.int .i64 n.Stretch)]) rfl te33 tz3 rfl rfl rfl rfl (by simp [Value.cells]) rfl rfl fun b4 => rS (CL (FnV.eq (in_post 0 (((d.Track.length : Nat) : Int) - 1) ([n.Stretch]) (some ⟨b4, 0, none⟩) 1 (by first | assumption | omega | (simp; done) | (simp; omega))) inAll_one) (ha_cons (has_rd_blk 0 rfl rfl (by simp [iC_length]) rfl) <| ha_nil) rfl) <| rS (NT rfl) <| rS (MV rfl) ?_
 refine r_bool (t := 14) rfl (fun h14 => ?_) (fun h14 => ?_)
 · replace h14 := XT h14
   refine rS (OX rfl) <| rS (OX rfl) <| rS (OX rfl) <| rS (OX rfl) <| rS (OX rfl) <| rS (OX rfl) <| rS (PK rfl) <| rS (MV rfl) <| rS (OX rfl) <| rS (OX rfl) ?_
   refine rS (OX rfl) <| rS (OX rfl) <| rS (OX rfl) <| rS (PK rfl) <| rS (AG rfl) <| RK hK3 <| w_ret <| Q1 hQ rfl rfl rfl ?_
   first | (refine congrArg Value.bool ?_; rw [decide_eq_false (fun q : NeedOk d.Track n => by unfold NeedOk at q; omega)]; rfl) | (refine congrArg Value.bool ?_; refine congrArg Bool.not (decide_eq_decide.2 ?_); unfold NeedOk; omega)
 replace h14 := XF h14
 refine rS (FA 1 rfl fo57_1 rfl) <| rS (L1 (Value.int .u8 n.Kind) 1 rfl tk5 rfl rfl) <| rS (SX (sd_conv (m := n.Kind) rfl rfl ut5 ut3 (wrap_u8_i64 (by first | assumption | omega))) rfl rfl) <| r_bs (xs := [.tmp 17]) (cs := [(Value.int .i64 n.Kind)]) rfl te33 tz3 rfl rfl rfl rfl (by simp [Value.cells]) rfl rfl fun b5 => rS (CL (FnV.eq (in_post 1 3 ([n.Kind]) (some ⟨b5, 0, none⟩) 1 (by first | assumption | omega | (simp; done) | (simp; omega))) inAll_one) (ha_cons (has_rd_blk 0 rfl rfl (by simp [iC_length]) rfl) <| ha_nil) rfl) <| rS (NT rfl) <| rS (PK rfl) <| rS (MV rfl) ?_
 refine r_bool (t := 22) rfl (fun h22 => ?_) (fun h22 => ?_)
 · replace h22 := XT h22
   refine rS (OX rfl) <| rS (OX rfl) <| rS (OX rfl) <| rS (OX rfl) <| rS (OX rfl) <| rS (PK rfl) <| rS (AG rfl) <| RK hK3 <| w_ret <| Q1 hQ rfl rfl rfl ?_
   first | (refine congrArg Value.bool ?_; rw [decide_eq_false (fun q : NeedOk d.Track n => by unfold NeedOk at q; omega)]; rfl) | (refine congrArg Value.bool ?_; refine congrArg Bool.not (decide_eq_decide.2 ?_); unfold NeedOk; omega)
 replace h22 := XF h22
 refine rS (FA 2 rfl fo57_2 rfl) <| rS (L1 (Value.int .i64 n.Seconds) 2 rfl tk3 rfl rfl) <| r_bs (xs := [.tmp 24]) (cs := [(Value.int .i64 n.Seconds)]) rfl te33 tz3 rfl rfl rfl rfl (by simp [Value.cells]) rfl rfl fun b6 => rS (CL (FnV.eq (in_post 0 36000 ([n.Seconds]) (some ⟨b6, 0, none⟩) 1 (by first | assumption | omega | (simp; done) | (simp; omega))) inAll_one) (ha_cons (has_rd_blk 0 rfl rfl (by simp [iC_length]) rfl) <| ha_nil) rfl) <| rS (NT rfl) <| rS (PK rfl) <| rS (AG rfl) <| RK hK3 <| w_ret <| Q1 hQ rfl rfl rfl ?_
 first | (refine congrArg Value.bool ?_; rw [decide_eq_false (fun q : NeedOk d.Track n => by unfold NeedOk at q; omega)]; rfl) | (refine congrArg Value.bool ?_; refine congrArg Bool.not (decide_eq_decide.2 ?_); unfold NeedOk; omega)
set_option maxRecDepth 100000 in
set_option maxHeartbeats 400000 in
theorem indexnd_c (l : List NeedV) (lA : Option Addr) (lC : Nat) (f : Value) (p : NeedV → Bool) (X : Assn) (hf : ∀ x0, x0 ∈ l → Clo Try.prog f [.agg (NeedV.cells x0).toArray] [X] (.bool (p x0))) (hlen : l.length ≤ 1000000) :
    FnV Try.prog 98 [(Value.slice lA l.length lC), f] [(rd lA l.length 3 (l.map NeedV.cells)), X] (Value.int .i64 (findI p l)) := by
 refine fnV_of go98 Try.func98 rfl rfl fun w0 Q hQ hN => ?_
 try dsimp only
 refine WS fun _ hK1 => rS (AG rfl) <| RK hK1 <| w_seq fun _ hK2 => WS fun _ hK3 => rS (MV rfl) <| rS (LN rfl ut26) <| rS (MV rfl) <| RK hK3 <| w_block ?_
 have hinit : (0 ≤ l.length) ∧ ((l.take 0).any p = false) := by simp
 refine w_loop (ι := { z : Nat // (z ≤ l.length) ∧ ((l.take z).any p = false) }) (fun z => [(0, (Value.slice lA l.length lC)), (1, f), (7, (Value.int .i64 ((l.length : Nat) : Int))), (8, (Value.int .i64 ((z.1 : Nat) : Int)))]) (fun z => [(rd lA l.length 3 (l.map NeedV.cells)).ro, X.ro]) (fun z => l.length - z.1) ⟨0, hinit⟩ (Sub.cons rfl <| Sub.cons rfl <| Sub.cons rfl <| Sub.cons rfl <| Sub.nil _) (fun w hs => St.sel [0, 1] rfl rfl hs) ?_
 clear hinit
 rintro ⟨i, ⟨hl0_0, hl0_1⟩⟩ J4 hJ4
 try dsimp only
 refine WS fun _ hK5 => rS (BI rfl b_lss) <| RK hK5 <| w_seq fun _ hK6 => ?_
 refine w_if rfl (fun h7 => ?_) (fun h7 => ?_)
 rotate_left 1
 · replace h7 := DF h7
   refine w_exit <| k_exit_then <| k_exit_then <| k_exit_same <| KK hK2 <| WS fun _ hK13 => rS (AG rfl) <| RK hK13 <| w_ret <| Q1 hQ rfl rfl rfl ?_
   first | exact congrArg (Value.int .i64) (findI_at hx hp hl0_1).symm | exact congrArg (Value.int .i64) (findI_none (by omega) hl0_1).symm
 replace h7 := DT h7
 refine WK hK6 <| w_seq fun _ hK8 => w_block <| WS fun _ hK9 => rS (MV rfl) <| rS (AG rfl) <| RK hK9 <| WS fun _ hK10 => rS (MV rfl) <| rS (MV rfl) ?_
 refine rS (MV rfl) ?_
 obtain ⟨x, hx⟩ : ∃ y_, l[i]? = some y_ := ⟨l[i]'(by omega), List.getElem?_eq_getElem _⟩
 have hxm : (l.map NeedV.cells)[i]? = some (NeedV.cells x) := by rw [List.getElem?_map, hx]; rfl
 refine rS (IA i rfl (has_at 0 rfl) te26 (by decide) (by omega) (by omega)) <| rS (LEN i 0 (NeedV.cells x) rfl tk57 (has_at 0 rfl) hxm rfl (by decide) rfl rfl) <| rS (SX (sd_clo rfl rfl rfl (hf x (List.mem_of_getElem? hx)) (ha_at 1 rfl rfl <| ha_nil)) rfl rfl) <| RK hK10 ?_
 refine w_if rfl (fun hp => ?_) (fun hp => ?_)
 · refine WS fun _ hK11 => ?_
   refine rS (MV rfl) <| rS (AG rfl) <| RK hK11 <| w_ret <| Q1 hQ rfl rfl rfl ?_
   first | exact congrArg (Value.int .i64) (findI_at hx hp hl0_1).symm | exact congrArg (Value.int .i64) (findI_none (by omega) hl0_1).symm
 refine w_skip <| k_block <| KK hK8 <| w_region <| rS (BI rfl (b_add ⟨by omega, by omega⟩)) <| rS (MV rfl) <| r_nil ?_
 have hb12 : (Value.int .i64 (((i + 1) : Nat) : Int)) = (Value.int .i64 (((i : Nat) : Int) + 1)) := by exact congrArg (Value.int .i64) (by omega)
 refine k_then (hJ4 ⟨(i + 1), ⟨by omega, any_step hx hl0_1 hp⟩⟩ _ _ _ rfl (by first | omega | (simp; omega)) (Sub.cons rfl <| Sub.cons rfl <| Sub.cons rfl <| sub_val rfl hb12 <| Sub.nil _) (fun w hs => St.sel [0, 1] rfl rfl hs))
set_option maxRecDepth 100000 in
set_option maxHeartbeats 400000 in
theorem containsnd_c (l : List NeedV) (lA : Option Addr) (lC : Nat) (f : Value) (p : NeedV → Bool) (X : Assn) (hf : ∀ x0, x0 ∈ l → Clo Try.prog f [.agg (NeedV.cells x0).toArray] [X] (.bool (p x0))) (hlen : l.length ≤ 1000000) :
    FnV Try.prog 67 [(Value.slice lA l.length lC), f] [(rd lA l.length 3 (l.map NeedV.cells)), X] (Value.bool (l.any p)) := by
 refine fnV_of go67 Try.func67 rfl rfl fun w0 Q hQ hN => ?_
 try dsimp only
 refine WS fun _ hK1 => rS (AG rfl) <| RK hK1 <| WS fun _ hK2 => rS (MV rfl) <| rS (MV rfl) <| rS (CL (indexnd_c l lA lC f p X (by exact hf) hlen) (ha_at 0 rfl rfl <| ha_at 1 rfl rfl <| ha_nil) rfl) <| rS (BI rfl b_geq) <| rS (AG rfl) <| RK hK2 ?_
 refine w_ret <| Q1 hQ rfl rfl rfl ?_
 exact congrArg Value.bool findI_any
end
section
open Go.RowKit
set_option linter.unusedVariables false
set_option maxRecDepth 100000 in
set_option maxHeartbeats 400000 in
theorem pcheck_c (d : GuardM) (kA : Option Addr) (kC : Nat) (pA : Option Addr) (pC : Nat) (nA : Option Addr) (nC : Nat) (hin : GuardIn d) :
    FnV Try.prog 23 [(Value.agg (GuardV.cells (GuardV.mk (TrackV.mk (Slc.mk kA d.Track.length kC)) (Slc.mk pA d.Posts.length pC) (Slc.mk nA d.Needs.length nC) d.Tower d.Radio)).toArray)] [(rd kA d.Track.length 9 (d.Track.map StretchV.cells)), (rd pA d.Posts.length 7 (d.Posts.map PostV.cells)), (rd nA d.Needs.length 3 (d.Needs.map NeedV.cells))] (Value.int .i64 (guardE d)) := by
 have hlen := hin.trk
 have hside := hin.side
 have hpl := hin.pst
 have hnl := hin.nds
 have hnk := hin.nk
 have hpk := hin.pk
 refine fnV_of go23 Try.func23 rfl rfl fun w0 Q hQ hN => ?_
 try dsimp only
 refine WS fun _ hK1 => BXA rfl fun b2 => rS (AG rfl) <| RK hK1 <| w_seq fun _ hK3 => WS fun _ hK4 => rS (FA 0 rfl fo32_0 rfl) <| rS (LP (TrackV.cells (TrackV.mk (Slc.mk kA d.Track.length kC))) 0 rfl tk24 rfl rfl rfl) <| rS (CL (tcheck_c d.Track kA kC (by first | assumption | omega | (simp; done) | (simp; omega)) (by first | assumption | omega | (simp; done) | (simp; omega))) (ha_at 1 rfl rfl <| ha_nil) rfl) <| rS (AG rfl) ?_
 refine RK hK4 <| WS fun _ hK5 => rS (MV rfl) <| rS (BI rfl b_neq) <| RK hK5 ?_
 refine w_if rfl (fun h12 => ?_) (fun h12 => ?_)
 · replace h12 := XT h12
   refine WS fun _ hK6 => rS (MV rfl) <| rS (AG rfl) <| RK hK6 <| w_ret <| Q1 hQ rfl rfl rfl ?_
   first | (refine congrArg (Value.int .i64) ?_; rw [(tr_no h12).2, guardE_bad (tr_no h12).1]) | exact congrArg (Value.int .i64) (guardE_no htr fun q => by have := q.len; omega).symm | exact congrArg (Value.int .i64) (guardE_no htr fun q => by exact absurd q.tower (by simpa using h32)).symm | exact congrArg (Value.int .i64) (guardE_no htr fun q => by exact h32 q.tower).symm | exact congrArg (Value.int .i64) (guardE_no htr fun q => by have := q.radio; omega).symm | exact congrArg (Value.int .i64) (guardE_no htr fun q => by have q1 := q.post i p hp; unfold PostOk at q1; first | omega | exact absurd q1.2.2.1 (by simpa using h68) | exact h68 q1.2.2.1).symm | exact congrArg (Value.int .i64) (guardE_no htr fun q => by rw [needs_any.2 q.need] at h88; cases h88).symm | exact congrArg (Value.int .i64) (guardE_ok htr (guard_yes (by omega) (by simpa using h32) (by omega) hl9_1 (by omega) (needs_any.1 (by simpa using h88)))).symm
 replace h12 := XF h12
 refine WK hK3 <| WS fun _ hK7 => ?_
 have htr := tr_yes h12
 refine rS (FU rfl) <| rS (AG rfl) <| RK hK7 <| w_seq fun _ hK8 => WS fun _ hK9 => rS (FA 1 rfl fo32_1 rfl) <| rS (L1 (Value.slice pA d.Posts.length pC) 0 rfl tk25 rfl rfl) <| rS (LN rfl ut25) <| rS (BI rfl b_gtr) <| rS (MV rfl) ?_
 refine r_bool (t := 19) rfl (fun h19 => ?_) (fun h19 => ?_)
 · replace h19 := DT h19
   refine rS (OX rfl) <| rS (OX rfl) <| rS (OX rfl) <| rS (OX rfl) <| rS (PK rfl) <| rS (MV rfl) <| rS (OX rfl) <| rS (OX rfl) <| rS (OX rfl) <| rS (OX rfl) ?_
   refine rS (OX rfl) <| rS (PK rfl) <| rS (MV rfl) <| rS (OX rfl) <| rS (OX rfl) <| rS (OX rfl) <| rS (OX rfl) <| rS (OX rfl) <| rS (PK rfl) <| RK hK9 ?_
   refine w_if_true rfl <| WS fun _ hK10 => rS (AG rfl) <| RK hK10 <| w_ret <| Q1 hQ rfl rfl rfl ?_
   first | (refine congrArg (Value.int .i64) ?_; rw [(tr_no h12).2, guardE_bad (tr_no h12).1]) | exact congrArg (Value.int .i64) (guardE_no htr fun q => by have := q.len; omega).symm | exact congrArg (Value.int .i64) (guardE_no htr fun q => by exact absurd q.tower (by simpa using h32)).symm | exact congrArg (Value.int .i64) (guardE_no htr fun q => by exact h32 q.tower).symm | exact congrArg (Value.int .i64) (guardE_no htr fun q => by have := q.radio; omega).symm | exact congrArg (Value.int .i64) (guardE_no htr fun q => by have q1 := q.post i p hp; unfold PostOk at q1; first | omega | exact absurd q1.2.2.1 (by simpa using h68) | exact h68 q1.2.2.1).symm | exact congrArg (Value.int .i64) (guardE_no htr fun q => by rw [needs_any.2 q.need] at h88; cases h88).symm | exact congrArg (Value.int .i64) (guardE_ok htr (guard_yes (by omega) (by simpa using h32) (by omega) hl9_1 (by omega) (needs_any.1 (by simpa using h88)))).symm
 replace h19 := DF h19
 refine rS (FA 2 rfl fo32_2 rfl) <| rS (L1 (Value.slice nA d.Needs.length nC) 0 rfl tk26 rfl rfl) <| rS (LN rfl ut26) <| rS (BI rfl b_gtr) <| rS (PK rfl) <| rS (MV rfl) ?_
 refine r_bool (t := 25) rfl (fun h25 => ?_) (fun h25 => ?_)
 · replace h25 := DT h25
   refine rS (OX rfl) <| rS (OX rfl) <| rS (OX rfl) <| rS (OX rfl) <| rS (OX rfl) <| rS (PK rfl) <| rS (MV rfl) <| rS (OX rfl) <| rS (OX rfl) <| rS (OX rfl) ?_
   refine rS (OX rfl) <| rS (OX rfl) <| rS (PK rfl) <| RK hK9 <| w_if_true rfl <| WS fun _ hK11 => rS (AG rfl) <| RK hK11 <| w_ret <| Q1 hQ rfl rfl rfl ?_
   first | (refine congrArg (Value.int .i64) ?_; rw [(tr_no h12).2, guardE_bad (tr_no h12).1]) | exact congrArg (Value.int .i64) (guardE_no htr fun q => by have := q.len; omega).symm | exact congrArg (Value.int .i64) (guardE_no htr fun q => by exact absurd q.tower (by simpa using h32)).symm | exact congrArg (Value.int .i64) (guardE_no htr fun q => by exact h32 q.tower).symm | exact congrArg (Value.int .i64) (guardE_no htr fun q => by have := q.radio; omega).symm | exact congrArg (Value.int .i64) (guardE_no htr fun q => by have q1 := q.post i p hp; unfold PostOk at q1; first | omega | exact absurd q1.2.2.1 (by simpa using h68) | exact h68 q1.2.2.1).symm | exact congrArg (Value.int .i64) (guardE_no htr fun q => by rw [needs_any.2 q.need] at h88; cases h88).symm | exact congrArg (Value.int .i64) (guardE_ok htr (guard_yes (by omega) (by simpa using h32) (by omega) hl9_1 (by omega) (needs_any.1 (by simpa using h88)))).symm
 replace h25 := DF h25
 refine rS (MV rfl) <| rS (FA 3 rfl fo32_3 rfl) <| rS (LP (SpotV.cells d.Tower) 0 rfl tk30 rfl rfl rfl) <| rS (CL (pstands_c d.Tower d kA kC pA pC nA nC b2 hin (by first | assumption | omega | (simp; done) | (simp; omega))) (ha_at 1 rfl rfl <| ha_at 2 rfl rfl <| ha_at 3 rfl rfl <| ha_at 0 rfl rfl <| ha_nil) rfl) <| rS (NT rfl) <| rS (PK rfl) <| rS (MV rfl) ?_
 refine r_bool (t := 32) rfl (fun h32 => ?_) (fun h32 => ?_)
 · replace h32 := XT h32
   refine rS (OX rfl) <| rS (OX rfl) <| rS (OX rfl) <| rS (OX rfl) <| rS (OX rfl) <| rS (PK rfl) <| RK hK9 <| w_if_true rfl <| WS fun _ hK12 => rS (AG rfl) ?_
   refine RK hK12 <| w_ret <| Q1 hQ rfl rfl rfl ?_
   first | (refine congrArg (Value.int .i64) ?_; rw [(tr_no h12).2, guardE_bad (tr_no h12).1]) | exact congrArg (Value.int .i64) (guardE_no htr fun q => by have := q.len; omega).symm | exact congrArg (Value.int .i64) (guardE_no htr fun q => by exact absurd q.tower (by simpa using h32)).symm | exact congrArg (Value.int .i64) (guardE_no htr fun q => by exact h32 q.tower).symm | exact congrArg (Value.int .i64) (guardE_no htr fun q => by have := q.radio; omega).symm | exact congrArg (Value.int .i64) (guardE_no htr fun q => by have q1 := q.post i p hp; unfold PostOk at q1; first | omega | exact absurd q1.2.2.1 (by simpa using h68) | exact h68 q1.2.2.1).symm | exact congrArg (Value.int .i64) (guardE_no htr fun q => by rw [needs_any.2 q.need] at h88; cases h88).symm | exact congrArg (Value.int .i64) (guardE_ok htr (guard_yes (by omega) (by simpa using h32) (by omega) hl9_1 (by omega) (needs_any.1 (by simpa using h88)))).symm
 replace h32 := XF h32
 refine rS (FA 6 rfl fo32_4 rfl) <| rS (L1 (Value.int .i64 d.Radio) 0 rfl tk3 rfl rfl) <| r_bs (xs := [.tmp 34]) (cs := [(Value.int .i64 d.Radio)]) rfl te33 tz3 rfl rfl rfl rfl (by simp [Value.cells]) rfl rfl fun b13 => rS (CL (FnV.eq (in_post 0 400000 ([d.Radio]) (some ⟨b13, 0, none⟩) 1 (by first | assumption | omega | (simp; done) | (simp; omega))) inAll_one) (ha_cons (has_rd_blk 0 rfl rfl (by simp [iC_length]) rfl) <| ha_nil) rfl) <| rS (NT rfl) <| rS (PK rfl) <| RK hK9 ?_
 refine w_if rfl (fun h38 => ?_) (fun h38 => ?_)
 · replace h38 := XT h38
   refine WS fun _ hK14 => rS (AG rfl) <| RK hK14 <| w_ret <| Q1 hQ rfl rfl rfl ?_
   first | (refine congrArg (Value.int .i64) ?_; rw [(tr_no h12).2, guardE_bad (tr_no h12).1]) | exact congrArg (Value.int .i64) (guardE_no htr fun q => by have := q.len; omega).symm | exact congrArg (Value.int .i64) (guardE_no htr fun q => by exact absurd q.tower (by simpa using h32)).symm | exact congrArg (Value.int .i64) (guardE_no htr fun q => by exact h32 q.tower).symm | exact congrArg (Value.int .i64) (guardE_no htr fun q => by have := q.radio; omega).symm | exact congrArg (Value.int .i64) (guardE_no htr fun q => by have q1 := q.post i p hp; unfold PostOk at q1; first | omega | exact absurd q1.2.2.1 (by simpa using h68) | exact h68 q1.2.2.1).symm | exact congrArg (Value.int .i64) (guardE_no htr fun q => by rw [needs_any.2 q.need] at h88; cases h88).symm | exact congrArg (Value.int .i64) (guardE_ok htr (guard_yes (by omega) (by simpa using h32) (by omega) hl9_1 (by omega) (needs_any.1 (by simpa using h88)))).symm
 replace h38 := XF h38
 refine WK hK8 <| WS fun _ hK15 => rS (AG rfl) <| RK hK15 <| w_seq fun _ hK16 => WS fun _ hK17 => rS (FA 1 rfl fo32_1 rfl) <| rS (L1 (Value.slice pA d.Posts.length pC) 1 rfl tk25 rfl rfl) <| rS (LN rfl ut25) <| rS (MV rfl) ?_
 refine RK hK17 <| w_block ?_
 have hinit : (0 ≤ d.Posts.length) ∧ (PostsTo d 0) := by exact ⟨Nat.zero_le _, posts_zero⟩
 have hb18 : (Value.int .i64 (prevId d.Posts 0)) = (Value.int .i64 (-1)) := by rw [prevId_zero rfl]
 refine w_loop (ι := { z : Nat // (z ≤ d.Posts.length) ∧ (PostsTo d z) }) (fun z => [(1, (Value.pointer (some ⟨b2, 0, none⟩))), (4, (Value.func (.func 65) [].toArray [(Value.pointer (some ⟨b2, 0, none⟩))].toArray)), (5, (Value.int .i64 (prevId d.Posts z.1))), (40, (Value.slice pA d.Posts.length pC)), (41, (Value.int .i64 ((d.Posts.length : Nat) : Int))), (42, (Value.int .i64 ((z.1 : Nat) : Int)))]) (fun z => [(blk b2 32 (GuardV.cells (GuardV.mk (TrackV.mk (Slc.mk kA d.Track.length kC)) (Slc.mk pA d.Posts.length pC) (Slc.mk nA d.Needs.length nC) d.Tower d.Radio))), (rd kA d.Track.length 9 (d.Track.map StretchV.cells)).ro, (rd pA d.Posts.length 7 (d.Posts.map PostV.cells)).ro, (rd nA d.Needs.length 3 (d.Needs.map NeedV.cells)).ro]) (fun z => d.Posts.length - z.1) ⟨0, hinit⟩ (Sub.cons rfl <| Sub.cons rfl <| sub_val rfl hb18 <| Sub.cons rfl <| Sub.cons rfl <| Sub.cons rfl <| Sub.nil _) (fun w hs => St.sel [1, 2, 3, 4] rfl rfl hs) ?_
 clear hinit
 rintro ⟨i, ⟨hl9_0, hl9_1⟩⟩ J19 hJ19
 try dsimp only
 refine WS fun _ hK20 => rS (BI rfl b_lss) <| RK hK20 <| w_seq fun _ hK21 => ?_
 refine w_if rfl (fun h22 => ?_) (fun h22 => ?_)
 rotate_left 1
 · replace h22 := DF h22
   refine w_exit <| k_exit_then <| k_exit_then <| k_exit_same <| KK hK16 <| w_seq fun _ hK39 => WS fun _ hK40 => rS (FA 2 rfl fo32_2 rfl) <| rS (L1 (Value.slice nA d.Needs.length nC) 0 rfl tk26 rfl rfl) <| rS (FU rfl) ?_
   refine rS (CL (containsnd_c d.Needs nA nC (Value.func (.func 68) [].toArray [(Value.pointer (some ⟨b2, 0, none⟩))].toArray) (fun u41 => (!(decide (NeedOk d.Track u41)))) (bun [(rd kA d.Track.length 9 (d.Track.map StretchV.cells)), (rd pA d.Posts.length 7 (d.Posts.map PostV.cells)), (rd nA d.Needs.length 3 (d.Needs.map NeedV.cells)), (blk b2 32 (GuardV.cells (GuardV.mk (TrackV.mk (Slc.mk kA d.Track.length kC)) (Slc.mk pA d.Posts.length pC) (Slc.mk nA d.Needs.length nC) d.Tower d.Radio)))]) (by intro u41 hmem; exact clo_of (fi := []) (ca := [(Value.pointer (some ⟨b2, 0, none⟩))]) (fnV_bun (pneed_c u41 d kA kC pA pC nA nC b2 (by first | assumption | exact hnk _ hmem | omega) (by first | assumption | exact hnk _ hmem | omega)) (ha_at 0 rfl rfl <| ha_at 1 rfl rfl <| ha_at 2 rfl rfl <| ha_at 3 rfl rfl <| ha_nil))) (by first | assumption | omega | (simp; done) | (simp; omega))) (ha_at 3 rfl rfl <| ha_cons (has_bun (ha_at 1 rfl rfl <| ha_at 2 rfl rfl <| ha_at 3 rfl rfl <| ha_at 0 rfl rfl <| ha_nil)) <| ha_nil) rfl) <| RK hK40 ?_
   refine w_if rfl (fun h88 => ?_) (fun h88 => ?_)
   · refine WS fun _ hK42 => ?_
     refine rS (AG rfl) <| RK hK42 <| w_ret <| Q1 hQ rfl rfl rfl ?_
     first | (refine congrArg (Value.int .i64) ?_; rw [(tr_no h12).2, guardE_bad (tr_no h12).1]) | exact congrArg (Value.int .i64) (guardE_no htr fun q => by have := q.len; omega).symm | exact congrArg (Value.int .i64) (guardE_no htr fun q => by exact absurd q.tower (by simpa using h32)).symm | exact congrArg (Value.int .i64) (guardE_no htr fun q => by exact h32 q.tower).symm | exact congrArg (Value.int .i64) (guardE_no htr fun q => by have := q.radio; omega).symm | exact congrArg (Value.int .i64) (guardE_no htr fun q => by have q1 := q.post i p hp; unfold PostOk at q1; first | omega | exact absurd q1.2.2.1 (by simpa using h68) | exact h68 q1.2.2.1).symm | exact congrArg (Value.int .i64) (guardE_no htr fun q => by rw [needs_any.2 q.need] at h88; cases h88).symm | exact congrArg (Value.int .i64) (guardE_ok htr (guard_yes (by omega) (by simpa using h32) (by omega) hl9_1 (by omega) (needs_any.1 (by simpa using h88)))).symm
   refine WK hK39 <| WS fun _ hK43 => rS (AG rfl) <| RK hK43 <| w_ret <| Q1 hQ rfl rfl rfl ?_
   first | (refine congrArg (Value.int .i64) ?_; rw [(tr_no h12).2, guardE_bad (tr_no h12).1]) | exact congrArg (Value.int .i64) (guardE_no htr fun q => by have := q.len; omega).symm | exact congrArg (Value.int .i64) (guardE_no htr fun q => by exact absurd q.tower (by simpa using h32)).symm | exact congrArg (Value.int .i64) (guardE_no htr fun q => by exact h32 q.tower).symm | exact congrArg (Value.int .i64) (guardE_no htr fun q => by have := q.radio; omega).symm | exact congrArg (Value.int .i64) (guardE_no htr fun q => by have q1 := q.post i p hp; unfold PostOk at q1; first | omega | exact absurd q1.2.2.1 (by simpa using h68) | exact h68 q1.2.2.1).symm | exact congrArg (Value.int .i64) (guardE_no htr fun q => by rw [needs_any.2 q.need] at h88; cases h88).symm | exact congrArg (Value.int .i64) (guardE_ok htr (guard_yes (by omega) (by simpa using h32) (by omega) hl9_1 (by omega) (needs_any.1 (by simpa using h88)))).symm
 replace h22 := DT h22
 refine WK hK21 <| w_seq fun _ hK23 => w_block <| WS fun _ hK24 => ?_
 obtain ⟨p, hp⟩ : ∃ y_, d.Posts[i]? = some y_ := ⟨d.Posts[i]'(by omega), List.getElem?_eq_getElem _⟩
 have hpm : (d.Posts.map PostV.cells)[i]? = some (PostV.cells p) := by rw [List.getElem?_map, hp]; rfl
 refine rS (IA i rfl (has_at 2 rfl) te25 (by decide) (by omega) (by omega)) <| rS (LEN i 0 (PostV.cells p) rfl tk62 (has_at 2 rfl) hpm rfl (by decide) rfl rfl) <| AL rfl tz62 fun b25 => SW0 rfl ts62 rfl <| RK hK24 <| w_seq fun _ hK26 => WS fun _ hK27 => ?_
 have hpb := prevId_b hl9_0 hl9_1
 have hpkk := hpk p (List.mem_of_getElem? hp)
 refine rS (MV rfl) <| rS (BI rfl (b_add ⟨by omega, by omega⟩)) <| rS (FA 0 rfl fo62_0 rfl) <| rS (L1 (Value.int .i64 p.Id) 0 rfl tk3 rfl rfl) <| r_bs (xs := [.tmp 49]) (cs := [(Value.int .i64 p.Id)]) rfl te33 tz3 rfl rfl rfl rfl (by simp [Value.cells]) rfl rfl fun b28 => rS (CL (FnV.eq (in_post ((prevId d.Posts i) + 1) 9999 ([p.Id]) (some ⟨b28, 0, none⟩) 1 (by first | assumption | omega | (simp; done) | (simp; omega))) inAll_one) (ha_cons (has_rd_blk 0 rfl rfl (by simp [iC_length]) rfl) <| ha_nil) rfl) <| rS (NT rfl) <| rS (MV rfl) ?_
 refine r_bool (t := 53) rfl (fun h53 => ?_) (fun h53 => ?_)
 · replace h53 := XT h53
   refine rS (OX rfl) <| rS (OX rfl) <| rS (OX rfl) <| rS (OX rfl) <| rS (OX rfl) <| rS (OX rfl) <| rS (PK rfl) <| rS (MV rfl) <| rS (OX rfl) <| rS (OX rfl) ?_
   refine rS (OX rfl) <| rS (OX rfl) <| rS (OX rfl) <| rS (PK rfl) <| rS (MV rfl) <| rS (OX rfl) <| rS (OX rfl) <| rS (OX rfl) <| rS (OX rfl) <| rS (OX rfl) ?_
   refine rS (PK rfl) <| rS (MV rfl) <| rS (OX rfl) <| rS (OX rfl) <| rS (OX rfl) <| rS (OX rfl) <| rS (OX rfl) <| rS (PK rfl) <| RK hK27 <| w_if_true rfl ?_
   refine WS fun _ hK29 => rS (AG rfl) <| RK hK29 <| w_ret <| Q1 hQ rfl rfl rfl ?_
   first | (refine congrArg (Value.int .i64) ?_; rw [(tr_no h12).2, guardE_bad (tr_no h12).1]) | exact congrArg (Value.int .i64) (guardE_no htr fun q => by have := q.len; omega).symm | exact congrArg (Value.int .i64) (guardE_no htr fun q => by exact absurd q.tower (by simpa using h32)).symm | exact congrArg (Value.int .i64) (guardE_no htr fun q => by exact h32 q.tower).symm | exact congrArg (Value.int .i64) (guardE_no htr fun q => by have := q.radio; omega).symm | exact congrArg (Value.int .i64) (guardE_no htr fun q => by have q1 := q.post i p hp; unfold PostOk at q1; first | omega | exact absurd q1.2.2.1 (by simpa using h68) | exact h68 q1.2.2.1).symm | exact congrArg (Value.int .i64) (guardE_no htr fun q => by rw [needs_any.2 q.need] at h88; cases h88).symm | exact congrArg (Value.int .i64) (guardE_ok htr (guard_yes (by omega) (by simpa using h32) (by omega) hl9_1 (by omega) (needs_any.1 (by simpa using h88)))).symm
 replace h53 := XF h53
 refine rS (FA 1 rfl fo62_1 rfl) <| rS (L1 (Value.int .u8 p.Kind) 1 rfl tk5 rfl rfl) <| rS (SX (sd_conv (m := p.Kind) rfl rfl ut5 ut3 (wrap_u8_i64 (by first | assumption | omega))) rfl rfl) <| r_bs (xs := [.tmp 56]) (cs := [(Value.int .i64 p.Kind)]) rfl te33 tz3 rfl rfl rfl rfl (by simp [Value.cells]) rfl rfl fun b30 => rS (CL (FnV.eq (in_post 1 3 ([p.Kind]) (some ⟨b30, 0, none⟩) 1 (by first | assumption | omega | (simp; done) | (simp; omega))) inAll_one) (ha_cons (has_rd_blk 0 rfl rfl (by simp [iC_length]) rfl) <| ha_nil) rfl) <| rS (NT rfl) <| rS (PK rfl) <| rS (MV rfl) ?_
 refine r_bool (t := 61) rfl (fun h61 => ?_) (fun h61 => ?_)
 · replace h61 := XT h61
   refine rS (OX rfl) <| rS (OX rfl) <| rS (OX rfl) <| rS (OX rfl) <| rS (OX rfl) <| rS (PK rfl) <| rS (MV rfl) <| rS (OX rfl) <| rS (OX rfl) <| rS (OX rfl) ?_
   refine rS (OX rfl) <| rS (OX rfl) <| rS (PK rfl) <| rS (MV rfl) <| rS (OX rfl) <| rS (OX rfl) <| rS (OX rfl) <| rS (OX rfl) <| rS (OX rfl) <| rS (PK rfl) ?_
   refine RK hK27 <| w_if_true rfl <| WS fun _ hK31 => rS (AG rfl) <| RK hK31 <| w_ret <| Q1 hQ rfl rfl rfl ?_
   first | (refine congrArg (Value.int .i64) ?_; rw [(tr_no h12).2, guardE_bad (tr_no h12).1]) | exact congrArg (Value.int .i64) (guardE_no htr fun q => by have := q.len; omega).symm | exact congrArg (Value.int .i64) (guardE_no htr fun q => by exact absurd q.tower (by simpa using h32)).symm | exact congrArg (Value.int .i64) (guardE_no htr fun q => by exact h32 q.tower).symm | exact congrArg (Value.int .i64) (guardE_no htr fun q => by have := q.radio; omega).symm | exact congrArg (Value.int .i64) (guardE_no htr fun q => by have q1 := q.post i p hp; unfold PostOk at q1; first | omega | exact absurd q1.2.2.1 (by simpa using h68) | exact h68 q1.2.2.1).symm | exact congrArg (Value.int .i64) (guardE_no htr fun q => by rw [needs_any.2 q.need] at h88; cases h88).symm | exact congrArg (Value.int .i64) (guardE_ok htr (guard_yes (by omega) (by simpa using h32) (by omega) hl9_1 (by omega) (needs_any.1 (by simpa using h88)))).symm
 replace h61 := XF h61
 refine rS (MV rfl) <| rS (FA 2 rfl fo62_2 rfl) <| rS (LP (SpotV.cells p.Spot) 2 rfl tk30 rfl rfl rfl) <| rS (CL (pstands_c p.Spot d kA kC pA pC nA nC b2 hin (by first | assumption | omega | (simp; done) | (simp; omega))) (ha_at 4 rfl rfl <| ha_at 5 rfl rfl <| ha_at 6 rfl rfl <| ha_at 3 rfl rfl <| ha_nil) rfl) <| rS (NT rfl) <| rS (PK rfl) <| rS (MV rfl) ?_
 refine r_bool (t := 68) rfl (fun h68 => ?_) (fun h68 => ?_)
 · replace h68 := XT h68
   refine rS (OX rfl) <| rS (OX rfl) <| rS (OX rfl) <| rS (OX rfl) <| rS (OX rfl) <| rS (PK rfl) <| rS (MV rfl) <| rS (OX rfl) <| rS (OX rfl) <| rS (OX rfl) ?_
   refine rS (OX rfl) <| rS (OX rfl) <| rS (PK rfl) <| RK hK27 <| w_if_true rfl <| WS fun _ hK32 => rS (AG rfl) <| RK hK32 <| w_ret <| Q1 hQ rfl rfl rfl ?_
   first | (refine congrArg (Value.int .i64) ?_; rw [(tr_no h12).2, guardE_bad (tr_no h12).1]) | exact congrArg (Value.int .i64) (guardE_no htr fun q => by have := q.len; omega).symm | exact congrArg (Value.int .i64) (guardE_no htr fun q => by exact absurd q.tower (by simpa using h32)).symm | exact congrArg (Value.int .i64) (guardE_no htr fun q => by exact h32 q.tower).symm | exact congrArg (Value.int .i64) (guardE_no htr fun q => by have := q.radio; omega).symm | exact congrArg (Value.int .i64) (guardE_no htr fun q => by have q1 := q.post i p hp; unfold PostOk at q1; first | omega | exact absurd q1.2.2.1 (by simpa using h68) | exact h68 q1.2.2.1).symm | exact congrArg (Value.int .i64) (guardE_no htr fun q => by rw [needs_any.2 q.need] at h88; cases h88).symm | exact congrArg (Value.int .i64) (guardE_ok htr (guard_yes (by omega) (by simpa using h32) (by omega) hl9_1 (by omega) (needs_any.1 (by simpa using h88)))).symm
 replace h68 := XF h68
 refine rS (FA 5 rfl fo62_3 rfl) <| rS (L1 (Value.int .i64 p.Delay) 2 rfl tk3 rfl rfl) <| r_bs (xs := [.tmp 70]) (cs := [(Value.int .i64 p.Delay)]) rfl te33 tz3 rfl rfl rfl rfl (by simp [Value.cells]) rfl rfl fun b33 => rS (CL (FnV.eq (in_post 0 36000 ([p.Delay]) (some ⟨b33, 0, none⟩) 1 (by first | assumption | omega | (simp; done) | (simp; omega))) inAll_one) (ha_cons (has_rd_blk 0 rfl rfl (by simp [iC_length]) rfl) <| ha_nil) rfl) <| rS (NT rfl) <| rS (PK rfl) <| rS (MV rfl) ?_
 refine r_bool (t := 75) rfl (fun h75 => ?_) (fun h75 => ?_)
 · replace h75 := XT h75
   refine rS (OX rfl) <| rS (OX rfl) <| rS (OX rfl) <| rS (OX rfl) <| rS (OX rfl) <| rS (PK rfl) <| RK hK27 <| w_if_true rfl <| WS fun _ hK34 => rS (AG rfl) ?_
   refine RK hK34 <| w_ret <| Q1 hQ rfl rfl rfl ?_
   first | (refine congrArg (Value.int .i64) ?_; rw [(tr_no h12).2, guardE_bad (tr_no h12).1]) | exact congrArg (Value.int .i64) (guardE_no htr fun q => by have := q.len; omega).symm | exact congrArg (Value.int .i64) (guardE_no htr fun q => by exact absurd q.tower (by simpa using h32)).symm | exact congrArg (Value.int .i64) (guardE_no htr fun q => by exact h32 q.tower).symm | exact congrArg (Value.int .i64) (guardE_no htr fun q => by have := q.radio; omega).symm | exact congrArg (Value.int .i64) (guardE_no htr fun q => by have q1 := q.post i p hp; unfold PostOk at q1; first | omega | exact absurd q1.2.2.1 (by simpa using h68) | exact h68 q1.2.2.1).symm | exact congrArg (Value.int .i64) (guardE_no htr fun q => by rw [needs_any.2 q.need] at h88; cases h88).symm | exact congrArg (Value.int .i64) (guardE_ok htr (guard_yes (by omega) (by simpa using h32) (by omega) hl9_1 (by omega) (needs_any.1 (by simpa using h88)))).symm
 replace h75 := XF h75
 refine rS (FA 6 rfl fo62_4 rfl) <| rS (L1 (Value.int .i64 p.Pace) 3 rfl tk3 rfl rfl) <| r_bs (xs := [.tmp 77]) (cs := [(Value.int .i64 p.Pace)]) rfl te33 tz3 rfl rfl rfl rfl (by simp [Value.cells]) rfl rfl fun b35 => rS (CL (FnV.eq (in_post 1 1000 ([p.Pace]) (some ⟨b35, 0, none⟩) 1 (by first | assumption | omega | (simp; done) | (simp; omega))) inAll_one) (ha_cons (has_rd_blk 0 rfl rfl (by simp [iC_length]) rfl) <| ha_nil) rfl) <| rS (NT rfl) <| rS (PK rfl) <| RK hK27 ?_
 refine w_if rfl (fun h81 => ?_) (fun h81 => ?_)
 rotate_left 1
 · replace h81 := XF h81
   refine WK hK26 <| w_region <| rS (FA 0 rfl fo62_0 rfl) <| rS (L1 (Value.int .i64 p.Id) 4 rfl tk3 rfl rfl) <| rS (AG rfl) <| r_nil <| k_block <| KK hK23 <| w_region <| rS (BI rfl (b_add ⟨by omega, by omega⟩)) ?_
   refine rS (MV rfl) <| r_nil ?_
   have hb37 : (Value.int .i64 (prevId d.Posts (i + 1))) = (Value.int .i64 p.Id) := by rw [prevId_succ hp]
   have hb38 : (Value.int .i64 (((i + 1) : Nat) : Int)) = (Value.int .i64 (((i : Nat) : Int) + 1)) := by exact congrArg (Value.int .i64) (by omega)
   refine k_then (hJ19 ⟨(i + 1), ⟨by omega, posts_succ hl9_1 hp (by unfold PostOk; exact ⟨by omega, by omega, by simpa using h68, by omega, by omega⟩)⟩⟩ _ _ _ rfl (by first | omega | (simp; omega)) (Sub.cons rfl <| Sub.cons rfl <| sub_val rfl hb37 <| Sub.cons rfl <| Sub.cons rfl <| sub_val rfl hb38 <| Sub.nil _) (fun w hs => St.sel [5, 6, 7, 8] rfl rfl hs))
 replace h81 := XT h81
 refine WS fun _ hK36 => rS (AG rfl) <| RK hK36 <| w_ret <| Q1 hQ rfl rfl rfl ?_
 first | (refine congrArg (Value.int .i64) ?_; rw [(tr_no h12).2, guardE_bad (tr_no h12).1]) | exact congrArg (Value.int .i64) (guardE_no htr fun q => by have := q.len; omega).symm | exact congrArg (Value.int .i64) (guardE_no htr fun q => by exact absurd q.tower (by simpa using h32)).symm | exact congrArg (Value.int .i64) (guardE_no htr fun q => by exact h32 q.tower).symm | exact congrArg (Value.int .i64) (guardE_no htr fun q => by have := q.radio; omega).symm | exact congrArg (Value.int .i64) (guardE_no htr fun q => by have q1 := q.post i p hp; unfold PostOk at q1; first | omega | exact absurd q1.2.2.1 (by simpa using h68) | exact h68 q1.2.2.1).symm | exact congrArg (Value.int .i64) (guardE_no htr fun q => by rw [needs_any.2 q.need] at h88; cases h88).symm | exact congrArg (Value.int .i64) (guardE_ok htr (guard_yes (by omega) (by simpa using h32) (by omega) hl9_1 (by omega) (needs_any.1 (by simpa using h88)))).symm
end
section
open Go.RowKit
set_option linter.unusedVariables false
set_option maxRecDepth 100000 in
set_option maxHeartbeats 400000 in
theorem greatest_c (l : List Int) (lA : Option Addr) (lC : Nat) (hl : ∀ x ∈ l, -1000000000 ≤ x ∧ x ≤ 1000000000) (hlen : l.length ≤ 1000000) :
    FnV Try.prog 109 [(Value.slice lA l.length lC)] [(rd lA l.length 1 (l.map iC))] (Value.int .i64 (greatF l)) := by
 refine fnV_of go109 Try.func109 rfl rfl fun w0 Q hQ hN => ?_
 try dsimp only
 refine WS fun _ hK1 => rS (AG rfl) <| RK hK1 <| WS fun _ hK2 => rS (AG rfl) <| RK hK2 <| w_seq fun _ hK3 => WS fun _ hK4 => rS (MV rfl) <| rS (LN rfl ut33) ?_
 refine rS (MV rfl) <| RK hK4 <| w_block ?_
 have hinit : (0 ≤ l.length) := by exact Nat.zero_le _
 have hb5 : (Value.int .i64 (greatF (l.take 0))) = (Value.int .i64 0) := by rfl
 refine w_loop (ι := { z : Nat // (z ≤ l.length) }) (fun z => [(3, (Value.int .i64 (greatF (l.take z.1)))), (6, (Value.slice lA l.length lC)), (7, (Value.int .i64 ((l.length : Nat) : Int))), (8, (Value.int .i64 ((z.1 : Nat) : Int)))]) (fun z => [(rd lA l.length 1 (l.map iC)).ro]) (fun z => l.length - z.1) ⟨0, hinit⟩ (sub_val rfl hb5 <| Sub.cons rfl <| Sub.cons rfl <| Sub.cons rfl <| Sub.nil _) (fun w hs => St.sel [0] rfl rfl hs) ?_
 clear hinit
 rintro ⟨i, hl3_0⟩ J6 hJ6
 try dsimp only
 refine WS fun _ hK7 => rS (BI rfl b_lss) <| RK hK7 <| w_seq fun _ hK8 => ?_
 refine w_if rfl (fun h9 => ?_) (fun h9 => ?_)
 rotate_left 1
 · replace h9 := DF h9
   refine w_exit <| k_exit_then <| k_exit_then <| k_exit_same <| KK hK3 <| WS fun _ hK14 => rS (MV rfl) <| rS (AG rfl) <| RK hK14 <| w_ret ?_
   refine Q1 hQ rfl rfl rfl ?_
   rw [List.take_of_length_le (by omega)]
 replace h9 := DT h9
 refine WK hK8 <| w_seq fun _ hK10 => w_block <| WS fun _ hK11 => ?_
 obtain ⟨x, hx⟩ : ∃ y_, l[i]? = some y_ := ⟨l[i]'(by omega), List.getElem?_eq_getElem _⟩
 have hxm : (l.map iC)[i]? = some (iC x) := by rw [List.getElem?_map, hx]; rfl
 refine rS (IA i rfl (has_at 0 rfl) te33 (by decide) (by omega) (by omega)) <| rS (LE1 i 0 (Value.int .i64 x) rfl tk3 (has_at 0 rfl) hxm rfl (by decide) rfl) <| rS (AG rfl) <| RK hK11 <| w_region ?_
 have hxb := hl x (List.mem_of_getElem? hx)
 refine rS (MV rfl) <| rS (MV rfl) <| rS (MV rfl) <| rS (NG rfl ⟨by omega, by omega⟩) <| rS (SX (sd_max3 rfl rfl rfl rfl) rfl rfl) <| rS (AG rfl) <| r_nil <| k_block <| KK hK10 <| w_region ?_
 refine rS (BI rfl (b_add ⟨by omega, by omega⟩)) <| rS (MV rfl) <| r_nil ?_
 have hb12 : (Value.int .i64 (greatF (l.take (i + 1)))) = (Value.int .i64 (max (max (greatF (l.take i)) x) (-x))) := by rw [great_take hx]
 have hb13 : (Value.int .i64 (((i + 1) : Nat) : Int)) = (Value.int .i64 (((i : Nat) : Int) + 1)) := by exact congrArg (Value.int .i64) (by omega)
 refine k_then (hJ6 ⟨(i + 1), (by first | omega | (simp only []; omega))⟩ _ _ _ rfl (by first | omega | (simp; omega)) (sub_val rfl hb12 <| Sub.cons rfl <| Sub.cons rfl <| sub_val rfl hb13 <| Sub.nil _) (fun w hs => St.sel [0] rfl rfl hs))
set_option maxRecDepth 100000 in
set_option maxHeartbeats 400000 in
theorem begin_c (ts : List StretchV) (tsA : Option Addr) (tsC : Nat) (s : SpotV) (k : Int) (hlen : ts.length ≤ 1000000) (hside : ∀ x ∈ ts, 0 ≤ x.Side ∧ x.Side ≤ 255) (htr : trackOk ts = true) (hs : SpotOk ts s) (hk : 0 ≤ k ∧ k < (ts.length : Int)) :
    FnV Try.prog 108 [(Value.agg (TrackV.cells (TrackV.mk (Slc.mk tsA ts.length tsC))).toArray), (Value.agg (SpotV.cells s).toArray), (Value.int .i64 k)] [(rd tsA ts.length 9 (ts.map StretchV.cells))] (Value.int .i64 (markF ts s k)) := by
 refine fnV_of go108 Try.func108 rfl rfl fun w0 Q hQ hN => ?_
 try dsimp only
 refine WS fun _ hK1 => BXA rfl fun b2 => BXA rfl fun b3 => rS (AG rfl) <| RK hK1 <| WS fun _ hK4 => rS (LW 1 rfl tk24 rfl rfl) <| rS (LW 0 rfl tk30 rfl rfl) <| rS (MV rfl) <| rS (SX (sd_build (xs := [(0, .tmp 12)]) (cs := (SpotV.cells (SpotV.mk k (SpanV.mk 0 0)))) rfl rfl (built_of tb30 rfl)) rfl rfl) ?_
 refine rS (CL (Apart_c ts tsA tsC s (SpotV.mk k (SpanV.mk 0 0)) hlen hside) (ha_at 2 rfl rfl <| ha_nil) rfl) <| rS (MV rfl) <| rS (EX rfl) <| rS (EX rfl) <| AL rfl tz28 fun b5 => SW0 rfl ts28 rfl <| rS (AG rfl) <| RK hK4 <| WS fun _ hK6 => ?_
 have hap := apart_in htr ⟨hs, begin_ok htr hk⟩
 have hab := apartF_b (trackOk_all htr) (trackOk_le htr) hs (begin_ok htr hk)
 have hbm := begin_mark htr hs hk
 rw [← hap.2] at hab hbm
 refine rS (FA 0 rfl fo28_0 rfl) <| rS (L1 (Value.int .i64 ((apartV ts s (SpotV.mk k (SpanV.mk 0 0))).Lo)) 0 rfl tk3 rfl rfl) <| rS (FA 1 rfl fo28_1 rfl) <| rS (L1 (Value.int .i64 ((apartV ts s (SpotV.mk k (SpanV.mk 0 0))).Hi)) 0 rfl tk3 rfl rfl) <| r_bs (xs := [.tmp 18, .tmp 20]) (cs := [(Value.int .i64 ((apartV ts s (SpotV.mk k (SpanV.mk 0 0))).Lo)), (Value.int .i64 ((apartV ts s (SpotV.mk k (SpanV.mk 0 0))).Hi))]) rfl te33 tz3 rfl rfl rfl rfl (by simp [Value.cells]) rfl rfl fun b7 => rS (CL (greatest_c ([(apartV ts s (SpotV.mk k (SpanV.mk 0 0))).Lo, (apartV ts s (SpotV.mk k (SpanV.mk 0 0))).Hi]) (some ⟨b7, 0, none⟩) 2 (by intro x hx; simp only [List.mem_cons, List.not_mem_nil, or_false] at hx; omega) (by simp)) (ha_cons (has_rd_blk 0 rfl rfl (by simp [iC_length]) rfl) <| ha_nil) rfl) <| rS (AG rfl) <| RK hK6 <| w_ret <| Q1 hQ rfl rfl rfl ?_
 exact congrArg (Value.int .i64) hbm
set_option maxRecDepth 100000 in
set_option maxHeartbeats 400000 in
theorem end2_c (ts : List StretchV) (tsA : Option Addr) (tsC : Nat) (s : SpotV) (k : Int) (g1 : Nat) (hlen : ts.length ≤ 1000000) (hside : ∀ x ∈ ts, 0 ≤ x.Side ∧ x.Side ≤ 255) (htr : trackOk ts = true) (hs : SpotOk ts s) (hk : 0 ≤ k ∧ k < (ts.length : Int)) :
    FnV Try.prog 110 [(Value.agg (TrackV.cells (TrackV.mk (Slc.mk tsA ts.length tsC))).toArray), (Value.agg (SpotV.cells s).toArray), (Value.int .i64 k), (Value.pointer (some ⟨g1, 0, none⟩))] [(rd tsA ts.length 9 (ts.map StretchV.cells)), (blk g1 82 [(Value.func (.func 108) [].toArray [].toArray)])] (Value.int .i64 (markF ts s (k + 1))) := by
 have hl12 := trackOk_le htr
 have hsb := hs.1
 have hob := spot_b (trackOk_all htr) hs
 refine fnV_of go110 Try.func110 rfl rfl fun w0 Q hQ hN => ?_
 try dsimp only
 refine WS fun _ hK1 => BXA rfl fun b2 => BXA rfl fun b3 => rS (AG rfl) <| RK hK1 <| w_seq fun _ hK4 => WS fun _ hK5 => rS (MV rfl) <| rS (BI rfl (b_add ⟨by omega, by omega⟩)) <| rS (FA 0 rfl fo24_0 rfl) ?_
 refine rS (L1 (Value.slice tsA ts.length tsC) 1 rfl tk22 rfl rfl) <| rS (LN rfl ut22) <| rS (BI rfl b_lss) <| RK hK5 ?_
 refine w_if rfl (fun h16 => ?_) (fun h16 => ?_)
 · replace h16 := DT h16
   refine WS fun _ hK6 => rS (L1Q 3 rfl tk82 rfl) <| rS (LW 1 rfl tk24 rfl rfl) <| rS (LW 0 rfl tk30 rfl rfl) <| rS (MV rfl) <| rS (BI rfl (b_add ⟨by omega, by omega⟩)) <| rS (CL (begin_c ts tsA tsC s (k + 1) hlen hside htr hs (by first | assumption | omega | (simp; done) | (simp; omega))) (ha_at 2 rfl rfl <| ha_nil) rfl) <| rS (AG rfl) <| RK hK6 <| w_ret ?_
   refine Q1 hQ rfl rfl rfl ?_
   first | rfl | (refine congrArg (Value.int .i64) ?_; unfold markF; rw [if_neg (by omega), hdr.2.1])
 replace h16 := DF h16
 refine WK hK4 <| WS fun _ hK7 => rS (LW 1 rfl tk24 rfl rfl) <| rS (FA 0 rfl fo30_0 rfl) <| rS (L1 (Value.int .i64 s.Stretch) 0 rfl tk3 rfl rfl) <| rS (MV rfl) <| rS (BI rfl (b_add ⟨by omega, by omega⟩)) <| rS (CL (Drop_c ts tsA tsC s.Stretch (k + 1) hlen hside) (ha_at 2 rfl rfl <| ha_nil) rfl) <| rS (MV rfl) <| rS (EX rfl) ?_
 refine rS (EX rfl) <| rS (EX rfl) <| AL rfl tz28 fun b8 => AL rfl tz28 fun b9 => SW1 rfl ts28 rfl <| SW0 rfl ts28 rfl <| rS (AG rfl) <| RK hK7 <| WS fun _ hK10 => ?_
 have hdr := dropE_in (f := s.Stretch) (t := k + 1) htr ⟨hsb.1, by omega, by omega⟩
 have hlb := longF_b (trackOk_all htr) s.Stretch.toNat (k + 1 - s.Stretch).toNat
 rw [← hdr.2.1] at hlb
 refine rS (FA 1 rfl fo28_1 rfl) <| rS (L1 (Value.int .i64 ((dropL ts s.Stretch (k + 1)).Hi)) 1 rfl tk3 rfl rfl) <| rS (FA 1 rfl fo30_1 rfl) <| rS (FA 1 rfl fo28_0 rfl) <| rS (L1 (Value.int .i64 s.Off.Lo) 2 rfl tk3 rfl rfl) <| rS (BI rfl (b_sub ⟨by omega, by omega⟩)) <| rS (AG rfl) <| RK hK10 <| w_ret <| Q1 hQ rfl rfl rfl ?_
 first | rfl | (refine congrArg (Value.int .i64) ?_; unfold markF; rw [if_neg (by omega), hdr.2.1])
set_option maxRecDepth 100000 in
set_option maxHeartbeats 400000 in
theorem ends_c  :
    FnX Try.prog 88 [] [] (fun (x : Nat) => (Value.agg ((Ends9V.cells (Ends9V.mk (Value.func (.func 108) [].toArray [].toArray))) ++ (Ends9V.cells (Ends9V.mk (Value.func (.func 110) [].toArray [(Value.pointer (some ⟨x, 0, none⟩))].toArray)))).toArray)) (fun (x : Nat) => True) (fun (x : Nat) => [(blk x 82 [(Value.func (.func 108) [].toArray [].toArray)])]) := by
 refine fnX_of go88 Try.func88 rfl rfl fun w0 Q hQ hN => ?_
 try dsimp only
 refine WS fun _ hK1 => AL rfl tz128 fun b2 => RK hK1 <| WS fun _ hK3 => AL rfl tz82 fun b4 => SO0 rfl ts82 rfl rfl <| RK hK3 <| WS fun _ hK5 => rS (L1W 0 rfl tk82 rfl) <| rS (SX (sd_build (xs := [(0, .tmp 2)]) (cs := (Ends9V.cells (Ends9V.mk (Value.func (.func 108) [].toArray [].toArray)))) rfl rfl (built_of tb127 rfl)) rfl rfl) ?_
 refine rS (FU rfl) <| rS (SX (sd_build (xs := [(0, .tmp 4)]) (cs := (Ends9V.cells (Ends9V.mk (Value.func (.func 110) [].toArray [(Value.pointer (some ⟨b4, 0, none⟩))].toArray)))) rfl rfl (built_of tb127 rfl)) rfl rfl) <| rS (SX (sd_build (xs := [(0, .tmp 3), (1, .tmp 5)]) (cs := ((Ends9V.cells (Ends9V.mk (Value.func (.func 108) [].toArray [].toArray))) ++ (Ends9V.cells (Ends9V.mk (Value.func (.func 110) [].toArray [(Value.pointer (some ⟨b4, 0, none⟩))].toArray))))) rfl rfl (built_of tb128 rfl)) rfl rfl) <| SW1 rfl ts128 rfl <| RK hK5 <| w_ret ?_
 refine hQ _ _ _ (l_nil (vs := [(Value.agg ((Ends9V.cells (Ends9V.mk (Value.func (.func 108) [].toArray [].toArray))) ++ (Ends9V.cells (Ends9V.mk (Value.func (.func 110) [].toArray [(Value.pointer (some ⟨b4, 0, none⟩))].toArray)))).toArray)]) ⟨⟨_, rfl, .inl ⟨_, _, tk128, at_blk (vs := ((Ends9V.cells (Ends9V.mk (Value.func (.func 108) [].toArray [].toArray))) ++ (Ends9V.cells (Ends9V.mk (Value.func (.func 110) [].toArray [(Value.pointer (some ⟨b4, 0, none⟩))].toArray))))) 1 rfl rfl, rfl, rfl⟩⟩, trivial⟩ fun w hs => endX b4 [0] ?_ ?_ rfl rfl rfl hs)
 · rfl
 · trivial
set_option maxRecDepth 100000 in
set_option maxHeartbeats 400000 in
theorem pfar_c (ts : List StretchV) (tsA : Option Addr) (tsC : Nat) (s : SpotV) (k : Int) (hlen : ts.length ≤ 1000000) (hside : ∀ x ∈ ts, 0 ≤ x.Side ∧ x.Side ≤ 255) (htr : trackOk ts = true) (hs : SpotOk ts s) (hk : 0 ≤ k ∧ k < (ts.length : Int)) :
    FnV Try.prog 50 [(Value.agg (TrackV.cells (TrackV.mk (Slc.mk tsA ts.length tsC))).toArray), (Value.agg (SpotV.cells s).toArray), (Value.int .i64 k)] [(rd tsA ts.length 9 (ts.map StretchV.cells))] (Value.int .i64 (farF ts s k)) := by
 have hm1 := mark_b htr hs (m := k) (by omega)
 have hm2 := mark_b htr hs (m := k + 1) (by omega)
 refine fnV_of go50 Try.func50 rfl rfl fun w0 Q hQ hN => ?_
 try dsimp only
 refine WS fun _ hK1 => BXA rfl fun b2 => BXA rfl fun b3 => rS (AG rfl) <| RK hK1 <| WS fun _ hK4 => rS (AG rfl) <| RK hK4 <| w_seq fun _ hK5 => WS fun _ hK6 => ?_
 refine cX ends_c (ha_nil) rfl fun eb9 hy8 => ?_
 try dsimp only
 refine rS (MV rfl) <| RK hK6 <| w_block <| w_rounds 3 <| ro_succ fun R10 hR10 => WS fun _ hK11 => rS (SX (sd_bin (r := .bool true) rfl rfl rfl b_lss) rfl rfl) <| RK hK11 <| w_seq fun _ hK12 => w_if_true rfl ?_
 refine WK hK12 <| w_seq fun _ hK13 => w_block <| WS fun _ hK14 => rS (SX (sd_index (vs := (Ends9V.cells (Ends9V.mk (Value.func (.func 108) [].toArray [].toArray)))) 0 rfl rfl rfl tx128 tk127 rfl (by decide) rfl) rfl rfl) <| AL rfl tz127 fun b15 => SW0 rfl ts127 rfl <| RK hK14 <| w_region <| rS (MV rfl) ?_
 refine rS (FA 0 rfl fo127_0 rfl) <| rS (L1 (Value.func (.func 108) [].toArray [].toArray) 0 rfl tk82 rfl rfl) <| rS (LW 3 rfl tk24 rfl rfl) <| rS (LW 2 rfl tk30 rfl rfl) <| rS (MV rfl) <| rS (CL (begin_c ts tsA tsC s k hlen hside htr hs hk) (ha_at 4 rfl rfl <| ha_nil) rfl) <| rS (MX rfl) <| rS (AG rfl) <| r_nil <| k_block ?_
 refine KK hK13 <| w_region <| rS (SX (sd_bin (r := .int .i64 1) rfl rfl rfl (b_add ⟨by decide, by decide⟩)) rfl rfl) <| rS (MV rfl) <| RK hR10 <| ro_succ fun R16 hR16 => WS fun _ hK17 => rS (SX (sd_bin (r := .bool true) rfl rfl rfl b_lss) rfl rfl) <| RK hK17 <| w_seq fun _ hK18 => ?_
 refine w_if_true rfl <| WK hK18 <| w_seq fun _ hK19 => w_block <| WS fun _ hK20 => rS (SX (sd_index (vs := (Ends9V.cells (Ends9V.mk (Value.func (.func 110) [].toArray [(Value.pointer (some ⟨eb9, 0, none⟩))].toArray)))) 1 rfl rfl rfl tx128 tk127 rfl (by decide) rfl) rfl rfl) <| AL rfl tz127 fun b21 => SW0 rfl ts127 rfl <| RK hK20 <| w_region ?_
 refine rS (MV rfl) <| rS (FA 0 rfl fo127_0 rfl) <| rS (L1 (Value.func (.func 110) [].toArray [(Value.pointer (some ⟨eb9, 0, none⟩))].toArray) 0 rfl tk82 rfl rfl) <| rS (LW 4 rfl tk24 rfl rfl) <| rS (LW 3 rfl tk30 rfl rfl) <| rS (MV rfl) <| rS (CL (end2_c ts tsA tsC s k eb9 hlen hside htr hs hk) (ha_at 5 rfl rfl <| ha_at 2 rfl rfl <| ha_nil) rfl) <| rS (MX rfl) <| rS (AG rfl) <| r_nil ?_
 refine k_block <| KK hK19 <| w_region <| rS (SX (sd_bin (r := .int .i64 2) rfl rfl rfl (b_add ⟨by decide, by decide⟩)) rfl rfl) <| rS (MV rfl) <| RK hR16 <| ro_succ fun R22 hR22 => WS fun _ hK23 => rS (SX (sd_bin (r := .bool false) rfl rfl rfl b_lss) rfl rfl) <| RK hK23 ?_
 refine w_seq fun _ hK24 => w_if_false rfl <| w_exit <| k_exit_then <| k_exit_then <| k_exit_same <| KK hK5 <| WS fun _ hK25 => rS (MV rfl) <| rS (AG rfl) ?_
 refine RK hK25 <| w_ret <| Q1 hQ rfl rfl rfl ?_
 exact congrArg (Value.int .i64) (by unfold farF; omega)
end
section
open Go.RowKit
set_option linter.unusedVariables false
set_option maxRecDepth 100000 in
set_option maxHeartbeats 400000 in
theorem popen_c (d : GuardM) (kA : Option Addr) (kC : Nat) (pA : Option Addr) (pC : Nat) (nA : Option Addr) (nC : Nat) (hin : GuardIn d) :
    FnX Try.prog 53 [(Value.agg (GuardV.cells (GuardV.mk (TrackV.mk (Slc.mk kA d.Track.length kC)) (Slc.mk pA d.Posts.length pC) (Slc.mk nA d.Needs.length nC) d.Tower d.Radio)).toArray)] [(rd kA d.Track.length 9 (d.Track.map StretchV.cells)), (rd pA d.Posts.length 7 (d.Posts.map PostV.cells)), (rd nA d.Needs.length 3 (d.Needs.map NeedV.cells))] (fun (x : Bool × Int × Nat × (Option Addr) × Nat × (List RA)) => bif x.1 then (Value.tuple [(Value.pointer (some ⟨x.2.2.1, 0, none⟩)), (Value.int .i64 0)].toArray) else (Value.tuple [(Value.pointer none), (Value.int .i64 x.2.1)].toArray)) (fun (x : Bool × Int × Nat × (Option Addr) × Nat × (List RA)) => (x.1 = true → (guardE d = 0 ∧ x.2.2.2.2.2.length = d.Posts.length)) ∧ (x.1 = false → (x.2.1 = guardE d ∧ ¬ guardE d = 0))) (fun (x : Bool × Int × Nat × (Option Addr) × Nat × (List RA)) => bif x.1 then [(blk x.2.2.1 89 (WatchV.cells (WatchV.mk (GuardV.mk (TrackV.mk (Slc.mk kA d.Track.length kC)) (Slc.mk pA d.Posts.length pC) (Slc.mk nA d.Needs.length nC) d.Tower d.Radio) (Slc.mk x.2.2.2.1 ((timesL d).length) x.2.2.2.2.1)))), (own x.2.2.2.1 x.2.2.2.2.1 33 1 (List.zipWith rowC (timesL d) x.2.2.2.2.2)), (bund (nest rowO (timesL d) x.2.2.2.2.2))] else []) := by
 have hlen := hin.trk
 have hside := hin.side
 have hpl := hin.pst
 have hnl := hin.nds
 have hnk := hin.nk
 have hpk := hin.pk
 refine fnX_of go53 Try.func53 rfl rfl fun w0 Q hQ hN => ?_
 try dsimp only
 refine WS fun _ hK1 => BXA rfl fun b2 => rS (AG rfl) <| rS (AG rfl) <| RK hK1 <| w_seq fun _ hK3 => WS fun _ hK4 => rS (LW 0 rfl tk32 rfl rfl) <| rS (CL (pcheck_c d kA kC pA pC nA nC hin) (ha3 1 2 3 rfl rfl rfl rfl rfl rfl) rfl) <| rS (AG rfl) ?_
 refine RK hK4 <| WS fun _ hK5 => rS (MV rfl) <| rS (BI rfl b_neq) <| RK hK5 ?_
 refine w_if rfl (fun hg0 => ?_) (fun hg0 => ?_)
 · replace hg0 := XT hg0
   refine WS fun _ hK6 => rS (MV rfl) <| rS (AG rfl) <| rS (AG rfl) <| RK hK6 <| w_ret ?_
   refine hQ _ _ _ (l_nil (vs := [(Value.pointer none), (Value.int .i64 (guardE d))]) ⟨rfl, rfl, trivial⟩ fun w hs => endX (false, (guardE d), 0, none, 0, []) [] ?_ ?_ rfl rfl (by first | rfl | (show List.all _ _ = true; simp only [cond_true, List.all_cons, List.all_nil, rowO_wr, Bool.and_true]; rfl)) hs)
   · rfl
   · refine ⟨fun q => Bool.noConfusion (show false = true from q), fun _ => ?_⟩; first | exact ⟨rfl, hg0⟩
 replace hg0 := XF hg0
 refine WK hK3 <| WS fun _ hK7 => ?_
 obtain ⟨htr, hok⟩ := guardE_zero hg0
 refine rS (LW 0 rfl tk32 rfl rfl) <| rS (SX (sd_build (xs := [(0, .tmp 16)]) (cs := (WatchV.cells (WatchV.mk (GuardV.mk (TrackV.mk (Slc.mk kA d.Track.length kC)) (Slc.mk pA d.Posts.length pC) (Slc.mk nA d.Needs.length nC) d.Tower d.Radio) (Slc.mk none 0 0)))) rfl rfl (built_of tb89 rfl)) rfl rfl) <| BXA rfl fun b8 => rS (AG rfl) <| RK hK7 <| w_seq fun _ hK9 => WS fun _ hK10 => rS (FA 1 rfl fo32_1 rfl) <| rS (L1 (Value.slice pA d.Posts.length pC) 1 rfl tk25 rfl rfl) <| rS (LN rfl ut25) ?_
 refine rS (MV rfl) <| RK hK10 <| w_block <| w_own_nil 33 1 <| w_tie0 ?_
 have hinit : (0 ≤ d.Posts.length) ∧ (([] : List RA).length = 0) := by exact ⟨Nat.zero_le _, rfl⟩
 refine w_loop (ι := { z : Nat × (List RA) × (Option Addr) × Nat // (z.1 ≤ d.Posts.length) ∧ (z.2.1.length = z.1) }) (fun z => [(1, (Value.pointer (some ⟨b2, 0, none⟩))), (2, (Value.pointer none)), (3, (Value.int .i64 0)), (5, (Value.pointer (some ⟨b8, 0, none⟩))), (20, (Value.slice pA d.Posts.length pC)), (21, (Value.int .i64 ((d.Posts.length : Nat) : Int))), (22, (Value.int .i64 ((z.1.1 : Nat) : Int)))]) (fun z => [(bund (nest rowO (timesK d z.1.1) z.1.2.1)), (own z.1.2.2.1 z.1.2.2.2 33 1 (List.map sC (List.zipWith rowS (timesK d z.1.1) z.1.2.1))), (blk b8 89 (WatchV.cells (WatchV.mk (GuardV.mk (TrackV.mk (Slc.mk kA d.Track.length kC)) (Slc.mk pA d.Posts.length pC) (Slc.mk nA d.Needs.length nC) d.Tower d.Radio) (Slc.mk z.1.2.2.1 ((List.zipWith rowS (timesK d z.1.1) z.1.2.1).length) z.1.2.2.2)))), (blk b2 32 (GuardV.cells (GuardV.mk (TrackV.mk (Slc.mk kA d.Track.length kC)) (Slc.mk pA d.Posts.length pC) (Slc.mk nA d.Needs.length nC) d.Tower d.Radio))), (rd kA d.Track.length 9 (d.Track.map StretchV.cells)).ro, (rd pA d.Posts.length 7 (d.Posts.map PostV.cells)).ro, (rd nA d.Needs.length 3 (d.Needs.map NeedV.cells)).ro]) (fun z => d.Posts.length - z.1.1) ⟨(0, ([] : List RA), none, 0), hinit⟩ (Sub.cons rfl <| Sub.cons rfl <| Sub.cons rfl <| Sub.cons rfl <| Sub.cons rfl <| Sub.cons rfl <| Sub.cons rfl <| Sub.nil _) (fun w hs => St.sel [0, 1, 2, 3, 4, 5, 6] rfl rfl hs) ?_
 clear hinit
 rintro ⟨⟨i, tz, a, c⟩, ⟨hl6_0, hl6_1⟩⟩ J11 hJ11
 try dsimp only at hl6_0 hl6_1
 try dsimp only
 refine WS fun _ hK12 => rS (BI rfl b_lss) <| RK hK12 <| w_seq fun _ hK13 => ?_
 refine w_if rfl (fun h14 => ?_) (fun h14 => ?_)
 rotate_left 1
 · replace h14 := DF h14
   refine w_exit <| k_exit_then <| k_exit_then <| k_exit_same <| KK hK9 <| w_seq fun _ hK42 => ?_
   have hik : timesK d i = timesL d := by unfold timesL; rw [show i = d.Posts.length by omega]
   have htz2 : tz.length = d.Posts.length := by omega
   rw [hik, rows_cells, show (List.zipWith rowS (timesL d) tz).length = (timesL d).length from by rw [List.length_zipWith, timesL_len]; omega]
   refine w_region <| rS (MV rfl) <| rS (AG rfl) <| rS (AG rfl) <| RK hK42 <| w_ret ?_
   refine hQ _ _ _ (l_nil (vs := [(Value.pointer (some ⟨b8, 0, none⟩)), (Value.int .i64 0)]) ⟨rfl, rfl, trivial⟩ fun w hs => endX (true, 0, b8, a, c, tz) [2, 1, 0] ?_ ?_ rfl rfl (by first | rfl | (show List.all _ _ = true; simp only [cond_true, List.all_cons, List.all_nil, rowO_wr, Bool.and_true]; rfl)) hs)
   · rfl
   · exact ⟨fun _ => ⟨hg0, htz2⟩, fun q => Bool.noConfusion (show true = false from q)⟩
 replace h14 := DT h14
 refine WK hK13 <| w_seq fun _ hK15 => w_block <| WS fun _ hK16 => ?_
 obtain ⟨p, hp⟩ : ∃ y_, d.Posts[i]? = some y_ := ⟨d.Posts[i]'(by omega), List.getElem?_eq_getElem _⟩
 have hpm : (d.Posts.map PostV.cells)[i]? = some (PostV.cells p) := by rw [List.getElem?_map, hp]; rfl
 refine rS (IA i rfl (has_at 5 rfl) te25 (by decide) (by omega) (by omega)) <| rS (LEN i 0 (PostV.cells p) rfl tk62 (has_at 5 rfl) hpm rfl (by decide) rfl rfl) <| AL rfl tz62 fun b17 => SW0 rfl ts62 rfl <| RK hK16 <| WS fun _ hK18 => rS (AG rfl) <| RK hK18 <| w_seq fun _ hK19 => WS fun _ hK20 => ?_
 refine rS (FA 0 rfl fo32_0 rfl) <| rS (FA 0 rfl fo24_0 rfl) <| rS (L1 (Value.slice kA d.Track.length kC) 4 rfl tk22 rfl rfl) <| rS (LN rfl ut22) <| rS (MV rfl) <| RK hK20 <| w_block <| w_own_nil 3 1 ?_
 have hinit : (0 ≤ d.Track.length) := by exact Nat.zero_le _
 refine w_loop (ι := { z : Nat × (Option Addr) × Nat // (z.1 ≤ d.Track.length) }) (fun z => [(1, (Value.pointer (some ⟨b2, 0, none⟩))), (2, (Value.pointer none)), (3, (Value.int .i64 0)), (5, (Value.pointer (some ⟨b8, 0, none⟩))), (7, (Value.pointer (some ⟨b17, 0, none⟩))), (8, (Value.slice z.1.2.1 ((timesP d p z.1.1).length) z.1.2.2)), (20, (Value.slice pA d.Posts.length pC)), (21, (Value.int .i64 ((d.Posts.length : Nat) : Int))), (22, (Value.int .i64 ((i : Nat) : Int))), (28, (Value.slice kA d.Track.length kC)), (29, (Value.int .i64 ((d.Track.length : Nat) : Int))), (30, (Value.int .i64 ((z.1.1 : Nat) : Int)))]) (fun z => [(own z.1.2.1 z.1.2.2 3 1 ((timesP d p z.1.1).map iC)), (blk b17 62 (PostV.cells p)), (bund (nest rowO (timesK d i) tz)), (own a c 33 1 (List.map sC (List.zipWith rowS (timesK d i) tz))), (blk b8 89 (WatchV.cells (WatchV.mk (GuardV.mk (TrackV.mk (Slc.mk kA d.Track.length kC)) (Slc.mk pA d.Posts.length pC) (Slc.mk nA d.Needs.length nC) d.Tower d.Radio) (Slc.mk a ((List.zipWith rowS (timesK d i) tz).length) c)))), (blk b2 32 (GuardV.cells (GuardV.mk (TrackV.mk (Slc.mk kA d.Track.length kC)) (Slc.mk pA d.Posts.length pC) (Slc.mk nA d.Needs.length nC) d.Tower d.Radio))), (rd kA d.Track.length 9 (d.Track.map StretchV.cells)).ro, (rd pA d.Posts.length 7 (d.Posts.map PostV.cells)).ro, (rd nA d.Needs.length 3 (d.Needs.map NeedV.cells)).ro]) (fun z => d.Track.length - z.1.1) ⟨(0, none, 0), hinit⟩ (Sub.cons rfl <| Sub.cons rfl <| Sub.cons rfl <| Sub.cons rfl <| Sub.cons rfl <| Sub.cons rfl <| Sub.cons rfl <| Sub.cons rfl <| Sub.cons rfl <| Sub.cons rfl <| Sub.cons rfl <| Sub.cons rfl <| Sub.nil _) (fun w hs => St.sel [0, 1, 2, 3, 4, 5, 6, 7, 8] rfl rfl hs) ?_
 clear hinit
 rintro ⟨⟨k, la, lc⟩, hl10_0⟩ J21 hJ21
 try dsimp only at hl10_0
 try dsimp only
 refine WS fun _ hK22 => rS (BI rfl b_lss) <| RK hK22 <| w_seq fun _ hK23 => ?_
 refine w_if rfl (fun h24 => ?_) (fun h24 => ?_)
 rotate_left 1
 · replace h24 := DF h24
   refine w_exit <| k_exit_then <| k_exit_then <| k_exit_same <| KK hK19 <| w_region ?_
   rw [show timesP d p k = timesP d p d.Track.length from by rw [show k = d.Track.length by omega]]
   refine rS (MV rfl) <| rS (MV rfl) <| rS (SX (sd_nil_p rfl rfl) rfl rfl) <| rS (FA 7 rfl fo89_1 rfl) <| rS (L1 (Value.slice a ((List.zipWith rowS (timesK d i) tz).length) c) 4 rfl tk87 rfl rfl) <| rS (MV rfl) <| r_bs (xs := [.tmp 61]) (cs := [(Value.slice la ((timesP d p d.Track.length).length) lc)]) rfl te87 tz33 rfl rfl rfl rfl (by simp [Value.cells]) rfl rfl fun b38 => r_append (es2 := (List.map sC (List.zipWith rowS (timesK d (i + 1)) (tz ++ [(la, lc)])))) (m' := (List.zipWith rowS (timesK d (i + 1)) (tz ++ [(la, lc)])).length) 4 rfl rfl rfl ta87 rfl rfl (by simp) (has_rd_blk (es := List.map sC [(Slc.mk la ((timesP d p d.Track.length).length) lc)]) 0 rfl rfl (by simp [sC_length]) rfl) (one_sC _) (by rw [List.length_zipWith, timesK_len (by omega)]; omega) (by rw [List.length_zipWith, timesK_len (by omega)]; simp only [maxLen]; omega) (by rw [rows_snoc hp hl6_1, List.map_append]; rfl) (by simp) rfl fun a39 c40 => ?_
   try dsimp only
   refine rS (SX (sd_nil_p rfl rfl) rfl rfl) <| rS (FA 7 rfl fo89_1 rfl) <| ST5 (WatchV.cells (WatchV.mk (GuardV.mk (TrackV.mk (Slc.mk kA d.Track.length kC)) (Slc.mk pA d.Posts.length pC) (Slc.mk nA d.Needs.length nC) d.Tower d.Radio) (Slc.mk a39 ((List.zipWith rowS (timesK d (i + 1)) (tz ++ [(la, lc)])).length) c40))) rfl ts87 rfl rfl <| r_nil <| k_block <| KK hK15 <| w_region <| rS (BI rfl (b_add ⟨by omega, by omega⟩)) <| rS (MV rfl) <| r_nil ?_
   refine k_tie (X' := nest rowO (timesK d (i + 1)) (tz ++ [(la, lc)])) 3 1 rfl rfl (nest_snoc (a := (la, lc)) hp hl6_1) ?_
   have hb41 : (Value.int .i64 (((i + 1) : Nat) : Int)) = (Value.int .i64 (((i : Nat) : Int) + 1)) := by exact congrArg (Value.int .i64) (by omega)
   refine k_then (hJ11 ⟨((i + 1), (tz ++ [(la, lc)]), a39, c40), ⟨by omega, by simp; omega⟩⟩ _ _ _ rfl (by first | omega | (simp; omega)) (Sub.cons rfl <| Sub.cons rfl <| Sub.cons rfl <| Sub.cons rfl <| Sub.cons rfl <| Sub.cons rfl <| sub_val rfl hb41 <| Sub.nil _) (fun w hs => St.sel [0, 3, 4, 5, 6, 7, 8] rfl rfl hs))
 replace h24 := DT h24
 refine WK hK23 <| w_seq fun _ hK25 => w_block <| WS fun _ hK26 => rS (MV rfl) <| rS (AG rfl) <| RK hK26 <| w_seq fun _ hK27 => w_draw mixed 10 (by kernel_rfl) ?_
 have hpo := hok.post i p hp
 unfold PostOk at hpo
 have hfb := far_b htr hpo.2.2.1 (k := ((k : Nat) : Int)) (by omega)
 have hpc := pace_b hpo.2.2.2.2 hfb
 refine dS (FA 6 rfl fo62_4 rfl) <| dS (L1 (Value.int .i64 p.Pace) 1 rfl tk3 rfl rfl) <| dS (FA 0 rfl fo32_0 rfl) <| dS (LP (TrackV.cells (TrackV.mk (Slc.mk kA d.Track.length kC))) 5 rfl tk24 rfl rfl rfl) <| dS (FA 2 rfl fo62_2 rfl) <| dS (LP (SpotV.cells p.Spot) 1 rfl tk30 rfl rfl rfl) <| dS (MV rfl) <| dS (CL (pfar_c d.Track kA kC p.Spot ((k : Nat) : Int) (by first | assumption | omega | (simp; done) | (simp; omega)) (by first | assumption | omega | (simp; done) | (simp; omega)) (by exact htr) (by exact hpo.2.2.1) (by first | assumption | omega | (simp; done) | (simp; omega))) (ha_at 6 rfl rfl <| ha_nil) rfl) <| dS (BI rfl (b_mul ⟨by omega, by omega⟩)) <| dS (AG rfl) ?_
 refine d_end <| RK hK27 <| w_seq fun _ hK28 => WS fun _ hK29 => rS (MV rfl) <| rS (BI rfl (b_rem (by omega) (by omega))) <| rS (BI rfl b_gtr) <| RK hK29 ?_
 refine w_if rfl (fun hg44 => ?_) (fun hg44 => ?_)
 rotate_left 1
 · replace hg44 := DF hg44
   refine WK hK28 <| w_region <| rS (MV rfl) <| rS (FA 5 rfl fo62_3 rfl) <| rS (L1 (Value.int .i64 p.Delay) 1 rfl tk3 rfl rfl) <| rS (MV rfl) <| rS (BI rfl (b_quo (by omega) (by omega) (by omega))) <| rS (BI rfl (b_add ⟨by omega, by omega⟩)) <| r_bs (xs := [.tmp 52]) (cs := [(Value.int .i64 (p.Delay + ((p.Pace * (farF d.Track p.Spot ((k : Nat) : Int))) / 1000)))]) rfl te33 tz3 rfl rfl rfl rfl (by simp [Value.cells]) rfl rfl fun b34 => r_append (es2 := (List.map iC (timesP d p (k + 1)))) (m' := (timesP d p (k + 1)).length) 1 rfl rfl rfl ta33 rfl rfl (by simp) (has_rd_blk (es := List.map iC [(p.Delay + ((p.Pace * (farF d.Track p.Spot ((k : Nat) : Int))) / 1000))]) 0 rfl rfl (by simp [iC_length]) rfl) (one_iC _) (by simp only [timesP_len]; omega) (by simp only [maxLen, timesP_len]; omega) (by rw [timesP_succ, List.map_append]; exact congrArg (fun z => List.map iC (timesP d p k) ++ List.map iC [z]) (by unfold timeF; omega)) (by simp) rfl fun a35 c36 => ?_
   try dsimp only
   refine rS (AG rfl) <| r_nil <| k_block <| KK hK25 <| w_region <| rS (BI rfl (b_add ⟨by omega, by omega⟩)) <| rS (MV rfl) <| r_nil ?_
   have hb37 : (Value.int .i64 (((k + 1) : Nat) : Int)) = (Value.int .i64 (((k : Nat) : Int) + 1)) := by exact congrArg (Value.int .i64) (by omega)
   refine k_then (hJ21 ⟨((k + 1), a35, c36), (by first | omega | (simp only []; omega))⟩ _ _ _ rfl (by first | omega | (simp; omega)) (Sub.cons rfl <| Sub.cons rfl <| Sub.cons rfl <| Sub.cons rfl <| Sub.cons rfl <| Sub.cons rfl <| Sub.cons rfl <| Sub.cons rfl <| Sub.cons rfl <| Sub.cons rfl <| Sub.cons rfl <| sub_val rfl hb37 <| Sub.nil _) (fun w hs => St.sel [1, 2, 3, 4, 5, 6, 7, 8, 9] rfl rfl hs))
 replace hg44 := DT hg44
 refine w_region <| rS (MV rfl) <| rS (BI rfl (b_add ⟨by omega, by omega⟩)) <| rS (AG rfl) <| RK hK28 <| w_region <| rS (MV rfl) <| rS (FA 5 rfl fo62_3 rfl) <| rS (L1 (Value.int .i64 p.Delay) 1 rfl tk3 rfl rfl) <| rS (MV rfl) ?_
 refine rS (BI rfl (b_quo (by omega) (by omega) (by omega))) <| rS (BI rfl (b_add ⟨by omega, by omega⟩)) <| r_bs (xs := [.tmp 52]) (cs := [(Value.int .i64 (p.Delay + (((p.Pace * (farF d.Track p.Spot ((k : Nat) : Int))) + 1000) / 1000)))]) rfl te33 tz3 rfl rfl rfl rfl (by simp [Value.cells]) rfl rfl fun b30 => r_append (es2 := (List.map iC (timesP d p (k + 1)))) (m' := (timesP d p (k + 1)).length) 1 rfl rfl rfl ta33 rfl rfl (by simp) (has_rd_blk (es := List.map iC [(p.Delay + (((p.Pace * (farF d.Track p.Spot ((k : Nat) : Int))) + 1000) / 1000))]) 0 rfl rfl (by simp [iC_length]) rfl) (one_iC _) (by simp only [timesP_len]; omega) (by simp only [maxLen, timesP_len]; omega) (by rw [timesP_succ, List.map_append]; exact congrArg (fun z => List.map iC (timesP d p k) ++ List.map iC [z]) (by unfold timeF; omega)) (by simp) rfl fun a31 c32 => ?_
 try dsimp only
 refine rS (AG rfl) <| r_nil <| k_block <| KK hK25 <| w_region <| rS (BI rfl (b_add ⟨by omega, by omega⟩)) <| rS (MV rfl) <| r_nil ?_
 have hb33 : (Value.int .i64 (((k + 1) : Nat) : Int)) = (Value.int .i64 (((k : Nat) : Int) + 1)) := by exact congrArg (Value.int .i64) (by omega)
 refine k_then (hJ21 ⟨((k + 1), a31, c32), (by first | omega | (simp only []; omega))⟩ _ _ _ rfl (by first | omega | (simp; omega)) (Sub.cons rfl <| Sub.cons rfl <| Sub.cons rfl <| Sub.cons rfl <| Sub.cons rfl <| Sub.cons rfl <| Sub.cons rfl <| Sub.cons rfl <| Sub.cons rfl <| Sub.cons rfl <| Sub.cons rfl <| sub_val rfl hb33 <| Sub.nil _) (fun w hs => St.sel [1, 2, 3, 4, 5, 6, 7, 8, 9] rfl rfl hs))
end
section
open Go.RowKit
set_option linter.unusedVariables false
set_option maxRecDepth 100000 in
set_option maxHeartbeats 400000 in
theorem all_c (d : GuardM) (kA : Option Addr) (kC : Nat) (pA : Option Addr) (pC : Nat) (nA : Option Addr) (nC : Nat) (tA : Option Addr) (tN : Nat) (tC : Nat) (gw : Nat) (l : List Int) (lA : Option Addr) (lC : Nat) (hn : d.Posts.length ≤ 8) (hl : ∀ x ∈ l, 0 ≤ x ∧ x < (d.Posts.length : Int)) (hlen : l.length ≤ 1000000) :
    FnV Try.prog 74 [(Value.pointer (some ⟨gw, 0, none⟩)), (Value.slice lA l.length lC)] [(rd kA d.Track.length 9 (d.Track.map StretchV.cells)), (rd pA d.Posts.length 7 (d.Posts.map PostV.cells)), (rd nA d.Needs.length 3 (d.Needs.map NeedV.cells)), (blk gw 89 (WatchV.cells (WatchV.mk (GuardV.mk (TrackV.mk (Slc.mk kA d.Track.length kC)) (Slc.mk pA d.Posts.length pC) (Slc.mk nA d.Needs.length nC) d.Tower d.Radio) (Slc.mk tA tN tC)))), (rd lA l.length 1 (l.map iC))] (Value.int .i64 ((setAll d.Posts.length l : Nat) : Int)) := by
 have hp2 := pow_256 hn
 refine fnV_of go74 Try.func74 rfl rfl fun w0 Q hQ hN => ?_
 try dsimp only
 refine WS fun _ hK1 => rS (AG rfl) <| RK hK1 <| WS fun _ hK2 => rS (MV rfl) <| rS (SX (sd_nil_p rfl rfl) rfl rfl) <| rS (FA 0 rfl fo89_0 rfl) <| rS (FA 1 rfl fo32_1 rfl) <| rS (L1R (Value.slice pA d.Posts.length pC) 3 rfl tk25 rfl rfl) <| rS (LN rfl ut25) ?_
 refine rS (BI rfl (b_shl1 (i := d.Posts.length) (by omega) (by omega))) <| rS (BI rfl (b_sub ⟨by omega, by omega⟩)) <| rS (AG rfl) <| RK hK2 <| w_seq fun _ hK3 => WS fun _ hK4 => rS (MV rfl) <| rS (LN rfl ut33) <| rS (MV rfl) <| RK hK4 ?_
 refine w_block ?_
 have hinit : (0 ≤ l.length) := by exact Nat.zero_le _
 have hb5 : (Value.int .i64 ((setAll d.Posts.length (l.take 0) : Nat) : Int)) = (Value.int .i64 (((2 ^ d.Posts.length : Nat) : Int) - 1)) := by exact congrArg (Value.int .i64) (by show _ = ((2 ^ d.Posts.length : Nat) : Int) - 1; unfold setAll; simp only [List.take_zero, List.foldl_nil]; omega)
 refine w_loop (ι := { z : Nat // (z ≤ l.length) }) (fun z => [(5, (Value.int .i64 ((setAll d.Posts.length (l.take z.1) : Nat) : Int))), (16, (Value.slice lA l.length lC)), (17, (Value.int .i64 ((l.length : Nat) : Int))), (18, (Value.int .i64 ((z.1 : Nat) : Int)))]) (fun z => [(rd kA d.Track.length 9 (d.Track.map StretchV.cells)).ro, (rd pA d.Posts.length 7 (d.Posts.map PostV.cells)).ro, (rd nA d.Needs.length 3 (d.Needs.map NeedV.cells)).ro, (rd lA l.length 1 (l.map iC)).ro]) (fun z => l.length - z.1) ⟨0, hinit⟩ (sub_val rfl hb5 <| Sub.cons rfl <| Sub.cons rfl <| Sub.cons rfl <| Sub.nil _) (fun w hs => St.sel [0, 1, 2, 4] rfl rfl hs) ?_
 clear hinit
 rintro ⟨i, hl3_0⟩ J6 hJ6
 try dsimp only
 refine WS fun _ hK7 => rS (BI rfl b_lss) <| RK hK7 <| w_seq fun _ hK8 => ?_
 refine w_if rfl (fun h9 => ?_) (fun h9 => ?_)
 rotate_left 1
 · replace h9 := DF h9
   refine w_exit <| k_exit_then <| k_exit_then <| k_exit_same <| KK hK3 <| WS fun _ hK14 => rS (MV rfl) <| rS (AG rfl) <| RK hK14 <| w_ret ?_
   refine Q1 hQ rfl rfl rfl ?_
   rw [List.take_of_length_le (by omega)]
 replace h9 := DT h9
 refine WK hK8 <| w_seq fun _ hK10 => w_block <| WS fun _ hK11 => ?_
 obtain ⟨x, hx⟩ : ∃ y_, l[i]? = some y_ := ⟨l[i]'(by omega), List.getElem?_eq_getElem _⟩
 have hxm : (l.map iC)[i]? = some (iC x) := by rw [List.getElem?_map, hx]; rfl
 refine rS (IA i rfl (has_at 3 rfl) te33 (by decide) (by omega) (by omega)) <| rS (LE1 i 0 (Value.int .i64 x) rfl tk3 (has_at 3 rfl) hxm rfl (by decide) rfl) <| rS (AG rfl) <| RK hK11 <| w_region ?_
 have hxb := hl x (List.mem_of_getElem? hx)
 have hsb := setAll_b (l := l.take i) hn
 refine rS (MV rfl) <| rS (MV rfl) <| rS (BI rfl (b_shl1 (i := (x).toNat) (by omega) (by omega))) <| rS (BI rfl (b_andNot (s := (setAll d.Posts.length (l.take i))) (i := ((x).toNat)) (by omega) rfl (by omega) (by omega))) <| rS (AG rfl) <| r_nil <| k_block <| KK hK10 <| w_region <| rS (BI rfl (b_add ⟨by omega, by omega⟩)) ?_
 refine rS (MV rfl) <| r_nil ?_
 have hb12 : (Value.int .i64 ((setAll d.Posts.length (l.take (i + 1)) : Nat) : Int)) = (Value.int .i64 ((clrB (setAll d.Posts.length (l.take i)) ((x).toNat) : Nat) : Int)) := by rw [set_take hx]
 have hb13 : (Value.int .i64 (((i + 1) : Nat) : Int)) = (Value.int .i64 (((i : Nat) : Int) + 1)) := by exact congrArg (Value.int .i64) (by omega)
 refine k_then (hJ6 ⟨(i + 1), (by first | omega | (simp only []; omega))⟩ _ _ _ rfl (by first | omega | (simp; omega)) (sub_val rfl hb12 <| Sub.cons rfl <| Sub.cons rfl <| sub_val rfl hb13 <| Sub.nil _) (fun w hs => St.sel [0, 1, 2, 3] rfl rfl hs))
set_option maxRecDepth 100000 in
set_option maxHeartbeats 400000 in
theorem manned_c (d : GuardM) (kA : Option Addr) (kC : Nat) (pA : Option Addr) (pC : Nat) (nA : Option Addr) (nC : Nat) (l : List Int) (lA : Option Addr) (lC : Nat) (hin : GuardIn d) (hll : l.length ≤ 1000000) :
    FnX Try.prog 55 [(Value.agg (GuardV.cells (GuardV.mk (TrackV.mk (Slc.mk kA d.Track.length kC)) (Slc.mk pA d.Posts.length pC) (Slc.mk nA d.Needs.length nC) d.Tower d.Radio)).toArray), (Value.slice lA l.length lC)] [(rd kA d.Track.length 9 (d.Track.map StretchV.cells)), (rd pA d.Posts.length 7 (d.Posts.map PostV.cells)), (rd nA d.Needs.length 3 (d.Needs.map NeedV.cells)), (rd lA l.length 1 (l.map iC))] (fun (x : Bool × Int × Nat × (Option Addr) × Nat × (List RA)) => bif x.1 then (Value.tuple [(Value.pointer (some ⟨x.2.2.1, 0, none⟩)), (Value.int .i64 ((setAll d.Posts.length l : Nat) : Int)), (Value.int .i64 0)].toArray) else (Value.tuple [(Value.pointer none), (Value.int .i64 0), (Value.int .i64 x.2.1)].toArray)) (fun (x : Bool × Int × Nat × (Option Addr) × Nat × (List RA)) => (x.1 = true → (mannedE d l = 0 ∧ x.2.2.2.2.2.length = d.Posts.length)) ∧ (x.1 = false → (x.2.1 = mannedE d l ∧ ¬ mannedE d l = 0))) (fun (x : Bool × Int × Nat × (Option Addr) × Nat × (List RA)) => bif x.1 then [(blk x.2.2.1 89 (WatchV.cells (WatchV.mk (GuardV.mk (TrackV.mk (Slc.mk kA d.Track.length kC)) (Slc.mk pA d.Posts.length pC) (Slc.mk nA d.Needs.length nC) d.Tower d.Radio) (Slc.mk x.2.2.2.1 ((timesL d).length) x.2.2.2.2.1)))), (own x.2.2.2.1 x.2.2.2.2.1 33 1 (List.zipWith rowC (timesL d) x.2.2.2.2.2)), (bund (nest rowO (timesL d) x.2.2.2.2.2))] else []) := by
 have hlen := hin.trk
 have hside := hin.side
 have hpl := hin.pst
 have hnl := hin.nds
 have hnk := hin.nk
 have hpk := hin.pk
 refine fnX_of go55 Try.func55 rfl rfl fun w0 Q hQ hN => ?_
 try dsimp only
 refine WS fun _ hK1 => BXA rfl fun b2 => rS (AG rfl) <| rS (AG rfl) <| rS (AG rfl) <| RK hK1 <| WS fun _ hK3 => rS (LW 0 rfl tk32 rfl rfl) <| cX (popen_c d kA kC pA pC nA nC hin) (ha3 1 2 3 rfl rfl rfl rfl rfl rfl) rfl fun y4 hy5 => ?_
 obtain ⟨ok11, ec6, gw7, tA8, tC9, tz10⟩ := y4
 cases ok11
 · obtain ⟨hec, he⟩ := hy5.2 rfl
   try dsimp only at hec he
   subst hec
   try dsimp only [cond_true, cond_false, List.cons_append, List.nil_append]
   refine rS (MV rfl) <| rS (EX rfl) <| rS (EX rfl) <| rS (AG rfl) <| rS (AG rfl) <| RK hK3 <| w_seq fun _ hK12 => WS fun _ hK13 => rS (MV rfl) <| rS (BI rfl b_neq) ?_
   refine RK hK13 ?_
   refine w_if rfl (fun hg18 => ?_) (fun hg18 => ?_)
   rotate_left 1
   · replace hg18 := XF hg18
     exact absurd hg18 he
   replace hg18 := XT hg18
   refine WS fun _ hK14 => rS (MV rfl) <| rS (AG rfl) <| rS (AG rfl) <| rS (AG rfl) <| RK hK14 <| w_ret ?_
   refine hQ _ _ _ (l_nil (vs := [(Value.pointer none), (Value.int .i64 0), (Value.int .i64 (guardE d))]) ⟨rfl, rfl, rfl, trivial⟩ fun w hs => endX (false, (guardE d), 0, none, 0, []) [] ?_ ?_ rfl rfl (by first | rfl | (show List.all _ _ = true; simp only [cond_true, List.all_cons, List.all_nil, rowO_wr, Bool.and_true]; rfl)) hs)
   · rfl
   · refine ⟨fun q => Bool.noConfusion (show false = true from q), fun _ => ?_⟩; first | (have e := manned_bad (l := l) he; exact ⟨e.symm, fun q => he (e.symm.trans q)⟩) | (have e := manned_out (l := l) he (fun q => by have q1 := q i x hx; unfold EmptyAt at q1; omega); exact ⟨e.symm, fun q => absurd (e.symm.trans q) (by decide)⟩)
 obtain ⟨he, htz⟩ := hy5.1 rfl
 try dsimp only [cond_true, cond_false, List.cons_append, List.nil_append]
 refine rS (MV rfl) <| rS (EX rfl) <| rS (EX rfl) <| rS (AG rfl) <| rS (AG rfl) <| RK hK3 <| w_seq fun _ hK15 => WS fun _ hK16 => rS (MV rfl) <| rS (SX (sd_bin (r := .bool false) rfl rfl rfl b_neq) rfl rfl) ?_
 refine RK hK16 <| w_if_false rfl <| WK hK15 <| WS fun _ hK17 => rS (AG rfl) <| RK hK17 <| w_seq fun _ hK18 => WS fun _ hK19 => rS (MV rfl) <| rS (LN rfl ut33) ?_
 refine rS (MV rfl) <| RK hK19 <| w_block ?_
 have hinit : (0 ≤ l.length) ∧ (EmptyTo d.Posts.length l 0) := by exact ⟨Nat.zero_le _, empty_zero⟩
 have hb20 : (Value.int .i64 (prevE l 0)) = (Value.int .i64 (-1)) := by rw [prevE_zero]
 refine w_loop (ι := { z : Nat // (z ≤ l.length) ∧ (EmptyTo d.Posts.length l z) }) (fun z => [(1, (Value.slice lA l.length lC)), (2, (Value.pointer (some ⟨b2, 0, none⟩))), (7, (Value.pointer (some ⟨gw7, 0, none⟩))), (9, (Value.int .i64 (prevE l z.1))), (20, (Value.slice lA l.length lC)), (21, (Value.int .i64 ((l.length : Nat) : Int))), (22, (Value.int .i64 ((z.1 : Nat) : Int)))]) (fun z => [(blk gw7 89 (WatchV.cells (WatchV.mk (GuardV.mk (TrackV.mk (Slc.mk kA d.Track.length kC)) (Slc.mk pA d.Posts.length pC) (Slc.mk nA d.Needs.length nC) d.Tower d.Radio) (Slc.mk tA8 ((timesL d).length) tC9)))), (own tA8 tC9 33 1 (List.zipWith rowC (timesL d) tz10)), (bund (nest rowO (timesL d) tz10)), (blk b2 32 (GuardV.cells (GuardV.mk (TrackV.mk (Slc.mk kA d.Track.length kC)) (Slc.mk pA d.Posts.length pC) (Slc.mk nA d.Needs.length nC) d.Tower d.Radio))), (rd kA d.Track.length 9 (d.Track.map StretchV.cells)).ro, (rd pA d.Posts.length 7 (d.Posts.map PostV.cells)).ro, (rd nA d.Needs.length 3 (d.Needs.map NeedV.cells)).ro, (rd lA l.length 1 (l.map iC)).ro]) (fun z => l.length - z.1) ⟨0, hinit⟩ (Sub.cons rfl <| Sub.cons rfl <| Sub.cons rfl <| sub_val rfl hb20 <| Sub.cons rfl <| Sub.cons rfl <| Sub.cons rfl <| Sub.nil _) (fun w hs => St.sel [0, 1, 2, 3, 4, 5, 6, 7] rfl rfl hs) ?_
 clear hinit
 rintro ⟨i, ⟨hl6_0, hl6_1⟩⟩ J21 hJ21
 try dsimp only
 refine WS fun _ hK22 => rS (BI rfl b_lss) <| RK hK22 <| w_seq fun _ hK23 => ?_
 refine w_if rfl (fun h24 => ?_) (fun h24 => ?_)
 rotate_left 1
 · replace h24 := DF h24
   refine w_exit <| k_exit_then <| k_exit_then <| k_exit_same <| KK hK18 <| WS fun _ hK33 => ?_
   obtain ⟨htr, hok⟩ := guardE_zero he
   have hpn := hok.len
   have hem := empty_mem (empty_all hl6_1 (by omega))
   refine rS (MV rfl) <| rS (MV rfl) <| rS (MV rfl) <| rS (CL (all_c d kA kC pA pC nA nC tA8 ((timesL d).length) tC9 gw7 l lA lC (by omega) (by exact hem) (by omega)) (ha_at 4 rfl rfl <| ha_at 5 rfl rfl <| ha_at 6 rfl rfl <| ha_at 0 rfl rfl <| ha_at 7 rfl rfl <| ha_nil) rfl) <| rS (AG rfl) <| rS (AG rfl) <| rS (AG rfl) <| RK hK33 <| w_ret ?_
   refine hQ _ _ _ (l_nil (vs := [(Value.pointer (some ⟨gw7, 0, none⟩)), (Value.int .i64 ((setAll d.Posts.length l : Nat) : Int)), (Value.int .i64 0)]) ⟨rfl, rfl, rfl, trivial⟩ fun w hs => endX (true, 0, gw7, tA8, tC9, tz10) [0, 1, 2] ?_ ?_ rfl rfl (by first | rfl | (show List.all _ _ = true; simp only [cond_true, List.all_cons, List.all_nil, rowO_wr, Bool.and_true]; rfl)) hs)
   · rfl
   · exact ⟨fun _ => ⟨manned_in he (empty_all hl6_1 (by omega)), htz⟩, fun q => Bool.noConfusion (show true = false from q)⟩
 replace h24 := DT h24
 refine WK hK23 <| w_seq fun _ hK25 => w_block <| WS fun _ hK26 => ?_
 obtain ⟨x, hx⟩ : ∃ y_, l[i]? = some y_ := ⟨l[i]'(by omega), List.getElem?_eq_getElem _⟩
 have hxm : (l.map iC)[i]? = some (iC x) := by rw [List.getElem?_map, hx]; rfl
 refine rS (IA i rfl (has_at 7 rfl) te33 (by decide) (by omega) (by omega)) <| rS (LE1 i 0 (Value.int .i64 x) rfl tk3 (has_at 7 rfl) hxm rfl (by decide) rfl) <| rS (AG rfl) <| RK hK26 <| w_seq fun _ hK27 => WS fun _ hK28 => ?_
 have hpb := prevE_b hl6_0 hl6_1
 refine rS (MV rfl) <| rS (BI rfl (b_add ⟨by omega, by omega⟩)) <| rS (FA 1 rfl fo32_1 rfl) <| rS (L1 (Value.slice pA d.Posts.length pC) 3 rfl tk25 rfl rfl) <| rS (LN rfl ut25) <| rS (BI rfl (b_sub ⟨by omega, by omega⟩)) <| rS (MV rfl) <| r_bs (xs := [.tmp 32]) (cs := [(Value.int .i64 x)]) rfl te33 tz3 rfl rfl rfl rfl (by simp [Value.cells]) rfl rfl fun b29 => rS (CL (FnV.eq (in_post ((prevE l i) + 1) (((d.Posts.length : Nat) : Int) - 1) ([x]) (some ⟨b29, 0, none⟩) 1 (by first | assumption | omega | (simp; done) | (simp; omega))) inAll_one) (ha_cons (has_rd_blk 0 rfl rfl (by simp [iC_length]) rfl) <| ha_nil) rfl) <| rS (NT rfl) ?_
 refine RK hK28 ?_
 refine w_if rfl (fun hg35 => ?_) (fun hg35 => ?_)
 · replace hg35 := XT hg35
   refine WS fun _ hK30 => rS (AG rfl) <| rS (AG rfl) <| rS (AG rfl) <| RK hK30 <| w_ret ?_
   refine hQ _ _ _ (l_nil (vs := [(Value.pointer none), (Value.int .i64 0), (Value.int .i64 2)]) ⟨rfl, rfl, rfl, trivial⟩ fun w hs => endX (false, 2, 0, none, 0, []) [] ?_ ?_ rfl rfl (by first | rfl | (show List.all _ _ = true; simp only [cond_true, List.all_cons, List.all_nil, rowO_wr, Bool.and_true]; rfl)) hs)
   · rfl
   · refine ⟨fun q => Bool.noConfusion (show false = true from q), fun _ => ?_⟩; first | (have e := manned_bad (l := l) he; exact ⟨e.symm, fun q => he (e.symm.trans q)⟩) | (have e := manned_out (l := l) he (fun q => by have q1 := q i x hx; unfold EmptyAt at q1; omega); exact ⟨e.symm, fun q => absurd (e.symm.trans q) (by decide)⟩)
 replace hg35 := XF hg35
 refine WK hK27 <| w_region <| rS (MV rfl) <| rS (AG rfl) <| r_nil <| k_block <| KK hK25 <| w_region <| rS (BI rfl (b_add ⟨by omega, by omega⟩)) <| rS (MV rfl) ?_
 refine r_nil ?_
 have hb31 : (Value.int .i64 (prevE l (i + 1))) = (Value.int .i64 x) := by rw [prevE_succ hx]
 have hb32 : (Value.int .i64 (((i + 1) : Nat) : Int)) = (Value.int .i64 (((i : Nat) : Int) + 1)) := by exact congrArg (Value.int .i64) (by omega)
 refine k_then (hJ21 ⟨(i + 1), ⟨by omega, empty_succ hl6_1 hx (by unfold EmptyAt; omega)⟩⟩ _ _ _ rfl (by first | omega | (simp; omega)) (Sub.cons rfl <| Sub.cons rfl <| Sub.cons rfl <| sub_val rfl hb31 <| Sub.cons rfl <| Sub.cons rfl <| sub_val rfl hb32 <| Sub.nil _) (fun w hs => St.sel [1, 2, 3, 4, 5, 6, 7, 8] rfl rfl hs))
end
section
open Go.RowKit
set_option linter.unusedVariables false
def YlG {σ : Type} (w0 : World) (P : Program) (l : Nat) (step : σ → List Value → σ → Prop) (J : σ → Assn → Prop) (Z : Assn → Prop) : Prop :=
  ∀ k x k' A w, step k x k' → J k A → w0.heap.size ≤ w.heap.size → A.holds w → YieldAt (Fw none) 0 P l x.toArray w fun e w' =>
    (e = .returned (.bool true) ∧ ∃ B, J k' B ∧ Mv A B w w') ∨ (e = .returned (.bool false) ∧ ∃ B, Z B ∧ Mv A B w w')
def EndG {σ : Type} (J : σ → Assn → Prop) (Z : Assn → Prop) (fin : σ → Prop) (A0 : Assn) (w0 : World) (e : Ending) (w' : World) : Prop :=
  ∃ v, e = .returned v ∧ ((∃ s B, fin s ∧ J s B ∧ Mv A0 B w0 w') ∨ ∃ B, Z B ∧ Mv A0 B w0 w')
structure SeqG {σ : Type} (P : Program) (f : FuncId) (fi ca : List Value) (Cp : List Assn) (s0 : σ) (step : σ → List Value → σ → Prop) (fin : σ → Prop) : Prop where
  go : isGo P f = true
  run : ∀ (l : Nat) (J : σ → Assn → Prop) (Z : Assn → Prop) (A0 : Assn) (w : World), YlG w P l step J Z → J s0 A0 → A0.holds w → (∀ A ∈ Cp, A.holds w) → (∀ A ∈ Cp, Sep A0 A.ro) →
    Calls P f (fi ++ Value.func (.yield l) #[] #[] :: ca).toArray w (EndG J Z fin A0 w)
theorem endG {σ : Type} {J : σ → Assn → Prop} {Z : Assn → Prop} {n : σ} {fin : σ → Prop} {A0 B : Assn} {w0 w : World} {C : List Assn} {v : Value} (i : Nat) (hC : C[i]? = some B) (hfin : fin n) (hJ : J n B) (hF : Fo A0 w0 B) (hs : St ⟨A0.wf, fun _ => True⟩ w0 C w) : EndG J Z fin A0 w0 (.returned v) w :=
  ⟨v, rfl, .inl ⟨n, B, hfin, hJ, hs.holds B (List.mem_of_getElem? hC), hs.keeps, fun b hb => (hs.own B (List.mem_of_getElem? hC) b hb).symm, hF⟩⟩
theorem endGz {σ : Type} {J : σ → Assn → Prop} {Z : Assn → Prop} {fin : σ → Prop} {A0 B : Assn} {w0 w : World} {C : List Assn} {v : Value} (i : Nat) (hC : C[i]? = some B) (hJ : Z B) (hF : Fo A0 w0 B) (hs : St ⟨A0.wf, fun _ => True⟩ w0 C w) : EndG J Z fin A0 w0 (.returned v) w :=
  ⟨v, rfl, .inr ⟨B, hJ, hs.holds B (List.mem_of_getElem? hC), hs.keeps, fun b hb => (hs.own B (List.mem_of_getElem? hC) b hb).symm, hF⟩⟩
theorem seqG_of {σ : Type} {P : Program} {f : FuncId} {fn : Func} {c : Code} {fi ca : List Value} {Cp : List Assn} {s0 : σ} {step : σ → List Value → σ → Prop} {fin : σ → Prop} (hgo : isGo P f = true) (hf : P.funcs[f]? = some fn) (hb : fn.body = some c) (hn : Nat.ble (fi.length + ca.length + 1) fn.ntmps = true)
    (h : ∀ (l : Nat) (J : σ → Assn → Prop) (Z : Assn → Prop) (A0 : Assn) (w0 : World) (Q : Post), YlG w0 P l step J Z → J s0 A0 → Fo A0 w0 A0 →
      (∀ D L C, LJ ⟨P, none, fn.ntmps, ⟨A0.wf, fun _ => True⟩, w0⟩ fn (EndG J Z fin A0 w0) D L C → KJ ⟨P, none, fn.ntmps, ⟨A0.wf, fun _ => True⟩, w0⟩ (Q .ret) D L C) →
      (∀ D L C, LJ ⟨P, none, fn.ntmps, ⟨A0.wf, fun _ => True⟩, w0⟩ fn (EndG J Z fin A0 w0) D L C → KJ ⟨P, none, fn.ntmps, ⟨A0.wf, fun _ => True⟩, w0⟩ (Q .normal) D L C) →
      WJ ⟨P, none, fn.ntmps, ⟨A0.wf, fun _ => True⟩, w0⟩ c Q [] (fr0 (fi ++ Value.func (.yield l) #[] #[] :: ca)) (A0 :: Cp.map Assn.ro)) : SeqG P f fi ca Cp s0 step fin := by
  refine ⟨hgo, fun l J Z A0 w hY hJ hA hCp hsep => ?_⟩
  refine fn_of' hf hb (by simpa [Nat.add_assoc] using hn) (h l J Z A0 w · hY hJ (fun b hb => .inl hb)) ?_
  have h0 := ro_holds hCp
  refine ⟨Keeps.refl _ _, fun A hA' => ?_, List.Pairwise.cons (fun B hB => ?_) h0.sep, fun A hA' b hb => ?_, fun _ _ _ _ => .inr trivial⟩
  · rcases List.mem_cons.1 hA' with rfl | hA'
    · exact hA
    · exact h0.holds A hA'
  · obtain ⟨B', hB', rfl⟩ := List.mem_map.1 hB
    exact hsep B' hB'
  · rcases List.mem_cons.1 hA' with rfl | hA'
    · exact .inr hb
    · obtain ⟨B', hB', rfl⟩ := List.mem_map.1 hA'
      exact hb.elim
section
variable {E : Env} {ops : Array Oper} {Q : Post} {rest : List Oper} {D : List Deferred} {L : List (Nat × Value)} {C : List Assn}
variable {d : Nat} {ty : TypeId} {ps : String} {af : Array Edge} {g : Option (Nat × Bool)}
/-- a call of yield -/
theorem r_yieldG {σ : Type} {fop : Operand} {xs : Array Operand} {ts : Array TypeId} {l : Nat} {k k' : σ} {vs : List Value} {step : σ → List Value → σ → Prop} {J : σ → Assn → Prop} {Z : Assn → Prop} {A0 A : Assn} {w1 : World} (i : Nat) (hw1 : w1.heap.size ≤ E.w0.heap.size) (hY : YlG w1 E.P l step J Z) (hJ : J k A) (hF : Fo A0 w1 A) (hg : gOn ops L g = true) (hf : ev L fop = some (.func (.yield l) #[] #[]))
    (hx : evs L xs.toList = some vs) (hk : step k vs k') (hC : C[i]? = some A) (hd : Nat.blt d E.n = true)
    (k1 : ∀ B, J k' B → Fo A0 w1 B → RJ E ops Q rest D ((d, .bool true) :: L) (C.set i B))
    (k2 : ∀ B, Z B → Fo A0 w1 B → RJ E ops Q rest D ((d, .bool false) :: L) (C.set i B)) :
    RJ E ops Q (⟨some d, .call { callee := .value fop, args := xs, argTypes := ts }, ty, ps, af, g⟩ :: rest) D L C := by
  intro a w hfr hs
  have hd' : d < E.n := by rw [← Nat.blt_eq]; exact hd
  unfold wpL
  rw [if_pos (gOn_wanted hfr hg)]
  have h1 : xs.map a.eval = vs.toArray := by
    have := hfr.evs hx
    apply Array.ext'
    simp [this]
  obtain ⟨fn, tmps, assign, body, hy, hr⟩ := hY k vs k' A w hk hJ (Nat.le_trans hw1 hs.keeps.size) (hs.holds A (List.mem_of_getElem? hC))
  have hrun : (execOp a.eval ⟨some d, .call { callee := .value fop, args := xs, argTypes := ts }, ty, ps, af, g⟩).run E.P w = .ok (.round l fn tmps assign body) w := by
    simp [execOp, resolve, hfr.ev hf, Deferred.ofValue, invoke, h1, hy]
  refine ⟨fun _ _ => trivial, ?_⟩
  rw [Oper.semAt_eq _ _ _ (by simp), hrun]
  refine ⟨fun h => by simp at h, ?_⟩
  have hfo : ∀ (B : Assn) (w' : World), Mv A B w w' → Fo A0 w1 B := fun B w' m b hb => by
    rcases m.foot b hb with h2 | h2
    · exact hF b h2
    · exact .inr (Nat.le_trans hw1 (Nat.le_trans hs.keeps.size h2))
  have hr' : RoundIn (Fw E.r) 0 E.P l fn tmps assign body w _ := hr
  refine hr'.mono fun e w' he => ?_
  rcases he with ⟨rfl, B, hB, m⟩ | ⟨rfl, B, hB, m⟩
  · exact k1 B hB (hfo B w' m) _ _ (hfr.put hd' _) (hs.mv i hC m)
  · exact k2 B hB (hfo B w' m) _ _ (hfr.put hd' _) (hs.mv i hC m)
end
theorem w_rangeG {σ : Type} {E : Env} {Q : Post} {D : List Deferred} {L L0 : List (Nat × Value)} {C F : List Assn} {g : Operand} {ps : Array Tmp} {assign body : Code} {f : FuncId} {fi ca : List Value} {Cp : List Assn} {s0 : σ} {step : σ → List Value → σ → Prop} {fin_ : σ → Prop} {ι κ : Type}
    (inv : σ → ι → Prop) (Ci : σ → ι → List Assn) (invx : Code → κ → Prop) (Cx : Code → κ → List Assn) (isJ isF : List Nat) (y0 : ι)
    (hr : E.r = none) (hg : ev L g = some (.func (.func f) fi.toArray ca.toArray)) (hs : SeqG E.P f fi ca Cp s0 step fin_)
    (hnd : decide (isJ ++ isF).Nodup = true) (hJ : sel C isJ = Ci s0 y0) (hF : sel C isF = F) (h0 : inv s0 y0) (hCp : ∀ A ∈ Cp, ∃ B ∈ F, Cov B A)
    (hps : ∀ k x k', step k x k' → x.length = ps.size) (hpn : ps.toList.all (fun t => Nat.blt t E.n) = true) (hL : Sub L L0)
    (round : ∀ (k : σ) (x : List Value) (k' : σ) (y : ι) (l : Nat) (ra rb : Loop) (S : BS) (w0 : World) (K : Act → World → Prop) (Qr : Post), E.w0.heap.size ≤ w0.heap.size → step k x k' → inv k y →
      (∀ L' C', WJ ⟨E.P, some l, E.n, S, w0⟩ body Qr [] L' (obj l (.loop rb) :: C') → KJ ⟨E.P, some l, E.n, S, w0⟩ K [] L' (obj l (.loop ra) :: C')) →
      (∀ y' L' C', inv k' y' → (∀ w, St S w0 C' w → St S w0 (obj l (.loop rb) :: Ci k' y') w) → KJ ⟨E.P, some l, E.n, S, w0⟩ (Qr .normal) [] L' C') →
      (∀ id z L' C', invx (.exit id) z → (∀ w, St S w0 C' w → St S w0 (obj l (.loop rb) :: Cx (.exit id) z) w) → KJ ⟨E.P, some l, E.n, S, w0⟩ (Qr (.exit id)) [] L' C') →
      (∀ z L' C', invx .ret z → (∀ w, St S w0 C' w → St S w0 (obj l (.loop rb) :: Cx .ret z) w) → KJ ⟨E.P, some l, E.n, S, w0⟩ (Qr .ret) [] L' C') →
      WJ ⟨E.P, some l, E.n, S, w0⟩ assign (Exit.then K (fun _ _ _ => False)) [] (parL ps.toList x L0) (obj l (.loop ra) :: Ci k y))
    (fin : ∀ r s y, fin_ s → inv s y → KJ E (Q .normal) (mark r :: D) L0 (obj r (.deferred (some [])) :: (F ++ Ci s y)))
    (finx : ∀ r id z, invx (.exit id) z → KJ E (Q (.exit id)) (mark r :: D) L0 (obj r (.deferred (some [])) :: (F ++ Cx (.exit id) z)))
    (finr : ∀ r z, invx .ret z → KJ E (Q .ret) (mark r :: D) L0 (obj r (.deferred (some [])) :: (F ++ Cx .ret z))) : WJ E (.rangeFunc g ps assign body) Q D L C := by
  intro a w hf hst
  refine wpIn_rangeFunc fun fn _ => ?_
  show ∃ l mark w₁ d w₁' f args w₂, (Instr.enterLoop fn a.tmps ps assign body E.r).run E.P w = .ok (l, mark) w₁ ∧ _
  rw [hr]
  obtain ⟨rec, hrec⟩ : ∃ rec : LoopState → Option Code → Loop, rec = fun st pe => { state := st, pending := pe, fn, tmps := a.tmps, params := ps, assign, body, defers := w.heap.size } := ⟨_, rfl⟩
  obtain ⟨W1, hW1⟩ : ∃ W1, (w.alloc (.deferred (some []))).alloc (.loop (rec .ready none)) = W1 := ⟨_, rfl⟩
  have hev : a.eval g = .func (.func f) fi.toArray ca.toArray := hf.ev hg
  have hent : (Instr.enterLoop fn a.tmps ps assign body none).run E.P w = .ok (w.heap.size + 1, [mark w.heap.size]) W1 := by
    rw [← hW1, hrec]; exact run_enterLoop_outer _ _ _ _ _
  -- the state with the record and the block
  have hst1 : St E.S E.w0 ((obj (w.heap.size + 1) (.loop (rec .ready none)) :: Ci s0 y0) ++ (obj w.heap.size (.deferred (some [])) :: F)) W1 := by
    have h1 : St E.S E.w0 (Ci s0 y0 ++ F) w := St.sel (isJ ++ isF) hnd (by have h1 := hJ; have h2 := hF; unfold Go.Proofs.Ytlncplfcbmcjgaa.sel at h1 h2 ⊢; rw [List.filterMap_append, h1, h2]) hst
    have hn : New w W1 [obj (w.heap.size + 1) (.loop (rec .ready none)), obj w.heap.size (.deferred (some []))] := by
      refine ⟨fun A hA => ?_, fun A hA b hb => ?_, ?_⟩
      · rcases List.mem_cons.1 hA with rfl | hA
        · show W1.heap[w.heap.size + 1]? = _
          rw [← hW1]; have := World.alloc_heap_new (w.alloc (.deferred (some []))) (.loop (rec .ready none)); rwa [World.size_alloc] at this
        · simp only [List.mem_singleton] at hA; subst hA
          show W1.heap[w.heap.size]? = _
          rw [← hW1]; exact (Below.heap_alloc _ _ _ (by simp)).trans (World.alloc_heap_new w _)
      · rcases List.mem_cons.1 hA with rfl | hA
        · have : b = w.heap.size + 1 := hb
          omega
        · simp only [List.mem_singleton] at hA; subst hA
          have : b = w.heap.size := hb
          omega
      · refine List.Pairwise.cons (fun B hB b h1 h2 => ?_) (List.pairwise_singleton _ _)
        simp only [List.mem_singleton] at hB; subst hB
        have e1 : b = w.heap.size + 1 := h1
        have e2 : b = w.heap.size := h2
        omega
    have hk : Keeps no w W1 := by rw [← hW1]; exact (Keeps.alloc no w _).trans (Keeps.alloc no _ _)
    have h2 := h1.grow hk hn
    refine h2.perm ?_
    simp only [List.cons_append, List.nil_append]
    exact List.Perm.cons _ (List.perm_middle.symm)
  have hb1 := hst1.tied
  obtain ⟨hs1, hs2⟩ := List.pairwise_cons.1 hb1.sep
  have hA0 := hb1.holds _ (List.mem_cons_self ..)
  let J : σ → Assn → Prop := fun k A => ∃ y, inv k y ∧ A = bund (obj (w.heap.size + 1) (.loop (rec .ready none)) :: Ci k y)
  let Z : Assn → Prop := fun A => ∃ c z, (c = .ret ∨ ∃ id, c = .exit id) ∧ invx c z ∧ A = bund (obj (w.heap.size + 1) (.loop (rec .done (some c))) :: Cx c z)
  refine ⟨w.heap.size + 1, [mark w.heap.size], W1, { target := .fn (.func f) ca.toArray, args := fi.toArray ++ #[.func (.yield (w.heap.size + 1)) #[] #[]] }, W1, f,
    (fi ++ Value.func (.yield (w.heap.size + 1)) #[] #[] :: ca).toArray, W1, hent, ?_, fun _ _ => trivial, ?_, fun h => by simp at h, ?_⟩
  · simp only [resolve, hev]
    simp [Deferred.ofValue, Act.eval]
  · have : fi.toArray ++ #[Value.func (.yield (w.heap.size + 1)) #[] #[]] ++ ca.toArray = (fi ++ Value.func (.yield (w.heap.size + 1)) #[] #[] :: ca).toArray := by simp
    simp [invoke, run_callFunc hs.go]
  · refine (calls_in E.r (hs.run (w.heap.size + 1) J Z _ W1 ?_ ⟨y0, h0, rfl⟩ hA0 ?_ ?_)).mono ?_
    · -- a round
      rintro k x k' A W hx ⟨y, hy, rfl⟩ hWs hA
      have hl : W.heap[w.heap.size + 1]? = some (.loop (rec .ready none)) := hA.1 _ (List.mem_cons_self ..)
      have hyl := run_yield (P := E.P) (args := x.toArray) hl (by rw [hrec]; simpa using hps k x k' hx)
      rw [hrec] at hyl
      refine ⟨fn, _, assign, body, hyl, roundIn_of_wpIn trivial ?_⟩
      let A : Assn := bund (obj (w.heap.size + 1) (.loop (rec .ready none)) :: Ci k y)
      have hfr : Fr E.n [] (parL ps.toList x L0) { tmps := (ps.zip x.toArray).foldl (fun tmps (t, a) => tmps.setIfInBounds t a) a.tmps, defers := [] } := by
        have h1 := fr_par ps.toList x L0 a.tmps (fun t ht => by have := List.all_eq_true.1 hpn t ht; rwa [Nat.blt_eq] at this) ⟨rfl, hf.size, fun t v hv => hf.at_ t v (hL t v hv)⟩
        rw [← Array.foldl_toList]
        simpa using h1
      have hbusy : ∀ (c : Option Code) (b : Bool), ({ rec .busy none with state := if b then .ready else .done, pending := c } : Loop) = rec (if b then .ready else .done) c := fun c b => by rw [hrec]
      have hend : ∀ (c : Option Code) (w1 : World) (C' : List Assn) (S : BS), St S W (obj (w.heap.size + 1) (.loop (rec .busy none)) :: C') w1 →
          ∃ w2, (Instr.endRound (w.heap.size + 1) c).run E.P w1 = .ok (.bool c.isNone) w2 ∧ St S W (obj (w.heap.size + 1) (.loop (rec (if c.isNone then .ready else .done) c)) :: C') w2 := fun c w1 C' S hs1 => by
        have hl1 : w1.heap[w.heap.size + 1]? = some (.loop (rec .busy none)) := hs1.holds _ (List.mem_cons_self ..)
        refine ⟨_, run_endRound c hl1, ?_⟩
        have := hs1.upd (b := w.heap.size + 1) (A' := obj (w.heap.size + 1) (.loop (rec (if c.isNone then .ready else .done) c))) 0 rfl rfl rfl (keeps_putObj _) (fun _ h => h) (World.putObj_heap_same (lt_of_heap hl1))
        rw [hbusy]
        exact this
      refine round k x k' y (w.heap.size + 1) (rec .ready none) (rec .busy none) ⟨A.wf, A.foot⟩ W _ (roundPost E.P (w.heap.size + 1) (fun e w' => (e = .returned (.bool true) ∧ ∃ B, J k' B ∧ Mv A B W w') ∨ (e = .returned (.bool false) ∧ ∃ B, Z B ∧ Mv A B W w'))) (Nat.le_trans (Nat.le_trans hst.keeps.size (by rw [← hW1]; simp; omega)) hWs) hx hy ?_ ?_ ?_ ?_ _ _ hfr (St.of_bund hA)
      · intro L' C' hW a1 w1 hf1 hs1
        have hl1 : w1.heap[w.heap.size + 1]? = some (.loop (rec .ready none)) := hs1.holds _ (List.mem_cons_self ..)
        refine ⟨_, run_beginRound hl1 (by rw [hrec]), hW _ _ hf1 ?_⟩
        have := hs1.upd (b := w.heap.size + 1) (A' := obj (w.heap.size + 1) (.loop (rec .busy none))) 0 rfl rfl rfl (keeps_putObj _) (fun _ h => h) (World.putObj_heap_same (lt_of_heap hl1))
        have e : ({ rec .ready none with state := .busy } : Loop) = rec .busy none := by rw [hrec]
        rw [e]; exact this
      · intro y' L' C' hy' hC' a1 w1 hf1 hs1
        obtain ⟨w2, e1, e2⟩ := hend none w1 _ _ (hC' _ hs1)
        exact ⟨_, w2, e1, .inl ⟨rfl, _, ⟨y', hy', rfl⟩, Mv.of e2⟩⟩
      · intro id z L' C' hz hC' a1 w1 hf1 hs1
        obtain ⟨w2, e1, e2⟩ := hend (some (.exit id)) w1 _ _ (hC' _ hs1)
        exact ⟨_, w2, e1, .inr ⟨rfl, _, ⟨_, z, .inr ⟨id, rfl⟩, hz, rfl⟩, Mv.of e2⟩⟩
      · intro z L' C' hz hC' a1 w1 hf1 hs1
        obtain ⟨w2, e1, e2⟩ := hend (some .ret) w1 _ _ (hC' _ hs1)
        exact ⟨_, w2, e1, .inr ⟨rfl, _, ⟨_, z, .inl rfl, hz, rfl⟩, Mv.of e2⟩⟩
    · intro A hA
      obtain ⟨B, hB, hc⟩ := hCp A hA
      exact hc.holds _ (hb1.holds B (List.mem_cons_of_mem _ (List.mem_cons_of_mem _ hB)))
    · intro A hA b hb hb'
      obtain ⟨B, hB, hc⟩ := hCp A hA
      exact ⟨(hs1 B (List.mem_cons_of_mem _ hB) b hb (hc.foot b hb')).1, fun h => h⟩
    · rintro e w' ⟨v, rfl, hh⟩
      have hfin : Fr E.n (mark w.heap.size :: D) L0 { a with defers := [mark w.heap.size] ++ a.defers } := ⟨by simp [hf.defers], hf.size, fun t v hv => hf.at_ t v (hL t v hv)⟩
      have hleave : ∀ (st : LoopState) (c : Option Code) (C' : List Assn), st ≠ .busy → Mv (bund (obj (w.heap.size + 1) (.loop (rec .ready none)) :: Ci s0 y0)) (bund (obj (w.heap.size + 1) (.loop (rec st c)) :: C')) W1 w' →
          ∃ w2, (Instr.endLoop (w.heap.size + 1)).run E.P w' = .ok c w2 ∧ St E.S E.w0 (obj w.heap.size (.deferred (some [])) :: (F ++ C')) w2 := fun st c C' hne m => by
        have h1 := (hb1.mv 0 rfl m).untied
        have h1' : St E.S E.w0 ((obj (w.heap.size + 1) (.loop (rec st c)) :: C') ++ (obj w.heap.size (.deferred (some [])) :: F)) w' := h1
        have hl1 : w'.heap[w.heap.size + 1]? = some (.loop (rec st c)) := h1'.holds (obj (w.heap.size + 1) (.loop (rec st c))) (by simp)
        refine ⟨_, by have := run_endLoop (P := E.P) hl1 (by rw [hrec]; exact hne); rw [this, hrec], ?_⟩
        have h2 := h1'.upd (b := w.heap.size + 1) (A' := obj (w.heap.size + 1) (.loop { rec st c with state := .exhausted })) 0 rfl rfl rfl (keeps_putObj _) (fun _ h => h) (World.putObj_heap_same (lt_of_heap hl1))
        have h3 : St E.S E.w0 (C' ++ (obj w.heap.size (.deferred (some [])) :: F)) _ := h2.take (List.sublist_cons_self _ _)
        rw [hrec] at h3
        refine h3.perm ?_
        exact (List.perm_append_comm).trans (by simp)
      rcases hh with ⟨s, B, hfs, ⟨y, hy, rfl⟩, m⟩ | ⟨B, ⟨c, z, hc, hz, rfl⟩, m⟩
      · obtain ⟨w2, e1, e2⟩ := hleave .ready none _ (by simp) m
        exact ⟨none, w2, e1, fin w.heap.size s y hfs hy _ _ hfin e2⟩
      · obtain ⟨w2, e1, e2⟩ := hleave .done (some c) _ (by simp) m
        refine ⟨some c, w2, e1, ?_⟩
        rcases hc with rfl | ⟨id, rfl⟩
        · exact wpIn_ret (finr w.heap.size z hz _ _ hfin e2)
        · exact wpIn_exit (finx w.heap.size id z hz _ _ hfin e2)
end
section
open Go.RowKit
set_option linter.unusedVariables false
set_option linter.unusedSectionVars false
theorem gkey_int {P : Program} {kt : Nat} (hk : P.underlying kt = some (.int .i64)) : GKey P kt (Value.int .i64) := by
  refine ⟨fun e x w => run_check hk e, fun x w es hall => ?_, fun x => by simp [Instr.sameBits], fun x y h => by injection h⟩
  have key : ∀ (es : List MapEntry) (i : Nat), (∀ e ∈ es, ∃ k : Int, e.key = .int .i64 k) → (Instr.findNow (.int .i64) (.int .i64 x) es i = some none ∧ ∀ e ∈ es, e.key ≠ .int .i64 x) ∨ ∃ j e, Instr.findNow (.int .i64) (.int .i64 x) es i = some (some (i + j, e.val)) ∧ es[j]? = some e ∧ e.key = .int .i64 x := by
    intro es
    induction es with
    | nil => intro i _; exact .inl ⟨rfl, by simp⟩
    | cons e es ih =>
      intro i hall
      obtain ⟨k, hek⟩ := hall e (by simp)
      by_cases h : x = k
      · subst h
        exact .inr ⟨0, e, by simp [Instr.findNow, Instr.sameNow, hek], rfl, hek⟩
      · have hb : (x == k) = false := by simpa using h
        rcases ih (i + 1) (fun y hy => hall y (by simp [hy])) with ⟨h1, h2⟩ | ⟨j, e', h1, h2, h3⟩
        · refine .inl ⟨by simp [Instr.findNow, Instr.sameNow, hek, hb, h1], fun y hy => ?_⟩
          rcases List.mem_cons.1 hy with rfl | hy
          · rw [hek]; intro q; injection q with _ q; exact h q.symm
          · exact h2 y hy
        · refine .inr ⟨j + 1, e', ?_, by simpa using h2, h3⟩
          simp only [Instr.findNow, Instr.sameNow, hek, hb, if_true, h1]
          simp; omega
  rcases key es 0 hall with ⟨h1, h2⟩ | ⟨j, e, h1, h2, h3⟩
  · exact .inl ⟨MapKept.run_findKey hk h1, h2⟩
  · exact .inr ⟨j, e, MapKept.run_findKey hk (by simpa using h1), h2, h3⟩
section
variable {K : Type} [DecidableEq K] {kV : K → Value}
section
variable {E : Env} {ops : Array Oper} {Q : Post} {rest : List Oper} {D : List Deferred} {L : List (Nat × Value)} {C : List Assn}
variable {dst : Option Tmp} {d : Nat} {ty : TypeId} {ps : String} {af : Array Edge} {g : Option (Nat × Bool)}
end
end
end
section
open Go.RowKit
set_option linter.unusedVariables false
abbrev defd (r : Nat) : Assn := obj r (.deferred (some []))
theorem w_loopD {E : Env} {c : Code} {Q : Post} {D : List Deferred} {L : List (Nat × Value)} {C : List Assn} {ι : Type} (Di : ι → List Deferred) (Li : ι → List (Nat × Value)) (Ci : ι → List Assn) (μ : ι → Nat) (x0 : ι)
    (hD : D = Di x0) (h0 : Sub L (Li x0)) (hC : ∀ w, St E.S E.w0 C w → St E.S E.w0 (Ci x0) w)
    (round : ∀ x (J : Act → World → Prop), (∀ y D' L' C', D' = Di y → μ y < μ x → Sub L' (Li y) → (∀ w, St E.S E.w0 C' w → St E.S E.w0 (Ci y) w) → KJ E J D' L' C') → WJ E c (Exit.then J Q) (Di x) (Li x) (Ci x)) : WJ E (.loop c) Q D L C := by
  intro a w hf hs
  subst hD
  have hst : ∃ x, Fr E.n (Di x) (Li x) a ∧ St E.S E.w0 (Ci x) w := ⟨x0, hf.sub h0, hC w hs⟩
  clear hf hs
  have key : ∀ (m : Nat) (a : Act) (w : World), (∃ x, μ x = m ∧ Fr E.n (Di x) (Li x) a ∧ St E.S E.w0 (Ci x) w) → (Code.loop c).wpIn (Fw E.r) 0 E.P Q a w := by
    intro m a w hx
    refine wpIn_loop (fun a w => ∃ x, Fr E.n (Di x) (Li x) a ∧ St E.S E.w0 (Ci x) w) (fun a w => leastOf fun k => ∃ x, μ x = k ∧ Fr E.n (Di x) (Li x) a ∧ St E.S E.w0 (Ci x) w) (by obtain ⟨x, _, h⟩ := hx; exact ⟨x, h⟩) ?_
    intro a w hx
    have hex : ∃ k, ∃ x, μ x = k ∧ Fr E.n (Di x) (Li x) a ∧ St E.S E.w0 (Ci x) w := by obtain ⟨x, h⟩ := hx; exact ⟨_, x, rfl, h⟩
    obtain ⟨x, hxm, hxf, hxs⟩ := (leastOf_spec hex).1
    refine round x _ ?_ a w hxf hxs
    intro y D' L' C' hD hlt hsub hcc a' w' hf' hs'
    subst hD
    refine ⟨⟨y, hf'.sub hsub, hcc _ hs'⟩, ?_⟩
    rw [← hxm]
    exact Nat.lt_of_le_of_lt ((leastOf_spec ⟨_, y, rfl, hf'.sub hsub, hcc _ hs'⟩).2 _ ⟨y, rfl, hf'.sub hsub, hcc _ hs'⟩) hlt
  obtain ⟨x, h⟩ := hst
  exact key _ a w ⟨x, rfl, h⟩
theorem St.tief {S : BS} {w0 w : World} {C X : List Assn} {A : Assn} (h : St S w0 (A :: bund X :: C) w) : St S w0 (bund (A :: X) :: C) w := by
  have h1 : St S w0 (bund X :: A :: C) w := h.perm (List.Perm.swap _ _ _)
  have h2 : St S w0 ((A :: X) ++ C) w := h1.untied.perm (List.perm_middle (a := A) (l₁ := X) (l₂ := C))
  exact h2.tied
theorem k_tief {E : Env} {K : Act → World → Prop} {D : List Deferred} {L : List (Nat × Value)} {C C1 X : List Assn} {A : Assn} (i j : Nat) (hn : decide (j :: i :: (List.range C.length).filter fun k => k != i && k != j).Nodup = true) (hC : sel C (j :: i :: (List.range C.length).filter fun k => k != i && k != j) = A :: bund X :: C1)
    (h : KJ E K D L (bund (A :: X) :: C1)) : KJ E K D L C := fun a w hf hs => h a w hf ((St.sel _ hn hC hs).tief)
theorem l_marks {E : Env} {fn : Func} {R : Ending → World → Prop} {D : List Deferred} {L : List (Nat × Value)} {C C1 : List Assn} {rs : List Nat} (i : Nat) (hn : decide (i :: (List.range C.length).filter fun k => k != i).Nodup = true) (hC : sel C (i :: (List.range C.length).filter fun k => k != i) = bund (rs.map defd) :: C1)
    (h : LJ E fn R D L C1) : LJ E fn R (rs.map mark ++ D) L C := by
  have key : ∀ rs : List Nat, LJ E fn R (rs.map mark ++ D) L (bund (rs.map defd) :: C1) := by
    intro rs
    induction rs with
    | nil => exact fun a w hf hs => h a w hf (hs.take (List.sublist_cons_self _ _))
    | cons r rs ih =>
      have h2 : LJ E fn R (mark r :: (rs.map mark ++ D)) L (defd r :: bund (rs.map defd) :: C1) := l_mark 0 rfl rfl (fun a w hf hs => ih a w hf (hs.take (List.sublist_cons_self _ _)))
      intro a w hf hs
      refine h2 a w hf ?_
      have h3 : St E.S E.w0 ((defd r :: rs.map defd) ++ C1) w := St.untied (C1 := defd r :: rs.map defd) hs
      have h4 : St E.S E.w0 (rs.map defd ++ (defd r :: C1)) w := h3.perm (List.perm_middle (a := defd r) (l₁ := rs.map defd) (l₂ := C1)).symm
      exact h4.tied.perm (List.Perm.swap _ _ _)
  exact fun a w hf hs => key rs a w hf (St.sel _ hn hC hs)
theorem l_marks0 {E : Env} {fn : Func} {R : Ending → World → Prop} {L : List (Nat × Value)} {C C1 : List Assn} {rs : List Nat} (i : Nat) (hn : decide (i :: (List.range C.length).filter fun k => k != i).Nodup = true) (hC : sel C (i :: (List.range C.length).filter fun k => k != i) = bund (rs.map defd) :: C1)
    (h : LJ E fn R [] L C1) : LJ E fn R (rs.map mark) L C := by
  have := l_marks (D := []) i hn hC h
  rwa [List.append_nil] at this
end
section
open Go.RowKit
set_option linter.unusedVariables false
section
variable {K : Type} [DecidableEq K] {kV : K → Value}
variable {E : Env} {ops : Array Oper} {Q : Post} {rest : List Oper} {D : List Deferred} {L : List (Nat × Value)} {C : List Assn}
variable {ty : TypeId} {ps : String} {af : Array Edge} {g : Option (Nat × Bool)}
theorem gr_mapdel0 {t kt et : TypeId} {xm xk : Operand} {ts : Array TypeId} {b : Nat} {x : K} {m m' : List (K × Value)} {C' : List Assn} (i : Nat) (hg : gOn ops L g = true) (hm : ev L xm = some (.map (some b))) (hk : ev L xk = some (kV x)) (hts : ts[0]? = some t)
    (ht : E.P.underlying t = some (.map kt et)) (hkt : GKey E.P kt kV) (hC : C[i]? = some (gmp kV b m)) (hm' : gdelK m x = m') (hC' : C.set i (gmp kV b m') = C') (k : RJ E ops Q rest D L C') :
    RJ E ops Q (⟨none, .call { callee := .builtin .delete, args := #[xm, xk], argTypes := ts }, ty, ps, af, g⟩ :: rest) D L C := by
  subst hm' hC'
  intro a w hfr hs
  unfold wpL
  rw [if_pos (gOn_wanted hfr hg)]
  obtain ⟨es, c, he, hi⟩ := hs.holds _ (List.mem_of_getElem? hC)
  have hget : (getObj b).run E.P w = .ok (.map es c) w := MapKept.run_getObj_map he
  rcases grun_find (P := E.P) (w := w) (x := x) hkt hi with ⟨h1, h2⟩ | ⟨j, v0, h1, h2, h3⟩
  · refine wp_value (v := .tuple #[]) (w' := { w with heap := w.heap.setIfInBounds b (.map es c) }) (by simp) ?_ ?_
    · simp [execOp, resolve, invoke, builtin, hfr.ev hm, hfr.ev hk, Builtin.delete_, hts, run_underlying ht, hget, grun_check hkt, h1, MapKept.run_setObj_map _ he]
    · refine k _ _ ⟨hfr.defers, hfr.size, hfr.at_⟩ (hs.upd (b := b) i hC rfl rfl (keeps_set _) (fun _ h => h) ⟨_, _, heap_set he, ?_⟩)
      rw [gdelK_self h2]; exact hi
  · refine wp_value (v := .tuple #[]) (w' := { w with heap := w.heap.setIfInBounds b (.map (es.eraseIdxIfInBounds j) c) }) (by simp) ?_ ?_
    · simp [execOp, resolve, invoke, builtin, hfr.ev hm, hfr.ev hk, Builtin.delete_, hts, run_underlying ht, hget, grun_check hkt, h1, MapKept.run_setObj_map _ he]
    · exact k _ _ ⟨hfr.defers, hfr.size, hfr.at_⟩ (hs.upd (b := b) i hC rfl rfl (keeps_set _) (fun _ h => h) ⟨_, _, heap_set he, hi.del h2⟩)
end
end
end Go.Proofs.Ytlncplfcbmcjgaa
