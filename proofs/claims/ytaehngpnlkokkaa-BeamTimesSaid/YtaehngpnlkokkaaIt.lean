/-
  Ranges over maps, in whatever order; make of a slice.
  No condition: the theorems hold over whatever program.
-/
import Derived.Test.YtaehngpnlkokkaaFm
import Derived.Laws.OwnMore
namespace Go.Proofs.Ytaehngpnlkokkaa
open Go.RowKit
set_option linter.unusedVariables false

theorem lookup_delK {β : Type} {x : Int} : ∀ {l : List (Int × β)}, (delK l x).length ≤ l.length
  | l => List.length_filter_le _ _
theorem delK_lt {β : Type} {x : Int} {y : β} {l : List (Int × β)} (h : (x, y) ∈ l) : (delK l x).length < l.length := by
  unfold delK
  exact List.length_filter_lt_length_iff_exists.2 ⟨_, h, by simp⟩
theorem mem_delK {β : Type} {x : Int} {p : Int × β} {l : List (Int × β)} : p ∈ delK l x ↔ p ∈ l ∧ p.1 ≠ x := by simp [delK]
/-- an iterator over a map: what is left; what came last -/
def mi (r b : Nat) (m left : List (Int × Value)) (cur : Option (Int × Value)) : Assn where
  foot k := k = r ∨ k = b
  wf k := k = r ∨ k = b
  holds w := r ≠ b ∧ ∃ (es : Array MapEntry) (c since : Nat) (seen : Array Nat) (st : Nat), w.heap[b]? = some (.map es c) ∧ MapIs es c m ∧ w.heap[r]? = some (.mapIter (some b) since seen st) ∧ (∀ e ∈ es.toList, e.born < since) ∧ since ≤ st ∧ since ≤ c ∧
    (leftOf es seen).toList.map (fun e => (e.key, e.val)) = left.map (fun p => (Value.int .i64 p.1, p.2)) ∧
    ∀ p, cur = some p → ∃ (e : MapEntry) (seen0 : Array Nat), e ∈ es.toList ∧ seen = seen0.push e.born ∧ st = c ∧ e.key = .int .i64 p.1 ∧ e.val = p.2
  wr := true
  wfoot _ h := h
  whole _ _ h := h
  lt w h k hk := by
    obtain ⟨_, es, c, since, seen, st, h1, _, h2, _⟩ := h
    rcases hk with rfl | rfl
    · exact lt_of_heap h2
    · exact lt_of_heap h1
  keep w w' hk h := by
    obtain ⟨hne, es, c, since, seen, st, h1, h2, h3, h4⟩ := h
    exact ⟨hne, es, c, since, seen, st, (hk b (.inr rfl)).trans h1, h2, (hk r (.inl rfl)).trans h3, h4⟩
theorem mi_none {r b : Nat} {m left : List (Int × Value)} {cur : Option (Int × Value)} : (∀ w, (mi r b m left cur).holds w → (mi r b m left none).holds w) ∧ (∀ k, (mi r b m left none).foot k → (mi r b m left cur).foot k) ∧ ∀ k, (mi r b m left none).wf k → (mi r b m left cur).wf k :=
  ⟨fun w h => by
    obtain ⟨hne, es, c, since, seen, st, h1, h2, h3, h4, h5, h5', h6, _⟩ := h
    exact ⟨hne, es, c, since, seen, st, h1, h2, h3, h4, h5, h5', h6, fun p hp => by cases hp⟩, fun _ h => h, fun _ h => h⟩
theorem mi_mp {r b : Nat} {m left : List (Int × Value)} {cur : Option (Int × Value)} : (∀ w, (mi r b m left cur).holds w → (mp b m).holds w) ∧ (∀ k, (mp b m).foot k → (mi r b m left cur).foot k) ∧ ∀ k, (mp b m).wf k → (mi r b m left cur).wf k :=
  ⟨fun w h => by
    obtain ⟨hne, es, c, since, seen, st, h1, h2, _⟩ := h
    exact ⟨es, c, h1, h2⟩, fun _ h => .inr h, fun _ h => .inr h⟩
theorem born_inj {l : List MapEntry} (h : (l.map (·.born)).Nodup) {x y : MapEntry} (hx : x ∈ l) (hy : y ∈ l) (e : x.born = y.born) : x = y := by
  obtain ⟨i, hi⟩ := List.getElem?_of_mem hx
  obtain ⟨j, hj⟩ := List.getElem?_of_mem hy
  have h1 : (l.map (·.born))[i]? = some x.born := by rw [List.getElem?_map, hi]; rfl
  have h2 : (l.map (·.born))[j]? = some x.born := by rw [List.getElem?_map, hj, e]; rfl
  have h3 := (List.getElem?_inj (List.getElem?_eq_some_iff.1 h1).1 h).1 (h1.trans h2.symm)
  subst h3
  exact Option.some.inj (hi.symm.trans hj)
theorem key_inj {es : Array MapEntry} {c : Nat} {m : List (Int × Value)} (hi : MapIs es c m) {x y : MapEntry} (hx : x ∈ es.toList) (hy : y ∈ es.toList) (e : x.key = y.key) : x = y := by
  have hk : (es.toList.map (·.key)) = (m.map (·.1)).map (Value.int .i64) := by
    have := congrArg (List.map Prod.fst) hi.list
    simpa [Function.comp_def] using this
  have h : (es.toList.map (·.key)).Nodup := by
    rw [hk, List.nodup_iff_pairwise_ne, List.pairwise_map]
    exact hi.keys.imp (fun hne he => hne (by injection he))
  obtain ⟨i, hii⟩ := List.getElem?_of_mem hx
  obtain ⟨j, hj⟩ := List.getElem?_of_mem hy
  have h1 : (es.toList.map (·.key))[i]? = some x.key := by rw [List.getElem?_map, hii]; rfl
  have h2 : (es.toList.map (·.key))[j]? = some x.key := by rw [List.getElem?_map, hj, e]; rfl
  have h3 := (List.getElem?_inj (List.getElem?_eq_some_iff.1 h1).1 h).1 (h1.trans h2.symm)
  subst h3
  exact Option.some.inj (hii.symm.trans hj)
section
variable {E : Env} {ops : Array Oper} {Q : Post} {rest : List Oper} {D : List Deferred} {L : List (Nat × Value)} {C : List Assn}
variable {dst : Option Tmp} {d : Nat} {ty : TypeId} {ps : String} {af : Array Edge} {g : Option (Nat × Bool)}
theorem r_mrange {t kt et : TypeId} {xm : Operand} {b : Nat} {m : List (Int × Value)} (i : Nat) (hg : gOn ops L g = true) (hm : ev L xm = some (.map (some b))) (ht : E.P.underlying t = some (.map kt et)) (hC : C[i]? = some (mp b m)) (hd : Nat.blt d E.n = true)
    (k : ∀ r, RJ E ops Q rest D ((d, .pointer (some ⟨r, 0, none⟩)) :: L) (C.set i (mi r b m m none))) : RJ E ops Q (⟨some d, .range t xm, ty, ps, af, g⟩ :: rest) D L C := by
  intro a w hfr hs
  have hd' : d < E.n := by rw [← Nat.blt_eq]; exact hd
  unfold wpL
  rw [if_pos (gOn_wanted hfr hg)]
  obtain ⟨es, c, he, hi⟩ := hs.holds _ (List.mem_of_getElem? hC)
  have hbl : b < w.heap.size := lt_of_heap he
  have hget : (getObj b).run E.P w = .ok (.map es c) w := MapKept.run_getObj_map he
  refine wp_value (v := .pointer (some ⟨w.heap.size, 0, none⟩)) (w' := w.alloc (.mapIter (some b) c #[] c)) (by simp) ?_ ?_
  · simp [execOp, Instr.range, hfr.ev hm, run_underlying ht, hget, newObj, Sem.run]
  · refine k _ _ _ (hfr.put hd' _) (hs.mv i hC ⟨⟨by omega, es, c, c, #[], c, ?_, hi, heap_alloc_new w _, hi.old, Nat.le_refl _, Nat.le_refl _, ?_, fun p hp => by cases hp⟩, Keeps.alloc _ w _, fun q hq => ?_, fun q hq => ?_⟩)
    · rw [Below.heap_alloc w _ b hbl]; exact he
    · have : leftOf es #[] = es := by unfold leftOf; exact Array.filter_eq_self.2 (by simp)
      rw [this]; exact hi.list
    · rcases hq with rfl | rfl
      · exact .inr (Nat.le_refl _)
      · exact .inl rfl
    · rcases hq with rfl | rfl
      · exact .inr (Nat.le_refl _)
      · exact .inl rfl
theorem left_keys {es : Array MapEntry} {c : Nat} {m left : List (Int × Value)} {seen : Array Nat} (hi : MapIs es c m) (h : (leftOf es seen).toList.map (fun e => (e.key, e.val)) = left.map (fun p => (Value.int .i64 p.1, p.2))) : (left.map (·.1)).Nodup := by
  have h1 : ((leftOf es seen).toList.map (·.key)).Sublist (es.toList.map (·.key)) := by
    unfold leftOf; rw [Array.toList_filter]; exact List.filter_sublist.map _
  have h2 : (es.toList.map (·.key)) = (m.map (·.1)).map (Value.int .i64) := by
    have := congrArg (List.map Prod.fst) hi.list
    simpa [Function.comp_def] using this
  have h3 : ((leftOf es seen).toList.map (·.key)) = (left.map (·.1)).map (Value.int .i64) := by
    have := congrArg (List.map Prod.fst) h
    simpa [Function.comp_def] using this
  rw [h2, h3] at h1
  have h4 : ((m.map (·.1)).map (Value.int .i64)).Nodup := by
    rw [List.nodup_iff_pairwise_ne, List.pairwise_map]
    exact hi.keys.imp (fun hne he => hne (by injection he))
  have h5 := h4.sublist h1
  rw [List.nodup_iff_pairwise_ne, List.pairwise_map] at h5
  rw [List.nodup_iff_pairwise_ne]
  exact h5.imp (fun hne he => hne (by rw [he]))
theorem r_mnext {xi : Operand} {r b : Nat} {m left : List (Int × Value)} {cur : Option (Int × Value)} (i : Nat) (hg : gOn ops L g = true) (hm : ev L xi = some (.pointer (some ⟨r, 0, none⟩))) (hC : C[i]? = some (mi r b m left cur)) (hd : Nat.blt d E.n = true)
    (k0 : left = [] → RJ E ops Q rest D ((d, .tuple [.bool false].toArray) :: L) C)
    (k1 : ∀ x v, (x, v) ∈ left → (left.map (·.1)).Nodup → RJ E ops Q rest D ((d, .tuple [.bool true, .int .i64 x, v].toArray) :: L) (C.set i (mi r b m (delK left x) (some (x, v))))) :
    RJ E ops Q (⟨some d, .next xi false, ty, ps, af, g⟩ :: rest) D L C := by
  intro a w hfr hs
  have hd' : d < E.n := by rw [← Nat.blt_eq]; exact hd
  unfold wpL
  rw [if_pos (gOn_wanted hfr hg)]
  obtain ⟨hne, es, c, since, seen, st, h1, hi, h3, hold, hsc, hsc2, hleft, _⟩ := hs.holds _ (List.mem_of_getElem? hC)
  rcases run_next_at (P := E.P) w ty r b since st seen es c h3 h1 hold hsc with ⟨h0, hr⟩ | ⟨e, he, w1, hw1, hr⟩
  · refine wp_value (v := .tuple #[.bool false]) (w' := w) (by simp) ?_ ?_
    · simp [execOp, hfr.ev hm, hr]
    · refine k0 ?_ _ _ (hfr.put hd' _) hs
      have : (leftOf es seen).toList = [] := by rw [← List.length_eq_zero_iff, Array.length_toList]; exact h0
      rw [this] at hleft
      exact List.map_eq_nil_iff.1 hleft.symm
  · have hmem : (e.key, e.val) ∈ left.map (fun p => (Value.int .i64 p.1, p.2)) := by rw [← hleft]; exact List.mem_map.2 ⟨e, he, rfl⟩
    obtain ⟨p, hp, hpe⟩ := List.mem_map.1 hmem
    obtain ⟨x, v⟩ := p
    simp only [Prod.mk.injEq] at hpe
    obtain ⟨hk, hv⟩ := hpe
    refine wp_value (v := .tuple #[.bool true, e.key, e.val]) (w' := ChangeMaps.setBlock w1 r (.mapIter (some b) since (seen.push e.born) c)) (by simp) ?_ ?_
    · simp [execOp, hfr.ev hm, hr]
    · rw [← hk, ← hv]
      have hnd := left_keys hi hleft
      have hees : e ∈ es.toList := by unfold leftOf at he; rw [Array.toList_filter] at he; exact (List.mem_filter.1 he).1
      have hcs : c = c := rfl
      have hheap : w1.heap = w.heap := by rcases hw1 with rfl | rfl <;> rfl
      refine k1 x v hp hnd _ _ (hfr.put hd' _) (hs.mv i hC ⟨⟨hne, es, c, since, seen.push e.born, c, ?_, hi, ?_, hold, hsc2, hsc2, ?_, fun q hq => ?_⟩, ?_, fun q hq => .inl hq, fun q hq => .inl hq⟩)
      · show (w1.heap.setIfInBounds r _)[b]? = _
        rw [Array.getElem?_setIfInBounds_ne hne, hheap]; exact h1
      · show (w1.heap.setIfInBounds r _)[r]? = _
        rw [Array.getElem?_setIfInBounds_self_of_lt (by rw [hheap]; exact lt_of_heap h3)]
      · have hdk : leftOf es (seen.push e.born) = (leftOf es seen).filter (fun z => !(z.born == e.born)) := by
          unfold leftOf
          rw [Array.filter_filter]
          congr 1
          funext z
          simp only [Array.contains_push, Bool.not_or]
          rw [Bool.and_comm]
        rw [hdk, Array.toList_filter]
        have key : ∀ (l : List MapEntry) (ll : List (Int × Value)), (∀ z ∈ l, z ∈ es.toList) → l.map (fun e => (e.key, e.val)) = ll.map (fun p => (Value.int .i64 p.1, p.2)) →
            (l.filter (fun z => !(z.born == e.born))).map (fun e => (e.key, e.val)) = (delK ll x).map (fun p => (Value.int .i64 p.1, p.2)) := by
          intro l
          induction l with
          | nil => intro ll _ h; cases ll with
            | nil => rfl
            | cons p ll => simp at h
          | cons z l ih =>
            intro ll hz h
            cases ll with
            | nil => simp at h
            | cons p ll =>
              simp only [List.map_cons, List.cons.injEq, Prod.mk.injEq] at h
              have ih' := ih ll (fun y hy => hz y (by simp [hy])) h.2
              have hiff : (z.born = e.born) ↔ (p.1 = x) := by
                constructor
                · intro hb
                  have : z = e := born_inj hi.born (hz z (by simp)) hees hb
                  rw [this] at h
                  have := h.1.1.symm.trans hk.symm
                  injection this
                · intro hx
                  have hze : z.key = e.key := by rw [h.1.1, hx, hk]
                  rw [key_inj hi (hz z (by simp)) hees hze]
              unfold delK at ih' ⊢
              by_cases hx : p.1 = x
              · rw [List.filter_cons_of_neg (by simp [hiff.2 hx]), List.filter_cons_of_neg (by simp [hx])]; exact ih'
              · rw [List.filter_cons_of_pos (by simpa using fun hb => hx (hiff.1 hb)), List.filter_cons_of_pos (by simpa using hx)]
                simp only [List.map_cons, h.1.1, h.1.2, ih']
        exact key _ _ (fun z hz => by unfold leftOf at hz; rw [Array.toList_filter] at hz; exact (List.mem_filter.1 hz).1) hleft
      · cases hq
        exact ⟨e, seen, hees, rfl, rfl, hk.symm, hv.symm⟩
      · refine ⟨?_, ?_, ?_, ?_, fun q hq hn => ?_⟩
        · rcases hw1 with rfl | rfl <;> rfl
        · rcases hw1 with rfl | rfl <;> rfl
        · rcases hw1 with rfl | rfl <;> rfl
        · show w.heap.size ≤ (w1.heap.setIfInBounds r _).size
          simp [hheap]
        · show (w1.heap.setIfInBounds r _)[q]? = _
          rw [Array.getElem?_setIfInBounds_ne (fun e => hn (.inl e.symm)), hheap]
theorem sd_mentry {xi : Operand} {r b : Nat} {m left : List (Int × Value)} {x : Int} {v : Value} (i : Nat) (hg : gOn ops L g = true) (hm : ev L xi = some (.pointer (some ⟨r, 0, none⟩))) (hC : C[i]? = some (mi r b m left (some (x, v)))) :
    SD E ops ⟨dst, .entry xi, ty, ps, af, g⟩ D L C (.tuple [.int .i64 x, v].toArray) :=
  sd_pure hg (by simp) fun a w hfr hs => by
    obtain ⟨hne, es, c, since, seen, st, h1, hi, h3, hold, hsc, hsc2, hleft, hcur⟩ := hs.holds _ (List.mem_of_getElem? hC)
    obtain ⟨e, seen0, he, rfl, rfl, hk, hv⟩ := hcur _ rfl
    have := run_entry_at (P := E.P) w r b since seen0 es st e h3 h1 he hi.born
    simp [execOp, hfr.ev hm, this, hk, hv]
theorem r_mnext_v {β : Type} {f : β → Value} {xi : Operand} {r b : Nat} {m : List (Int × Value)} {ll : List (Int × β)} {cur : Option (Int × Value)} (i : Nat) (hg : gOn ops L g = true) (hm : ev L xi = some (.pointer (some ⟨r, 0, none⟩))) (hC : C[i]? = some (mi r b m (mapV f ll) cur)) (hd : Nat.blt d E.n = true)
    (k0 : ll = [] → RJ E ops Q rest D ((d, .tuple [.bool false].toArray) :: L) C)
    (k1 : ∀ x y, (x, y) ∈ ll → (ll.map (·.1)).Nodup → RJ E ops Q rest D ((d, .tuple [.bool true, .int .i64 x, f y].toArray) :: L) (C.set i (mi r b m (mapV f (delK ll x)) (some (x, f y))))) :
    RJ E ops Q (⟨some d, .next xi false, ty, ps, af, g⟩ :: rest) D L C := by
  refine r_mnext i hg hm hC hd (fun h => k0 (List.map_eq_nil_iff.1 h)) (fun x v hxv hn => ?_)
  obtain ⟨p, hp, hpe⟩ := List.mem_map.1 hxv
  simp only [Prod.mk.injEq] at hpe
  obtain ⟨rfl, rfl⟩ := hpe
  have := k1 p.1 p.2 hp (by simpa [mapV, Function.comp_def] using hn)
  rwa [mapV_delK] at this
theorem made_flat {z : Array Value} {n sz : Nat} (hz : z.size = sz) : (madeCells z (n * sz)).toList = (List.replicate n z.toList).flatten := by
  subst hz
  induction n with
  | zero => simp [madeCells]
  | succ n ih =>
    rw [List.replicate_succ', List.flatten_append, ← ih]
    simp only [List.flatten_cons, List.flatten_nil, List.append_nil]
    refine List.ext_getElem? fun i => ?_
    have hl : (madeCells z (n * z.size)).toList.length = n * z.size := by simp [madeCells]
    by_cases h1 : i < n * z.size
    · rw [List.getElem?_append_left (by omega)]
      have h2 : i < (n + 1) * z.size := by rw [Nat.succ_mul]; omega
      simp [madeCells, h1, h2]
    · rw [List.getElem?_append_right (by omega), hl]
      by_cases h2 : i < (n + 1) * z.size
      · have h3 : i - n * z.size < z.size := by rw [Nat.succ_mul] at h2; omega
        have e : i = (i - n * z.size) + n * z.size := by omega
        have h4 : i % z.size = i - n * z.size := ((congrArg (· % z.size) e).trans (Nat.add_mul_mod_self_right _ _ _)).trans (Nat.mod_eq_of_lt h3)
        simp [madeCells, h2, h4, h3]
      · have h3 : z.toList.length ≤ i - n * z.size := by rw [Nat.succ_mul] at h2; simp; omega
        rw [List.getElem?_eq_none h3]
        simp [madeCells]; omega
theorem r_mks {t e sz by_ n : Nat} {z : Value} {xl xc : Operand} {j : Int} {es : List (List Value)} (hg : gOn ops L g = true) (hl : ev L xl = some (.int .i64 j)) (hc : ev L xc = some (.int .i64 j)) (ht : tA E.P t = some (e, sz, by_, z)) (hj : j = (n : Int)) (hb : by_ * n ≤ 281474976710656) (hm : n ≤ maxLen)
    (hes : List.replicate n z.cells.toList = es) (hd : Nat.blt d E.n = true) (k : ∀ b, RJ E ops Q rest D ((d, .slice (some ⟨b, 0, none⟩) n n) :: L) (own (some ⟨b, 0, none⟩) n e sz es :: C)) :
    RJ E ops Q (⟨some d, .makeSlice t xl xc, ty, ps, af, g⟩ :: rest) D L C := by
  subst hj hes
  intro a w hfr hs
  have hd' : d < E.n := by rw [← Nat.blt_eq]; exact hd
  unfold wpL
  rw [if_pos (gOn_wanted hfr hg)]
  obtain ⟨inf, hu, hi, hz, h3, h4, h5⟩ := tA_out ht
  subst h4
  obtain ⟨w', hr, hown, hk⟩ := run_make_full (P := E.P) w 0 t e inf z sz hu hi hz h3 .i64 .i64 n hb hm (Nat.zero_le _)
  refine wp_value (v := .slice (some ⟨w.heap.size, 0, none⟩) n n) (w' := w') (by simp) ?_ ?_
  · simp [execOp, hfr.ev hl, hfr.ev hc, hr]
  · refine k _ _ _ (hfr.put hd' _) (hs.grow (N := [own (some ⟨w.heap.size, 0, none⟩) n e sz (List.replicate n z.cells.toList)]) ⟨hk.os, hk.tape, hk.output, hk.size, fun q hq _ => hk.block q hq (by simp)⟩ ⟨fun A hA => ?_, fun A hA b hb => ?_, List.pairwise_singleton _ _⟩)
    · simp at hA; subst hA
      refine ⟨fun x hx => by rw [List.eq_of_mem_replicate hx]; simpa using h5, ?_⟩
      rw [made_flat h5] at hown
      simpa using hown
    · simp at hA; subst hA
      obtain ⟨ad, h1, h2⟩ := hb
      cases h1; exact Nat.le_of_eq h2.symm
end
end Go.Proofs.Ytaehngpnlkokkaa
