/-
  Slices of slices; the capacity; room made by append.
  No condition: the theorems hold over whatever program.
-/
import Derived.Test.YtaehngpnlkokkaaShort
namespace Go.Proofs.Ytaehngpnlkokkaa
open Go.RowKit
set_option linter.unusedVariables false
/-- what of a slice is left from k on -/
def sub1 (A : Option Addr) (c k sz : Nat) : Option Addr := if c = k then A else A.map (·.add (k * sz))
section
variable {E : Env} {ops : Array Oper} {Q : Post} {rest : List Oper} {D : List Deferred} {L : List (Nat × Value)} {C : List Assn}
variable {d : Nat} {ty : TypeId} {ps : String} {af : Array Edge} {g : Option (Nat × Bool)}
theorem tE_size {P : Program} {t e sz : Nat} (h : tE P t = some (e, sz)) (w : World) : P.underlying t = some (.slice e) ∧ (sizeOf e).run P w = .ok sz w := by
  unfold tE at h
  split at h
  · rename_i e' hu
    split at h
    · rename_i i hi
      cases h
      exact ⟨hu, by simp [sizeOf, typeInfo, hi]⟩
    · cases h
  · cases h
theorem elem_of {P : Program} {t e : Nat} (h : P.underlying t = some (.slice e)) : P.underlying t = some (.slice (P.elem t)) := by
  rw [h]; simp [Program.elem, h]
theorem elem_is {P : Program} {t e : Nat} (h : P.underlying t = some (.slice e)) : P.elem t = e := by simp [Program.elem, h]
/-- s[k:] -/
theorem SLO (k : Nat) {x lo : Operand} {t e sz n c : Nat} {A : Option Addr} {j : Int} (h : bF E.n ops L d g x lo = some (.slice A n c, .int .i64 j)) (ht : tE E.P t = some (e, sz)) (hj : j = (k : Int)) (hk : k ≤ n) :
    SE E ops ⟨some d, .slice t x (some lo) none none, ty, ps, af, g⟩ D L C (.slice (sub1 A c k sz) (n - k) (c - k)) d := by
  obtain ⟨h1, h2, h3, h4⟩ := bF_out h
  subst hj
  refine ⟨sd_pure h1 (by simp) fun a w hfr hs => ?_, rfl, h2⟩
  obtain ⟨hu, hz⟩ := tE_size ht w
  have hr := run_slice_l (P := E.P) w t A n c (elem_of hu) .i64 (k : Int) (by omega) (by omega)
  rw [elem_is hu, hz] at hr
  simp only [Result.andThen, Int.toNat_natCast, sliced] at hr
  have hs2 := run_sliceAt_slice (P := E.P) w t (.slice A n c) (some (.int .i64 (k : Int))) none none (elem_of hu)
  simp [execOp, hfr.ev h3, hfr.ev h4, hs2, hr, sub1]
/-- s[:k] -/
theorem SHI (k : Nat) {x hi : Operand} {t e sz n c : Nat} {A : Option Addr} {j : Int} (h : bF E.n ops L d g x hi = some (.slice A n c, .int .i64 j)) (ht : tE E.P t = some (e, sz)) (hj : j = (k : Int)) (hk : k ≤ c) :
    SE E ops ⟨some d, .slice t x none (some hi) none, ty, ps, af, g⟩ D L C (.slice A k c) d := by
  obtain ⟨h1, h2, h3, h4⟩ := bF_out h
  subst hj
  refine ⟨sd_pure h1 (by simp) fun a w hfr hs => ?_, rfl, h2⟩
  obtain ⟨hu, hz⟩ := tE_size ht w
  have hr := run_slice_h (P := E.P) w t A n c (elem_of hu) .i64 (k : Int) (by omega) (by omega)
  rw [elem_is hu, hz] at hr
  have e0 : (if c = 0 then A else A.map (·.add (0 * sz))) = A := by
    split
    · rfl
    · cases A with
      | none => rfl
      | some ad => simp [Addr.add]
  simp only [Result.andThen, Int.toNat_natCast, sliced, e0, Nat.sub_zero] at hr
  have hs2 := run_sliceAt_slice (P := E.P) w t (.slice A n c) none (some (.int .i64 (k : Int))) none (elem_of hu)
  simp [execOp, hfr.ev h3, hfr.ev h4, hs2, hr]
theorem CAP {x : Operand} {t e : TypeId} {A : Option Addr} {n c : Nat} (h : vF E.n ops L d g x = some (.slice A n c)) (ht : E.P.underlying t = some (.slice e)) :
    SE E ops ⟨some d, .call { callee := .builtin .cap, args := #[x], argTypes := #[t] }, ty, ps, af, g⟩ D L C (.int .i64 c) d := by
  obtain ⟨h1, h2, h3⟩ := vF_out h
  refine ⟨sd_pure h1 (by simp) fun a w hfr hs => ?_, rfl, h2⟩
  simp [execOp, resolve, invoke, builtin, hfr.ev h3, Builtin.cap_, run_underlying ht, goInt]
/-- append(nil[:0], make([]T, n)...): an empty row with room -/
theorem r_room {s x : Operand} {t it e sz by_ n : Nat} {z : Value} {k0 : IntKind} (h : gB E.n ops L d g = true) (hs : ev L s = some (.slice none 0 0)) (hx : ev L x = some (.int .i64 (n : Int))) (ht : tA E.P t = some (e, sz, by_, z)) (hit : E.P.underlying it = some (.int k0)) (hsz : Nat.blt 0 sz = true)
    (hn : 0 < n) (hn2 : n ≤ 1000) (hb2 : by_ ≤ 1000)
    (k : ∀ (b c : Nat), n ≤ c → RJ E ops Q rest D ((d, .slice (some ⟨b, 0, none⟩) n c) :: L) (own (some ⟨b, 0, none⟩) c e sz [] :: C)) :
    RJ E ops Q (⟨some d, .call { callee := .builtin .append, args := #[s, x], argTypes := #[t, it] }, ty, ps, af, g⟩ :: rest) D L C := by
  intro act w hfr hst
  have hd' : d < E.n := by rw [← Nat.blt_eq]; exact gB2 h
  have hsz' : 0 < sz := by rw [← Nat.blt_eq]; exact hsz
  obtain ⟨inf, hu, hi, hz, h3, h4, h5⟩ := tA_out ht
  unfold wpL
  rw [if_pos (gOn_wanted hfr (gB1 h))]
  have hw64 : IntKind.i64.wrap (n : Int) = (n : Int) := wrap_in ⟨by omega, by omega⟩
  have hge := grownCap_ge w n 0 e
  have hcm : grownCap w n 0 e ≤ maxLen := grownCap_le_maxLen w n 0 e (by simp only [maxLen]; omega)
  have hnc : Builtin.nextslicecap n 0 = n := by simp [Builtin.nextslicecap, hn]
  have hby : n * inf.bytes ≤ 1000000 := by rw [h4]; exact Nat.mul_le_mul hn2 hb2
  have hz0 : ¬ (n * inf.size = 0) := by rw [h3]; exact Nat.ne_of_gt (Nat.mul_pos hn hsz')
  have g1 : ¬ ((n : Int) < 0) := by omega
  have g2 : ¬ (281474976710656 < (n : Int) * (inf.bytes : Int)) := by
    have : ((n * inf.bytes : Nat) : Int) ≤ 1000000 := by omega
    rw [Int.natCast_mul] at this; omega
  have g3 : ¬ (n ≤ 0) := by omega
  have g4 : ¬ (9223372036854775807 < (n : Int)) := by omega
  have g5 : ¬ (281474976710656 < n * inf.bytes) := by omega
  have hrun : (Builtin.append_ #[t, it] ty #[.slice none 0 0, .int .i64 (n : Int)]).run E.P w = .ok (.slice (some ⟨w.heap.size, 0, none⟩) n (grownCap w n 0 e)) (w.drew.alloc (.cells (Builtin.zeroCells z.cells n ++ Builtin.zeroCells z.cells (grownCap w n 0 e - n)) e)) := by
    have hn0 : ¬ (n = 0) := by omega
    simp [Builtin.append_, run_underlying hu, run_underlying hit, sizeOf, typeInfo, zeroValue, hi, hz, hw64, g2, g4, g5, hnc, hz0, hn0, Question.forced, newRow, grownCap, Builtin.firstCells, Builtin.lenOf, asInt, asIntOf]
    exact fun h => absurd h g1
  refine wp_value (by simp) (w' := w.drew.alloc (.cells (Builtin.zeroCells z.cells n ++ Builtin.zeroCells z.cells (grownCap w n 0 e - n)) e)) (v := .slice (some ⟨w.heap.size, 0, none⟩) n (grownCap w n 0 e)) ?_ ?_
  · simp [execOp, resolve, invoke, builtin, hfr.ev hs, hfr.ev hx, hrun]
  · refine k w.heap.size (grownCap w n 0 e) hge _ _ (hfr.put hd' _) ?_
    have hkeep : Keeps no w (w.drew.alloc (.cells (Builtin.zeroCells z.cells n ++ Builtin.zeroCells z.cells (grownCap w n 0 e - n)) e)) := (Keeps.drew no w).trans (Keeps.alloc no w.drew _)
    refine hst.grow (N := [own (some ⟨w.heap.size, 0, none⟩) (grownCap w n 0 e) e sz []]) hkeep ⟨?_, ?_, by simp⟩
    · intro A hA
      simp only [List.mem_singleton] at hA
      subst hA
      refine ⟨by simp, by simp, .inr ⟨w.heap.size, grownCap w n 0 e, _, rfl, Nat.zero_le _, heap_alloc_new w.drew _, Nat.zero_le _, hcm, ?_, by simp⟩⟩
      simp only [Array.size_append, size_zeroCells, h5, ← Nat.add_mul]
      congr 1; omega
    · intro A hA b hb
      simp only [List.mem_singleton] at hA
      subst hA
      obtain ⟨ad, e1, rfl⟩ := hb
      cases e1; exact Nat.le_refl _
end
theorem rd_sub {C : List Assn} {A : Option Addr} {n c k sz : Nat} {es : List (List Value)} (hR : Has C (rd A n sz es).holds) (hk : k ≤ n) (hc : n ≤ c) : Has C (rd (sub1 A c k sz) (n - k) sz (es.drop k)).holds := fun w hw => by
  obtain ⟨h1, h2, h3⟩ := hR w hw
  refine ⟨by rw [List.length_drop, h1], fun x hx => h2 x (List.mem_of_mem_drop hx), fun hp => ?_⟩
  have hnk : 0 < n - k := Nat.pos_of_mul_pos_right hp
  have hs : 0 < sz := Nat.pos_of_mul_pos_left hp
  obtain ⟨ad, hA, hc2⟩ := h3 (Nat.mul_pos (by omega) hs)
  refine ⟨ad.add (k * sz), ?_, fun i e j v he hv => ?_⟩
  · unfold sub1; rw [if_neg (by omega), hA]; rfl
  · rw [List.getElem?_drop] at he
    have := hc2 (k + i) e j v he hv
    rw [add_add, show k * sz + (i * sz + j) = (k + i) * sz + j by rw [Nat.add_mul, Nat.add_assoc]]
    exact this
theorem own_cap {w : World} {a : Option Addr} {c e sz : Nat} {es : List (List Value)} (h : (own a c e sz es).holds w) : es.length ≤ c := by
  rcases h.2.2 with ⟨h1, h2⟩ | ⟨g, cap, cur, hv, _, _, h4, _⟩
  · omega
  · injection hv with _ _ hc; omega
theorem rd_sub_own {C : List Assn} {a : Option Addr} {c e k sz n : Nat} {es : List (List Value)} (i : Nat) (hC : C[i]? = some (own a c e sz es)) (hn : es.length = n) (hk : k ≤ n) : Has C (rd (sub1 a c k sz) (n - k) sz (es.drop k)).holds := fun w hw => by
  subst hn
  exact rd_sub (has_own i hC) hk (own_cap (hw _ (List.mem_of_getElem? hC))) w hw
end Go.Proofs.Ytaehngpnlkokkaa
