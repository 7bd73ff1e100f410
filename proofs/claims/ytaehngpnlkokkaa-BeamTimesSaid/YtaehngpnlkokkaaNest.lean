/-
  Rows whose elements have rows of their own.
  No condition: the theorems hold over whatever program.
-/
import Derived.Test.YtaehngpnlkokkaaGrow
namespace Go.Proofs.Ytaehngpnlkokkaa
open Go.RowKit
set_option linter.unusedVariables false
/-- where a row lies, and its capacity -/
abbrev RA := Option Addr × Nat
/-- what is asked of memory by all elements -/
def nest {M A : Type} (f : M → A → List Assn) : List M → List A → List Assn
  | m :: ms, a :: as => f m a ++ nest f ms as
  | _, _ => []
theorem mem_nest {M A : Type} {f : M → A → List Assn} : ∀ {ms : List M} {as : List A} {k : Nat} {m : M} {a : A} {X : Assn}, ms[k]? = some m → as[k]? = some a → X ∈ f m a → X ∈ nest f ms as
  | [], _, k, m, a, X, h, _, _ => by simp at h
  | _ :: _, [], k, m, a, X, _, h, _ => by simp at h
  | x :: ms, y :: as, 0, m, a, X, h, h2, hX => by
    simp at h h2; subst h h2
    exact List.mem_append_left _ hX
  | x :: ms, y :: as, k + 1, m, a, X, h, h2, hX => List.mem_append_right _ (mem_nest (ms := ms) (as := as) (k := k) (by simpa using h) (by simpa using h2) hX)
theorem nest_mem {M A : Type} {f : M → A → List Assn} : ∀ {ms : List M} {as : List A} {X : Assn}, X ∈ nest f ms as → ∃ (k : Nat) (m : M) (a : A), ms[k]? = some m ∧ as[k]? = some a ∧ X ∈ f m a
  | [], _, X, h => by cases h
  | _ :: _, [], X, h => by cases h
  | x :: ms, y :: as, X, h => by
    rcases List.mem_append.1 h with h | h
    · exact ⟨0, x, y, rfl, rfl, h⟩
    · obtain ⟨k, m, a, h1, h2, h3⟩ := nest_mem h
      exact ⟨k + 1, m, a, by simpa using h1, by simpa using h2, h3⟩
theorem nest_append {M A : Type} {f : M → A → List Assn} : ∀ {ms : List M} {as : List A} {ns : List M} {bs : List A}, ms.length = as.length → nest f (ms ++ ns) (as ++ bs) = nest f ms as ++ nest f ns bs
  | [], [], ns, bs, _ => rfl
  | [], _ :: _, ns, bs, h => by simp at h
  | _ :: _, [], ns, bs, h => by simp at h
  | x :: ms, y :: as, ns, bs, h => by
    simp only [List.cons_append, nest, List.append_assoc]
    rw [nest_append (by simpa using h)]
theorem zip_get {M A β : Type} {f : M → A → β} {ms : List M} {as : List A} {k : Nat} {m : M} {a : A} (h : ms[k]? = some m) (h2 : as[k]? = some a) : (List.zipWith f ms as)[k]? = some (f m a) := by
  rw [List.getElem?_zipWith, h, h2]
theorem has_in {C L : List Assn} {A : Assn} (i : Nat) (hC : C[i]? = some (bun L)) (hm : A ∈ L) : Has C A.holds := fun w hw => hw _ (List.mem_of_getElem? hC) A hm
theorem has_inr {C L : List Assn} {A : Assn} (i : Nat) (hC : C[i]? = some (bun L).ro) (hm : A ∈ L) : Has C A.holds := fun w hw => hw _ (List.mem_of_getElem? hC) A hm
theorem has_inb {C L : List Assn} {A : Assn} (i : Nat) (hC : C[i]? = some (bund L)) (hm : A ∈ L) : Has C A.holds := fun w hw => (hw _ (List.mem_of_getElem? hC)).1 A hm
theorem own_has {C : List Assn} {a : Option Addr} {c e sz n : Nat} {es : List (List Value)} (h : Has C (own a c e sz es).holds) (hn : es.length = n) : Has C (rd a n sz es).holds := fun w hw => by subst hn; exact own_rd (h w hw)
theorem bun_bund {M A : Type} {f g : M → A → List Assn} {ms : List M} {as : List A} {C : List Assn} (i : Nat) (hC : C[i]? = some (bund (nest g ms as))) (h : ∀ m a w, (∀ X ∈ g m a, X.holds w) → ∀ X ∈ f m a, X.holds w) : Has C (bun (nest f ms as)).holds := fun w hw X hX => by
  have hb := hw _ (List.mem_of_getElem? hC)
  obtain ⟨k, m, a, h1, h2, h3⟩ := nest_mem hX
  exact h m a w (fun Y hY => hb.1 Y (mem_nest h1 h2 hY)) X h3
/-- a row that is part of another one -/
theorem rd_take {C : List Assn} {A : Option Addr} {n k sz : Nat} {es : List (List Value)} (hR : Has C (rd A n sz es).holds) (hk : k ≤ n) : Has C (rd A k sz (es.take k)).holds := fun w hw => by
  obtain ⟨h1, h2, h3⟩ := hR w hw
  refine ⟨by rw [List.length_take, h1]; omega, fun x hx => h2 x (List.mem_of_mem_take hx), fun hp => ?_⟩
  have hk0 : 0 < k := Nat.pos_of_mul_pos_right hp
  have hs : 0 < sz := Nat.pos_of_mul_pos_left hp
  obtain ⟨ad, hA, hc2⟩ := h3 (Nat.mul_pos (by omega) hs)
  refine ⟨ad, hA, fun i e j v he hv => hc2 i e j v ?_ hv⟩
  rw [List.getElem?_take] at he
  split at he
  · exact he
  · cases he
section
variable {E : Env} {ops : Array Oper} {Q : Post} {rest : List Oper} {D : List Deferred} {L : List (Nat × Value)} {C : List Assn}
variable {d : Nat} {ty : TypeId} {ps : String} {af : Array Edge} {g : Option (Nat × Bool)}
/-- an element of a slice that is the head of a row -/
theorem IAH (k : Nat) {x ix : Operand} {A : Option Addr} {n n' c sz e t : Nat} {es : List (List Value)} {j : Int} (h : bF E.n ops L d g x ix = some (.slice A n' c, .int .i64 j)) (hR : Has C (rd A n sz es).holds)
    (ht : tE E.P t = some (e, sz)) (hz : 0 < sz) (hj : j = (k : Int)) (hk : k < n') (hn : n' ≤ n) : SE E ops ⟨some d, .indexAddr t x ix, ty, ps, af, g⟩ D L C (.pointer (padd A (k * sz))) d := IA k h (rd_take hR hn) ht hz hj hk
end
/-! ### things that are tied together -/
theorem St.tie {S : BS} {w0 w : World} {C : List Assn} {A : Assn} {L L' : List Assn} (h : St S w0 (A :: bund L :: C) w) (e : L ++ [A] = L') : St S w0 (bund L' :: C) w := by
  subst e
  have h1 : St S w0 (bund L :: A :: C) w := h.perm (List.Perm.swap _ _ _)
  have h2 : St S w0 (L ++ (A :: C)) w := h1.untied
  have h3 : St S w0 ((L ++ [A]) ++ C) w := by simpa using h2
  exact h3.tied
theorem St.tie0 {S : BS} {w0 w : World} {C : List Assn} (h : St S w0 C w) : St S w0 (bund [] :: C) w := St.tied (C1 := []) h
section
variable {E : Env} {Q : Post} {D : List Deferred} {L : List (Nat × Value)} {C : List Assn}
theorem w_tie0 {c : Code} (h : WJ E c Q D L (bund [] :: C)) : WJ E c Q D L C := fun a w hf hs => h a w hf hs.tie0
theorem r_tie0 {ops : Array Oper} {rest : List Oper} (h : RJ E ops Q rest D L (bund [] :: C)) : RJ E ops Q rest D L C := fun a w hf hs => h a w hf hs.tie0
theorem k_tie {K : Act → World → Prop} {C1 : List Assn} {A : Assn} {X X' : List Assn} (i j : Nat) (hn : decide (j :: i :: (List.range C.length).filter fun k => k != i && k != j).Nodup = true) (hC : sel C (j :: i :: (List.range C.length).filter fun k => k != i && k != j) = A :: bund X :: C1) (e : X ++ [A] = X')
    (h : KJ E K D L (bund X' :: C1)) : KJ E K D L C := fun a w hf hs => h a w hf ((St.sel _ hn hC hs).tie e)
theorem r_tie {ops : Array Oper} {rest : List Oper} {C1 : List Assn} {A : Assn} {X X' : List Assn} (i j : Nat) (hn : decide (j :: i :: (List.range C.length).filter fun k => k != i && k != j).Nodup = true) (hC : sel C (j :: i :: (List.range C.length).filter fun k => k != i && k != j) = A :: bund X :: C1) (e : X ++ [A] = X')
    (h : RJ E ops Q rest D L (bund X' :: C1)) : RJ E ops Q rest D L C := fun a w hf hs => h a w hf ((St.sel _ hn hC hs).tie e)
end
end Go.Proofs.Ytaehngpnlkokkaa
